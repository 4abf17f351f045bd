/- Contracts of the functions of the program, each one with its plain Lean function; written by a program of the session out of the translation. -/
import Derived.Test.YtklikbjlfaednaaPx0
import Derived.Test.YtklikbjlfaednaaPx9
namespace Go.Proofs.Ytklikbjlfaednaa.P
open Go.RowKit Go.Proofs.YtklikbjlfaednaaW.PrintWords Go.Proofs.YtklikbjlfaednaaW.PrintLast Go.Proofs.YtklikbjlfaednaaW.PrintMore
attribute [local go_sem] max2_int min2_int max_two min_two max_three min_three max_four min_four   -- for this text's walks alone
set_option linter.unusedVariables false
set_option linter.unusedSimpArgs false

/-! ### impl_Train_booked: function 73, by hand -/

theorem hd_rd66 (l : List S66) (j : Nat) (h : j < l.length) : rd_T66 l (j : Int) = l[j] := by
  unfold rd_T66; rw [Int.toNat_natCast]; simp [List.getD_eq_getElem?_getD, h]
theorem idxB_hit (id : Int) (l : List S66) (k : Nat) (hk : k < l.length) (h : (rd_T66 l (k : Int)).f0 = id) (hb : ∀ j, j < k → ¬ (rd_T66 l (j : Int)).f0 = id) : impl_Unbook.l1 l id = (k : Int) := by
  have hf : l.findIdx (fun o => o.f0 == id) = k := by
    rw [List.findIdx_eq hk]
    refine ⟨by rw [← hd_rd66 l k hk]; simpa using h, fun j hj => ?_⟩
    have := hb j hj
    rw [hd_rd66 l j (by omega)] at this
    simpa using this
  unfold impl_Unbook.l1; rw [hf, if_pos hk]
theorem idxB_miss (id : Int) (l : List S66) (hb : ∀ j, j < l.length → ¬ (rd_T66 l (j : Int)).f0 = id) : impl_Unbook.l1 l id = -1 := by
  have : ¬ l.findIdx (fun o => o.f0 == id) < l.length := by
    rw [List.findIdx_lt_length]
    rintro ⟨x, hx, hpx⟩
    obtain ⟨j, hj, rfl⟩ := List.getElem_of_mem hx
    have := hb j hj
    rw [hd_rd66 l j hj] at this
    simp [this] at hpx
  unfold impl_Unbook.l1; rw [if_neg this]
theorem hd_bk81 (o : S66) (B : Nat) (id : Int) (w : World) (hc : w.cell? ⟨B, 0, none⟩ = some (.int .i64 id)) (r : Bool) (hr : (o.f0 == id) = r) :
    Calls Try.prog 81 #[.agg #[.int .i64 o.f0, .int .i64 o.f1, .int .i64 o.f2, .int .i64 o.f3], .pointer (some ⟨B, 0, none⟩)] w fun e w' => e = .returned (.bool r) ∧ Below w.heap.size w w' := by
  have hu66 := Try.underlying66
  have hB := World.block_lt_of_cell? w _ hc
  have hne : B ≠ w.heap.size := by simp only at hB; omega
  have HR := Aside0.mk hr
  clear hr
  go_enter Try.func81, Try.ntmps81
  go_wp2
  all_goals (go_ret; exact ⟨by rw [← HR.out]; rfl, by first | exact (Below.refl _ _).alloc (Nat.le_refl _) _⟩)
set_option maxHeartbeats 2000000 in
theorem hd_indexB (B : Nat) (id : Int) (A : Option Addr) (c : Nat) (l : List S66) (w : World) (hr : Kd.C k66 w A l.length l) (hc : w.cell? ⟨B, 0, none⟩ = some (.int .i64 id)) :
    Calls Try.prog 80 #[.slice A l.length c, .func (.func 81) #[] #[.pointer (some ⟨B, 0, none⟩)]] w fun e w' => e = .returned (.int .i64 (impl_Unbook.l1 l id)) ∧ Below w.heap.size w w' := by
  have hu66 := Try.underlying66
  have hbig := hr.2.1
  have HR := Aside0.mk hr
  have HC := Aside0.mk hc
  clear hr hc
  go_enter Try.func80, Try.ntmps80
  go_wp2
  go_loopg [5, 8] l.length (fun gg _ s8 wr => ∃ kk : Nat, kk ≤ l.length ∧ l.length - kk ≤ gg ∧ s8 = .int .i64 kk ∧ Aside0 (Below w.heap.size w wr) ∧ Aside0 (∀ j, j < kk → ¬ (rd_T66 l (j : Int)).f0 = id))
  case atStart => exact ⟨0, Nat.zero_le _, by omega, rfl, ⟨Below.refl _ w⟩, ⟨fun j hj => absurd hj (Nat.not_lt_zero _)⟩⟩
  case round =>
    obtain ⟨kk, hkk, hg, rfl, BW, AA⟩ := hrel
    by_cases hlt : kk < l.length
    · have hltz : (kk : Int) < (l.length : Int) := by omega
      have hnn : (0 : Int) ≤ (kk : Int) := Int.natCast_nonneg kk
      obtain ⟨ad, e, hx0, hx1, hx2, hx3⟩ := at_T66 HR.out kk hnn hltz
      cases e
      rw [Int.toNat_natCast] at hx0 hx1 hx2 hx3
      replace hx0 := (BW.out.cell (World.block_lt_of_cell? w _ hx0)).trans hx0
      replace hx1 := (BW.out.cell (World.block_lt_of_cell? w _ hx1)).trans hx1
      replace hx2 := (BW.out.cell (World.block_lt_of_cell? w _ hx2)).trans hx2
      replace hx3 := (BW.out.cell (World.block_lt_of_cell? w _ hx3)).trans hx3
      have hcc : wr.cell? ⟨B, 0, none⟩ = some (.int .i64 id) := (BW.out.cell (World.block_lt_of_cell? w _ HC.out)).trans HC.out
      obtain ⟨y, hy⟩ : ∃ y, rd_T66 l (kk : Int) = y := ⟨_, rfl⟩
      rw [hy] at hx0 hx1 hx2 hx3
      have Y := Aside0.mk hy
      clear hy
      have CC := Aside0.mk hcc
      clear hcc
      cases hq : (y.f0 == id) with
      | true =>
        have Q := Aside0.mk hq
        clear hq
        go_wp2_with (go_at_call 81; refine (hd_bk81 y B id _ CC.out true Q.out).mono ?_; rintro e w' ⟨rfl, hb'⟩)
        go_ret
        refine ⟨?_, below_step BW.out hb'⟩
        rw [idxB_hit id l kk hlt (by rw [Y.out]; simpa using Q.out) AA.out]
        rfl
      | false =>
        have Q := Aside0.mk hq
        clear hq
        go_wp2_with (go_at_call 81; refine (hd_bk81 y B id _ CC.out false Q.out).mono ?_; rintro e w' ⟨rfl, hb'⟩)
        go_roundg (l.length - (kk + 1))
        case measure => omega
        case rel =>
          refine ⟨kk + 1, by omega, by omega, by go_num, ⟨below_step BW.out hb'⟩, ⟨fun j hj => ?_⟩⟩
          by_cases e : j = kk
          · subst e
            rw [Y.out]; simpa using Q.out
          · exact AA.out j (by omega)
    · have hltz : ¬ (kk : Int) < (l.length : Int) := by omega
      have : kk = l.length := by omega
      subst this
      go_wp2
      go_ret
      refine ⟨?_, BW.out⟩
      rw [idxB_miss id l AA.out]
      rfl
theorem hd_booked (a b : Int) (A : Option Addr) (c : Nat) (l : List S66) (id : Int) (w : World) (hr : Kd.C k66 w A l.length l) :
    Calls Try.prog 73 #[.agg #[.int .i64 a, .int .i64 b, .slice A l.length c], .int .i64 id] w fun e w' => e = .returned (.int .i64 (impl_Unbook.l1 l id)) ∧ Below w.heap.size w w' := by
  have hu29 := Try.underlying29
  have HR := Aside0.mk hr
  clear hr
  go_enter Try.func73, Try.ntmps73
  go_wp2_with (go_at_call 80; refine (hd_indexB (w.heap.size + 1) id A c l _ (Kd.C_below HR.out (below_alloc (below_alloc (Below.refl _ _) _) _)) (by first | (simp; done) | go_simp)).mono ?_; rintro e w' ⟨rfl, hb'⟩)
  go_ret
  exact ⟨rfl, below_step (below_alloc (below_alloc (Below.refl _ _) _) _) hb'⟩
def cells66 (x : S66) : List Value := [.int .i64 x.f0, .int .i64 x.f1, .int .i64 x.f2, .int .i64 x.f3]
def flat66 (l : List S66) : List Value := l.flatMap cells66
theorem flat66_length (l : List S66) : (flat66 l).length = l.length * 4 := by
  induction l with
  | nil => rfl
  | cons x t ih => unfold flat66 at ih ⊢; rw [List.flatMap_cons, List.length_append, ih, List.length_cons]; simp [cells66]; omega
theorem flat66_append (l m : List S66) : flat66 (l ++ m) = flat66 l ++ flat66 m := List.flatMap_append
theorem flat66_take (l : List S66) (i : Nat) : flat66 (l.take i) = (flat66 l).take (i * 4) := by
  by_cases h : i ≤ l.length
  · have e : flat66 l = flat66 (l.take i) ++ flat66 (l.drop i) := by rw [← flat66_append, List.take_append_drop]
    rw [e, List.take_left' (by rw [flat66_length, List.length_take]; omega)]
  · rw [List.take_of_length_le (by omega), List.take_of_length_le (by rw [flat66_length]; omega)]
theorem flat66_drop (l : List S66) (i : Nat) : flat66 (l.drop i) = (flat66 l).drop (i * 4) := by
  by_cases h : i ≤ l.length
  · have e : flat66 l = flat66 (l.take i) ++ flat66 (l.drop i) := by rw [← flat66_append, List.take_append_drop]
    rw [e, List.drop_left' (by rw [flat66_length, List.length_take]; omega)]
  · rw [List.drop_of_length_le (by omega), List.drop_of_length_le (by rw [flat66_length]; omega)]; rfl
theorem flat66_one (l : List S66) : ∀ u, u ∈ flat66 l → u.oneCell' = true := by
  intro u hu
  obtain ⟨x, _, hx⟩ := List.mem_flatMap.1 hu
  simp only [cells66, List.mem_cons, List.not_mem_nil, or_false] at hx
  rcases hx with rfl | rfl | rfl | rfl <;> rfl
theorem reps_flat66 {R : S66 → List Value → Prop} (hR : ∀ x c, R x c → c = cells66 x) : ∀ (l : List S66) (inner : List Value), Reps R 4 l inner → inner = flat66 l
  | [], inner, h => List.eq_nil_of_length_eq_zero (by have := h.1; simpa using this)
  | x :: t, inner, h => by
    have h0 := hR _ _ (h.2 0 x rfl)
    rw [Nat.zero_mul, List.drop_zero] at h0
    have ht : Reps R 4 t (inner.drop 4) := ⟨by rw [List.length_drop, h.1, List.length_cons]; omega, fun j p hj => by
      have := h.2 (j + 1) p (by rw [List.getElem?_cons_succ]; exact hj)
      rw [List.drop_drop, show 4 + j * 4 = (j + 1) * 4 by omega]; exact this⟩
    have := reps_flat66 hR t _ ht
    unfold flat66 at this ⊢
    rw [List.flatMap_cons, ← this, ← h0, List.take_append_drop]
theorem flat66_reps {R : S66 → List Value → Prop} (hR : ∀ x, R x (cells66 x)) : ∀ l : List S66, Reps R 4 l (flat66 l)
  | [] => Reps.none _ _
  | x :: t => Reps.front (hR x) rfl (flat66_reps hR t) (by unfold flat66; rw [List.flatMap_cons])
theorem hd_R66 {w : World} {base : Nat} {ok : Nat → Prop} {v : Value} {l : List S66} (h : Kd.R k66 66 w base ok v l) : w.ownsRow base 66 4 v l.length (flat66 l) := by
  obtain ⟨_, inner, ho, hr⟩ := h
  have := reps_flat66 (fun x c hx => k66_openM hx) l inner hr
  rw [← this]; exact ho
theorem hd_R66_mk {w : World} {base : Nat} {v : Value} {l : List S66} (h : w.ownsRow base 66 4 v l.length (flat66 l)) : Kd.R k66 66 w base (fun _ => True) v l :=
  ⟨fun _ _ => trivial, flat66 l, h, flat66_reps (fun x => k66_mkM _ _ _ x) l⟩
theorem hd_step_append {ops : Array Oper} {o : Oper} {a : Act} {w : World} {K : Act → World → Prop} {Q : Exit → Act → World → Prop} {E : Prop}
    (hg : o.guard = none) (s x : Operand) (hop : o.op = Op.call { callee := Callee.builtin Builtin.append, args := #[s, x], argTypes := #[27, 27] }) (vs vx V : Value) (W1 : World) (hs : a.eval s = vs) (hx : a.eval x = vx)
    (hrun : ∀ ty, (Builtin.append_ #[27, 27] ty #[vs, vx]).run Try.prog w = .ok V W1) (hK : K (a.put o.dst V) W1) :
    if Region.wanted o (yielded ops a.tmps) = true then Oper.wp Try.prog o a w K Q else E := by
  have hw : Region.wanted o (yielded ops a.tmps) = true := by simp [Region.wanted, hg]
  rw [if_pos hw]
  have hrun := hrun o.type
  unfold Oper.wp
  simp [execOp, hop, resolve, invoke, builtin, hs, hx, hrun, Result.andThen]
  exact hK
theorem hd_zero66 : (Try.prog.info? 66).map (fun i => i.zero) = some (some (.agg #[Value.int .i64 0, Value.int .i64 0, Value.int .i64 0, Value.int .i64 0])) := by kernel_rfl
theorem hd_clear66 (w : World) (ty : TypeId) (g o : Nat) (c : Nat) (cur : Array Value) (hg : w.heap[g]? = some (.cells cur 66 (0, 0))) (hf : o + 4 ≤ cur.size) :
    (Builtin.clear_ #[27] ty #[.slice (some ⟨g, o, none⟩) 1 c]).run Try.prog w = .ok (.tuple #[]) (w.setRow g (cur.toList.take o ++ [Value.int .i64 0, Value.int .i64 0, Value.int .i64 0, Value.int .i64 0] ++ cur.toList.drop (o + 4)).toArray) := by
  have hz : (zeroValue 66).run Try.prog w = .ok (.agg #[Value.int .i64 0, Value.int .i64 0, Value.int .i64 0, Value.int .i64 0]) w := by
    unfold zeroValue
    obtain ⟨i, hi, hz⟩ := Option.map_eq_some_iff.1 hd_zero66
    simp only [Sem.run_bind, run_typeInfo w hi, Result.andThen_ok, hz, Sem.run_pure]
  have hst := run_storeCells_at Try.prog g o 66 [Value.int .i64 0, Value.int .i64 0, Value.int .i64 0, Value.int .i64 0] 0 cur w hg (by simpa using hf) (by simp [Value.oneCell'])
  simp only [Nat.add_zero] at hst
  have hzc : (Builtin.zeroCells (Value.agg #[Value.int .i64 0, Value.int .i64 0, Value.int .i64 0, Value.int .i64 0]).cells 1).toList = [Value.int .i64 0, Value.int .i64 0, Value.int .i64 0, Value.int .i64 0] := by kernel_rfl
  simp [Builtin.clear_, run_underlying Try.underlying27, hz, hzc, hst]
theorem hd_put3 {w : World} {g : Nat} {x0 x1 x2 : Value} (h : w.heap[g]? = some (.cells #[x0, x1, x2] 29 (0, 0))) (a b v : Value) : (((w.setCell ⟨g, 0, none⟩ a).setCell ⟨g, 1, none⟩ b).setCell ⟨g, 2, none⟩ v).heap[g]? = some (.cells #[a, b, v] 29 (0, 0)) :=
  blk_put (blk_put (blk_put h 0 a rfl) 1 b rfl) 2 v rfl
theorem hd_far3 {w : World} {g g' : Nat} {o : Obj} (h : w.heap[g']? = some o) (hne : g' ≠ g) (a b v : Value) : (((w.setCell ⟨g, 0, none⟩ a).setCell ⟨g, 1, none⟩ b).setCell ⟨g, 2, none⟩ v).heap[g']? = some o :=
  (Below.heap_setCell _ _ _ _ hne).trans ((Below.heap_setCell _ _ _ _ hne).trans ((Below.heap_setCell _ _ _ _ hne).trans h))
theorem hd_below3 {w0 w : World} {g : Nat} (h : Below w0.heap.size w0 w) (hg : w0.heap.size ≤ g) (a b v : Value) : Below w0.heap.size w0 (((w.setCell ⟨g, 0, none⟩ a).setCell ⟨g, 1, none⟩ b).setCell ⟨g, 2, none⟩ v) :=
  below_set (below_set (below_set h hg) hg) hg
theorem hd_row3 {w : World} {base g : Nat} {x0 x1 x2 : Value} {v : Value} {l : List S66} (ho : Kd.R k66 66 w base (fun _ => True) v l) (h : w.heap[g]? = some (.cells #[x0, x1, x2] 29 (0, 0))) (a b u : Value) :
    Kd.R k66 66 (((w.setCell ⟨g, 0, none⟩ a).setCell ⟨g, 1, none⟩ b).setCell ⟨g, 2, none⟩ u) base (fun _ => True) v l := by
  have hne := Kd.R_ne ho h (by decide)
  refine hd_R66_mk (own_move (hd_R66 ho) (fun k hk => ?_))
  have hk : k ≠ g := fun e => hne (by rw [hk, e])
  exact (Below.heap_setCell _ _ _ _ hk).trans ((Below.heap_setCell _ _ _ _ hk).trans (Below.heap_setCell _ _ _ _ hk))
theorem hd_clone (a b : Int) (l : List S66) (h : l.length < 4398046511104) : impl_cloneTrain.f a b l = some (a, b, l) := by
  unfold impl_cloneTrain.f
  simp only [Option.bind_some, List.length_nil, Nat.zero_add, if_pos h, List.nil_append]

/-! ### impl_Booking_74: function 74, by hand: behind -/

end Go.Proofs.Ytklikbjlfaednaa.P
