/- Contracts of the functions of the program, each one with its plain Lean function; written by a program of the session out of the translation. -/
import Derived.Deep.RegionLaw
import Derived.Test.YtklikbjlfaednaaPx0
import Derived.Test.YtklikbjlfaednaaPx13
import Derived.Test.YtklikbjlfaednaaPx14
namespace Go.Proofs.Ytklikbjlfaednaa.P
open Go.RowKit Go.Proofs.YtklikbjlfaednaaW.PrintWords Go.Proofs.YtklikbjlfaednaaW.PrintLast Go.Proofs.YtklikbjlfaednaaW.PrintMore
attribute [local go_sem] max2_int min2_int max_two min_two max_three min_three max_four min_four   -- for this text's walks alone
set_option linter.unusedVariables false
set_option linter.unusedSimpArgs false

/-! ### impl_Unbook: function 28, by hand -/

theorem hd_rd66 (l : List S66) (j : Nat) (h : j < l.length) : rd_T66 l (j : Int) = l[j] := by
  unfold rd_T66; rw [Int.toNat_natCast]; simp [List.getD_eq_getElem?_getD, h]
theorem idxB_hit (id : Int) (l : List S66) (k : Nat) (hk : k < l.length) (h : (rd_T66 l (k : Int)).f0 = id) (hb : ∀ j, j < k → ¬ (rd_T66 l (j : Int)).f0 = id) : impl_Unbook.l1 l id = (k : Int) := by
  have hf : l.findIdx (fun o => o.f0 == id) = k := by
    rw [List.findIdx_eq hk]
    refine ⟨by rw [← hd_rd66 l k hk]; simpa using h, fun j hj => ?_⟩
    have := hb j hj
    rw [hd_rd66 l j (by omega)] at this
    simpa using this
  unfold impl_Unbook.l1; rw [hf, if_pos hk]
theorem idxB_miss (id : Int) (l : List S66) (hb : ∀ j, j < l.length → ¬ (rd_T66 l (j : Int)).f0 = id) : impl_Unbook.l1 l id = -1 := by
  have : ¬ l.findIdx (fun o => o.f0 == id) < l.length := by
    rw [List.findIdx_lt_length]
    rintro ⟨x, hx, hpx⟩
    obtain ⟨j, hj, rfl⟩ := List.getElem_of_mem hx
    have := hb j hj
    rw [hd_rd66 l j hj] at this
    simp [this] at hpx
  unfold impl_Unbook.l1; rw [if_neg this]
theorem hd_bk81 (o : S66) (B : Nat) (id : Int) (w : World) (hc : w.cell? ⟨B, 0, none⟩ = some (.int .i64 id)) (r : Bool) (hr : (o.f0 == id) = r) :
    Calls Try.prog 81 #[.agg #[.int .i64 o.f0, .int .i64 o.f1, .int .i64 o.f2, .int .i64 o.f3], .pointer (some ⟨B, 0, none⟩)] w fun e w' => e = .returned (.bool r) ∧ Below w.heap.size w w' := by
  have hu66 := Try.underlying66
  have hB := World.block_lt_of_cell? w _ hc
  have hne : B ≠ w.heap.size := by simp only at hB; omega
  have HR := Aside0.mk hr
  clear hr
  go_enter Try.func81, Try.ntmps81
  go_wp2
  all_goals (go_ret; exact ⟨by rw [← HR.out]; rfl, by first | exact (Below.refl _ _).alloc (Nat.le_refl _) _⟩)
set_option maxHeartbeats 2000000 in
theorem hd_indexB (B : Nat) (id : Int) (A : Option Addr) (c : Nat) (l : List S66) (w : World) (hr : Kd.C k66 w A l.length l) (hc : w.cell? ⟨B, 0, none⟩ = some (.int .i64 id)) :
    Calls Try.prog 80 #[.slice A l.length c, .func (.func 81) #[] #[.pointer (some ⟨B, 0, none⟩)]] w fun e w' => e = .returned (.int .i64 (impl_Unbook.l1 l id)) ∧ Below w.heap.size w w' := by
  have hu66 := Try.underlying66
  have hbig := hr.2.1
  have HR := Aside0.mk hr
  have HC := Aside0.mk hc
  clear hr hc
  go_enter Try.func80, Try.ntmps80
  go_wp2
  go_loopg [5, 8] l.length (fun gg _ s8 wr => ∃ kk : Nat, kk ≤ l.length ∧ l.length - kk ≤ gg ∧ s8 = .int .i64 kk ∧ Aside0 (Below w.heap.size w wr) ∧ Aside0 (∀ j, j < kk → ¬ (rd_T66 l (j : Int)).f0 = id))
  case atStart => exact ⟨0, Nat.zero_le _, by omega, rfl, ⟨Below.refl _ w⟩, ⟨fun j hj => absurd hj (Nat.not_lt_zero _)⟩⟩
  case round =>
    obtain ⟨kk, hkk, hg, rfl, BW, AA⟩ := hrel
    by_cases hlt : kk < l.length
    · have hltz : (kk : Int) < (l.length : Int) := by omega
      have hnn : (0 : Int) ≤ (kk : Int) := Int.natCast_nonneg kk
      obtain ⟨ad, e, hx0, hx1, hx2, hx3⟩ := at_T66 HR.out kk hnn hltz
      cases e
      rw [Int.toNat_natCast] at hx0 hx1 hx2 hx3
      replace hx0 := (BW.out.cell (World.block_lt_of_cell? w _ hx0)).trans hx0
      replace hx1 := (BW.out.cell (World.block_lt_of_cell? w _ hx1)).trans hx1
      replace hx2 := (BW.out.cell (World.block_lt_of_cell? w _ hx2)).trans hx2
      replace hx3 := (BW.out.cell (World.block_lt_of_cell? w _ hx3)).trans hx3
      have hcc : wr.cell? ⟨B, 0, none⟩ = some (.int .i64 id) := (BW.out.cell (World.block_lt_of_cell? w _ HC.out)).trans HC.out
      obtain ⟨y, hy⟩ : ∃ y, rd_T66 l (kk : Int) = y := ⟨_, rfl⟩
      rw [hy] at hx0 hx1 hx2 hx3
      have Y := Aside0.mk hy
      clear hy
      have CC := Aside0.mk hcc
      clear hcc
      cases hq : (y.f0 == id) with
      | true =>
        have Q := Aside0.mk hq
        clear hq
        go_wp2_with (go_at_call 81; refine (hd_bk81 y B id _ CC.out true Q.out).mono ?_; rintro e w' ⟨rfl, hb'⟩)
        go_ret
        refine ⟨?_, below_step BW.out hb'⟩
        rw [idxB_hit id l kk hlt (by rw [Y.out]; simpa using Q.out) AA.out]
        rfl
      | false =>
        have Q := Aside0.mk hq
        clear hq
        go_wp2_with (go_at_call 81; refine (hd_bk81 y B id _ CC.out false Q.out).mono ?_; rintro e w' ⟨rfl, hb'⟩)
        go_roundg (l.length - (kk + 1))
        case measure => omega
        case rel =>
          refine ⟨kk + 1, by omega, by omega, by go_num, ⟨below_step BW.out hb'⟩, ⟨fun j hj => ?_⟩⟩
          by_cases e : j = kk
          · subst e
            rw [Y.out]; simpa using Q.out
          · exact AA.out j (by omega)
    · have hltz : ¬ (kk : Int) < (l.length : Int) := by omega
      have : kk = l.length := by omega
      subst this
      go_wp2
      go_ret
      refine ⟨?_, BW.out⟩
      rw [idxB_miss id l AA.out]
      rfl
theorem hd_booked (a b : Int) (A : Option Addr) (c : Nat) (l : List S66) (id : Int) (w : World) (hr : Kd.C k66 w A l.length l) :
    Calls Try.prog 73 #[.agg #[.int .i64 a, .int .i64 b, .slice A l.length c], .int .i64 id] w fun e w' => e = .returned (.int .i64 (impl_Unbook.l1 l id)) ∧ Below w.heap.size w w' := by
  have hu29 := Try.underlying29
  have HR := Aside0.mk hr
  clear hr
  go_enter Try.func73, Try.ntmps73
  go_wp2_with (go_at_call 80; refine (hd_indexB (w.heap.size + 1) id A c l _ (Kd.C_below HR.out (below_alloc (below_alloc (Below.refl _ _) _) _)) (by first | (simp; done) | go_simp)).mono ?_; rintro e w' ⟨rfl, hb'⟩)
  go_ret
  exact ⟨rfl, below_step (below_alloc (below_alloc (Below.refl _ _) _) _) hb'⟩
def cells66 (x : S66) : List Value := [.int .i64 x.f0, .int .i64 x.f1, .int .i64 x.f2, .int .i64 x.f3]
def flat66 (l : List S66) : List Value := l.flatMap cells66
theorem flat66_length (l : List S66) : (flat66 l).length = l.length * 4 := by
  induction l with
  | nil => rfl
  | cons x t ih => unfold flat66 at ih ⊢; rw [List.flatMap_cons, List.length_append, ih, List.length_cons]; simp [cells66]; omega
theorem flat66_append (l m : List S66) : flat66 (l ++ m) = flat66 l ++ flat66 m := List.flatMap_append
theorem flat66_take (l : List S66) (i : Nat) : flat66 (l.take i) = (flat66 l).take (i * 4) := by
  by_cases h : i ≤ l.length
  · have e : flat66 l = flat66 (l.take i) ++ flat66 (l.drop i) := by rw [← flat66_append, List.take_append_drop]
    rw [e, List.take_left' (by rw [flat66_length, List.length_take]; omega)]
  · rw [List.take_of_length_le (by omega), List.take_of_length_le (by rw [flat66_length]; omega)]
theorem flat66_drop (l : List S66) (i : Nat) : flat66 (l.drop i) = (flat66 l).drop (i * 4) := by
  by_cases h : i ≤ l.length
  · have e : flat66 l = flat66 (l.take i) ++ flat66 (l.drop i) := by rw [← flat66_append, List.take_append_drop]
    rw [e, List.drop_left' (by rw [flat66_length, List.length_take]; omega)]
  · rw [List.drop_of_length_le (by omega), List.drop_of_length_le (by rw [flat66_length]; omega)]; rfl
theorem flat66_one (l : List S66) : ∀ u, u ∈ flat66 l → u.oneCell' = true := by
  intro u hu
  obtain ⟨x, _, hx⟩ := List.mem_flatMap.1 hu
  simp only [cells66, List.mem_cons, List.not_mem_nil, or_false] at hx
  rcases hx with rfl | rfl | rfl | rfl <;> rfl
theorem reps_flat66 {R : S66 → List Value → Prop} (hR : ∀ x c, R x c → c = cells66 x) : ∀ (l : List S66) (inner : List Value), Reps R 4 l inner → inner = flat66 l
  | [], inner, h => List.eq_nil_of_length_eq_zero (by have := h.1; simpa using this)
  | x :: t, inner, h => by
    have h0 := hR _ _ (h.2 0 x rfl)
    rw [Nat.zero_mul, List.drop_zero] at h0
    have ht : Reps R 4 t (inner.drop 4) := ⟨by rw [List.length_drop, h.1, List.length_cons]; omega, fun j p hj => by
      have := h.2 (j + 1) p (by rw [List.getElem?_cons_succ]; exact hj)
      rw [List.drop_drop, show 4 + j * 4 = (j + 1) * 4 by omega]; exact this⟩
    have := reps_flat66 hR t _ ht
    unfold flat66 at this ⊢
    rw [List.flatMap_cons, ← this, ← h0, List.take_append_drop]
theorem flat66_reps {R : S66 → List Value → Prop} (hR : ∀ x, R x (cells66 x)) : ∀ l : List S66, Reps R 4 l (flat66 l)
  | [] => Reps.none _ _
  | x :: t => Reps.front (hR x) rfl (flat66_reps hR t) (by unfold flat66; rw [List.flatMap_cons])
theorem hd_R66 {w : World} {base : Nat} {ok : Nat → Prop} {v : Value} {l : List S66} (h : Kd.R k66 66 w base ok v l) : w.ownsRow base 66 4 v l.length (flat66 l) := by
  obtain ⟨_, inner, ho, hr⟩ := h
  have := reps_flat66 (fun x c hx => k66_openM hx) l inner hr
  rw [← this]; exact ho
theorem hd_R66_mk {w : World} {base : Nat} {v : Value} {l : List S66} (h : w.ownsRow base 66 4 v l.length (flat66 l)) : Kd.R k66 66 w base (fun _ => True) v l :=
  ⟨fun _ _ => trivial, flat66 l, h, flat66_reps (fun x => k66_mkM _ _ _ x) l⟩
theorem hd_step_append {ops : Array Oper} {o : Oper} {a : Act} {w : World} {K : Act → World → Prop} {Q : Exit → Act → World → Prop} {E : Prop}
    (hg : o.guard = none) (s x : Operand) (hop : o.op = Op.call { callee := Callee.builtin Builtin.append, args := #[s, x], argTypes := #[27, 27] }) (vs vx V : Value) (W1 : World) (hs : a.eval s = vs) (hx : a.eval x = vx)
    (hrun : ∀ ty, (Builtin.append_ #[27, 27] ty #[vs, vx]).run Try.prog w = .ok V W1) (hK : K (a.put o.dst V) W1) :
    if Region.wanted o (yielded ops a.tmps) = true then Oper.wp Try.prog o a w K Q else E := by
  have hw : Region.wanted o (yielded ops a.tmps) = true := by simp [Region.wanted, hg]
  rw [if_pos hw]
  have hrun := hrun o.type
  unfold Oper.wp
  simp [execOp, hop, resolve, invoke, builtin, hs, hx, hrun, Result.andThen]
  exact hK
theorem hd_zero66 : (Try.prog.info? 66).map (fun i => i.zero) = some (some (.agg #[Value.int .i64 0, Value.int .i64 0, Value.int .i64 0, Value.int .i64 0])) := by kernel_rfl
theorem hd_clear66 (w : World) (ty : TypeId) (g o : Nat) (c : Nat) (cur : Array Value) (hg : w.heap[g]? = some (.cells cur 66 (0, 0))) (hf : o + 4 ≤ cur.size) :
    (Builtin.clear_ #[27] ty #[.slice (some ⟨g, o, none⟩) 1 c]).run Try.prog w = .ok (.tuple #[]) (w.setRow g (cur.toList.take o ++ [Value.int .i64 0, Value.int .i64 0, Value.int .i64 0, Value.int .i64 0] ++ cur.toList.drop (o + 4)).toArray) := by
  have hz : (zeroValue 66).run Try.prog w = .ok (.agg #[Value.int .i64 0, Value.int .i64 0, Value.int .i64 0, Value.int .i64 0]) w := by
    unfold zeroValue
    obtain ⟨i, hi, hz⟩ := Option.map_eq_some_iff.1 hd_zero66
    simp only [Sem.run_bind, run_typeInfo w hi, Result.andThen_ok, hz, Sem.run_pure]
  have hst := run_storeCells_at Try.prog g o 66 [Value.int .i64 0, Value.int .i64 0, Value.int .i64 0, Value.int .i64 0] 0 cur w hg (by simpa using hf) (by simp [Value.oneCell'])
  simp only [Nat.add_zero] at hst
  have hzc : (Builtin.zeroCells (Value.agg #[Value.int .i64 0, Value.int .i64 0, Value.int .i64 0, Value.int .i64 0]).cells 1).toList = [Value.int .i64 0, Value.int .i64 0, Value.int .i64 0, Value.int .i64 0] := by kernel_rfl
  simp [Builtin.clear_, run_underlying Try.underlying27, hz, hzc, hst]


theorem flat66_erase (l : List S66) (i : Nat) : flat66 (l.eraseIdx i) = flat66 (l.take i) ++ flat66 (l.drop (i + 1)) := by
  rw [← flat66_append, List.eraseIdx_eq_take_drop_succ]
set_option maxHeartbeats 4000000 in
set_option maxRecDepth 100000 in
theorem hd_delete (base : Nat) (A : Option Addr) (c : Nat) (l : List S66) (i m : Nat) (w : World) (hn : l.length = i + 1 + m) (hbig : c ≤ 9223372036854775807) (ho : w.ownsRow base 66 4 (.slice A l.length c) l.length (flat66 l)) :
    Calls Try.prog 74 #[.slice A l.length c, .int .i64 (i : Int), .int .i64 ((i : Int) + 1)] w fun e w' => e = .returned (.slice A (i + m) c) ∧ w'.ownsRow base 66 4 (.slice A (i + m) c) (i + m) (flat66 (l.eraseIdx i)) ∧ w.grownBy w' (Value.slice A l.length c).ownBlock := by
  obtain ⟨i0, hi0, hz0, hz1, hz2⟩ := info_parts info66
  rcases ho.2 with ⟨_, h0⟩ | ⟨g, cap, cur, hv, hbg, hgg, hnc, hcm, hcs, htake⟩
  · omega
  · injection hv with hA _ hcap
    subst hA; subst hcap
    rw [hn] at hnc htake ho ⊢
    -- the row behind the move, and behind the clear
    obtain ⟨news, hnews⟩ : ∃ news, news = flat66 (l.drop (i + 1)) := ⟨_, rfl⟩
    have hlen : news.length = m * 4 := by rw [hnews, flat66_length, List.length_drop]; omega
    have hcl : cur.toList.length = c * 4 := by rw [Array.length_toList]; exact hcs
    have hget : ∀ t u, news[t]? = some u → cur[(i + 1) * 4 + t]? = some u := by
      intro t u hu
      have ht : t < m * 4 := by have := (List.getElem?_eq_some_iff.1 hu).1; omega
      rw [hnews, flat66_drop, ← htake, List.getElem?_drop, List.getElem?_take, if_pos (by omega)] at hu
      simpa using hu
    obtain ⟨AD, hAD, hsrc⟩ : ∃ AD : Addr, (if c = i + 1 then some (⟨g, 0, none⟩ : Addr) else some ⟨g, (i + 1) * 4, none⟩) = some AD ∧ Hid (∀ t u, news[t]? = some u → w.drew.cell? (AD.add t) = some u) := by
      by_cases h : c = i + 1
      · refine ⟨⟨g, 0, none⟩, by simp [h], fun t u hu => ?_⟩
        have : news.length = 0 := by omega
        rw [List.length_eq_zero_iff.1 this] at hu
        simp at hu
      · refine ⟨⟨g, (i + 1) * 4, none⟩, by simp [h], fun t u hu => ?_⟩
        rw [Addr.add_lit]
        exact (cell_of_row w g _ cur 66 (0, 0) hgg).trans (hget t u hu)
    obtain ⟨cur1, hcur1⟩ : ∃ cur1, cur1 = (cur.toList.take (i * 4) ++ news ++ cur.toList.drop (i * 4 + news.length)).toArray := ⟨_, rfl⟩
    have hs1 : cur1.size = c * 4 := by
      rw [hcur1]
      simp only [List.size_toArray, List.length_append, List.length_take, List.length_drop, hcl, hlen]
      omega
    have hrun : Hid (∀ ty, (Builtin.append_ #[27, 27] ty #[.slice (some ⟨g, 0, none⟩) i c, .slice (some AD) m (c - (i + 1))]).run Try.prog w.drew = .ok (.slice (some ⟨g, 0, none⟩) (i + m) c) (w.drew.setRow g cur1)) := fun ty => by
      have := run_append_room (P := Try.prog) w.drew 27 ty 66 i0 Try.underlying27 hi0 g i c cur hgg AD m (c - (i + 1)) news (by rw [hlen, hz1]) hsrc.out (by rw [hnews]; exact flat66_one _) (by omega) (by rw [hz1, hlen, hcs]; omega)
      rw [hz1] at this
      rw [this, hcur1]
    obtain ⟨W1, hW1⟩ : ∃ W1, w.drew.setRow g cur1 = W1 := ⟨_, rfl⟩
    rw [hW1] at hrun
    have hg1 : W1.heap[g]? = some (.cells cur1 66 (0, 0)) := by rw [← hW1]; exact setRow_heap w.drew g cur cur1 66 (0, 0) hgg
    have hclr := fun ty => hd_clear66 W1 ty g ((i + m) * 4) (c - (i + m)) cur1 hg1 (by rw [hs1]; omega)
    rw [show (1 : Nat) = i + 1 + m - (i + m) by omega] at hclr
    obtain ⟨cur2, hcur2⟩ : ∃ cur2, cur2 = (cur1.toList.take ((i + m) * 4) ++ [Value.int .i64 0, Value.int .i64 0, Value.int .i64 0, Value.int .i64 0] ++ cur1.toList.drop ((i + m) * 4 + 4)).toArray := ⟨_, rfl⟩
    rw [← hcur2] at hclr
    obtain ⟨W2, hW2⟩ : ∃ W2, W1.setRow g cur2 = W2 := ⟨_, rfl⟩
    rw [hW2] at hclr
    have FIN : Hid (W2.ownsRow base 66 4 (.slice (some ⟨g, 0, none⟩) (i + m) c) (i + m) (flat66 (l.eraseIdx i)) ∧ w.grownBy W2 (Value.slice (some ⟨g, 0, none⟩) (i + 1 + m) c).ownBlock) := by
      have e1 : cur1.toList.take ((i + m) * 4) = flat66 (l.eraseIdx i) := by
        rw [flat66_erase, ← hnews, hcur1, flat66_take, ← htake]
        simp only [List.take_take]
        rw [show min (i * 4) ((i + 1 + m) * 4) = i * 4 by omega, List.take_left']
        simp only [List.length_append, List.length_take, hcl, hlen]
        omega
      have e2 : (flat66 (l.eraseIdx i)).length = (i + m) * 4 := by rw [flat66_length, List.length_eraseIdx, if_pos (by omega)]; omega
      refine ⟨⟨e2, .inr ⟨g, c, cur2, rfl, hbg, ?_, by omega, hcm, ?_, ?_⟩⟩, ⟨by rw [← hW2, ← hW1]; rfl, by rw [← hW2, ← hW1]; rfl, by rw [← hW2, ← hW1]; rfl, by rw [← hW2, ← hW1]; simp [World.setRow], fun k hk hne => ?_⟩⟩
      · rw [← hW2]; exact setRow_heap W1 g cur1 cur2 66 (0, 0) hg1
      · rw [hcur2]
        simp only [List.size_toArray, List.length_append, List.length_take, List.length_drop, Array.length_toList, hs1, List.length_cons, List.length_nil]
        omega
      · rw [hcur2, List.append_assoc, List.take_left' (by rw [List.length_take, Array.length_toList, hs1]; omega), e1]
      · have hkg : k ≠ g := fun e => hne (by rw [e]; rfl)
        rw [← hW2, setRow_other _ _ _ _ hkg, ← hW1, setRow_other _ _ _ _ hkg]
        rfl
    have H2 : Hid (l.length = i + 1 + m) := hn
    clear hW1 hW2 hg1 hcur1 hcur2 hs1 hsrc hget hlen hnews hgg hcs htake hcl ho hn
    have p1 : (i : Int) + 1 ≤ ((i + 1 + m : Nat) : Int) := by omega
    have p2 : ((i : Int) + 1).toNat = i + 1 := by omega
    have p3 : (0 : Int) ≤ (i : Int) + 1 := by omega
    have p7 : (i : Int) + 1 ≤ (i : Int) + 1 + (m : Int) := by omega
    have p4 : ¬ (i : Int) = (i : Int) + 1 := by omega
    have p5 : i ≤ c := by omega
    have p6 : i + 1 ≤ c := by omega
    go_enter Try.func74, Try.ntmps74
    go_wp2_with fail
    go_region_law (refine hd_step_append rfl (.tmp 22) (.tmp 25) rfl (.slice (some ⟨g, 0, none⟩) i c) (.slice (some AD) m (c - (i + 1))) (.slice (some ⟨g, 0, none⟩) (i + m) c) W1 (by simp [Act.eval, Act.put]) (by simp [Act.eval, Act.put]) hrun.out ?_)
    go_wp2
    go_ret
    exact ⟨rfl, FIN.out⟩
theorem idxB_range (l : List S66) (id : Int) : impl_Unbook.l1 l id = -1 ∨ ∃ k : Nat, impl_Unbook.l1 l id = (k : Int) ∧ k < l.length := by
  unfold impl_Unbook.l1
  split
  · rename_i h; exact .inr ⟨_, rfl, h⟩
  · exact .inl rfl
set_option maxHeartbeats 4000000 in
set_option maxRecDepth 100000 in
theorem hd_unbook (w0 w : World) (B : Nat) (a b id : Int) (v : Value) (l : List S66) (hl : l.length ≤ 1000000) (hB : w.heap[B]? = some (.cells #[.int .i64 a, .int .i64 b, v] 29 (0, 0))) (ho : Kd.R k66 66 w w0.heap.size (fun _ => True) v l) (hb : Below w0.heap.size w0 w) (hge : w0.heap.size ≤ B) :
    Calls Try.prog 61 #[.pointer (some ⟨B, 0, none⟩), .int .i64 id] w fun e w' => ∃ v', e = .returned (.bool (decide (0 ≤ impl_Unbook.l1 l id))) ∧ w'.heap[B]? = some (.cells #[.int .i64 a, .int .i64 b, v'] 29 (0, 0)) ∧ Kd.R k66 66 w' w0.heap.size (fun _ => True) v' (impl_Unbook.l0 l id) ∧ Below w0.heap.size w0 w' ∧ (∀ k, k < w.heap.size → k ≠ B → some k ≠ v.ownBlock → w'.heap[k]? = w.heap[k]?) := by
  have hu29 := Try.underlying29
  obtain ⟨A, c, rfl, hlc, hr⟩ := Kd.R_reads ho
  have HR := Aside0.mk hr
  have HO := Aside0.mk ho
  have HB := Aside0.mk hb
  have BK := Aside0.mk hB
  have GE := Aside0.mk hge
  have hc0 : w.cell? ⟨B, 0, none⟩ = some (.int .i64 a) := (blk_cell hB 0).trans rfl
  have hc1 : w.cell? ⟨B, 1, none⟩ = some (.int .i64 b) := (blk_cell hB 1).trans rfl
  have hc2 : w.cell? ⟨B, 2, none⟩ = some (.slice A l.length c) := (blk_cell hB 2).trans rfl
  clear hr ho hb hB hge
  rcases idxB_range l id with hi | ⟨i, hi, hil⟩
  · have HI := Aside0.mk hi
    clear hi
    have hbk := Aside0.mk (fun W hW => hd_booked a b A c l id W hW)
    rw [HI.out] at hbk
    go_enter Try.func61, Try.ntmps61
    go_wp2_with (go_at_call 73; refine (hbk.out _ HR.out).mono ?_; rintro e w1 ⟨rfl, hb1⟩)
    go_ret
    refine ⟨_, by rw [HI.out]; rfl, blk_below BK.out hb1, ?_, HB.out.trans (hb1.mono HB.out.size), fun k hk _ _ => hb1.block k hk⟩
    unfold impl_Unbook.l0
    rw [HI.out, if_pos (by decide)]
    exact Kd.R_below HO.out hb1
  · have HI := Aside0.mk hi
    clear hi
    have hbk := Aside0.mk (fun W hW => hd_booked a b A c l id W hW)
    rw [HI.out] at hbk
    obtain ⟨m, hm⟩ : ∃ m, l.length = i + 1 + m := ⟨l.length - (i + 1), by omega⟩
    have HM := Aside0.mk hm
    have hin : decide ((i : Int) < 0) = false := decide_eq_false (by omega)
    have hib : (i : Int) + 1 ≤ 1000000 := by omega
    have hi0 : (0 : Int) ≤ (i : Int) := by omega
    clear hm
    go_enter Try.func61, Try.ntmps61
    go_upto_region 4 with (go_at_call 73; refine (hbk.out _ HR.out).mono ?_; rintro e w1 ⟨rfl, hb1⟩)
    have n0_ := Aside0.mk (blk_below BK.out hb1)
    have n1_ := Aside0.mk (Kd.R_below HO.out hb1)
    have n2_ := Aside0.mk (HB.out.trans (hb1.mono HB.out.size))
    have n3_ := Aside0.mk hb1
    clear HO HB BK HR hc0 hc1 hc2 hbk hb1
    have hc2 : w1.cell? ⟨B, 2, none⟩ = some (.slice A l.length c) := (blk_cell n0_.out 2).trans rfl
    have hcap : Aside0 (c ≤ 9223372036854775807) := ⟨by
      rcases (hd_R66 n1_.out).2 with ⟨h1, h2⟩ | ⟨_, cap, _, h1, _, _, _, h3, _⟩
      · injection h1 with _ _ h1; omega
      · injection h1 with _ _ h1
        unfold maxLen at h3
        omega⟩
    go_wp2_with (go_at_call 74; refine (hd_delete w0.heap.size A c l i m _ HM.out hcap.out (hd_R66 n1_.out)).mono ?_; rintro e w2 ⟨rfl, hown, hg⟩; have m0_ := Aside0.mk (blk_grown n0_.out hg (Kd.R_ne n1_.out n0_.out (by decide))); have m1_ := Aside0.mk (n2_.out.grown hg n2_.out.size (fun k hk => (World.ownsRow.lt (hd_R66 n1_.out) k hk).1)); have m2_ := Aside0.mk hown; have m3_ := Aside0.mk hg; clear n0_ n1_ n2_ hc2 hown hg hcap; have hc0 := blk_frozen m0_.out 2; have hc2 : w2.cell? ⟨B, 2, none⟩ = some (.slice A l.length c) := (blk_cell m0_.out 2).trans rfl)
    go_ret
    have hmB := blk_put m0_.out 2 (.slice A (i + m) c) rfl
    refine ⟨_, by rw [HI.out, decide_eq_true (by omega)]; rfl, hmB, ?_, m1_.out.setCell GE.out _, fun k hk hkB hko => (Below.heap_setCell _ _ _ k hkB).trans ((m3_.out.block k (Nat.lt_of_lt_of_le hk n3_.out.size) hko).trans (n3_.out.block k hk))⟩
    unfold impl_Unbook.l0
    rw [HI.out, if_neg (by omega), Int.toNat_natCast]
    have hlen : (l.eraseIdx i).length = i + m := by rw [List.length_eraseIdx, if_pos (by have := HM.out; omega), HM.out]; omega
    have hne := own_ne (g := B) m2_.out m0_.out (by decide)
    have hown := own_move (w1 := w2.setCell ⟨B, 2, none⟩ (.slice A (i + m) c)) m2_.out (fun k hk => Below.heap_setCell _ _ _ k (fun e => hne (by rw [hk]; exact congrArg some e.symm)))
    exact hd_R66_mk (by rw [hlen]; exact hown)


theorem hd_put3 {w : World} {g : Nat} {x0 x1 x2 : Value} (h : w.heap[g]? = some (.cells #[x0, x1, x2] 29 (0, 0))) (a b v : Value) : (((w.setCell ⟨g, 0, none⟩ a).setCell ⟨g, 1, none⟩ b).setCell ⟨g, 2, none⟩ v).heap[g]? = some (.cells #[a, b, v] 29 (0, 0)) :=
  blk_put (blk_put (blk_put h 0 a rfl) 1 b rfl) 2 v rfl
theorem hd_far3 {w : World} {g g' : Nat} {o : Obj} (h : w.heap[g']? = some o) (hne : g' ≠ g) (a b v : Value) : (((w.setCell ⟨g, 0, none⟩ a).setCell ⟨g, 1, none⟩ b).setCell ⟨g, 2, none⟩ v).heap[g']? = some o :=
  (Below.heap_setCell _ _ _ _ hne).trans ((Below.heap_setCell _ _ _ _ hne).trans ((Below.heap_setCell _ _ _ _ hne).trans h))
theorem hd_below3 {w0 w : World} {g : Nat} (h : Below w0.heap.size w0 w) (hg : w0.heap.size ≤ g) (a b v : Value) : Below w0.heap.size w0 (((w.setCell ⟨g, 0, none⟩ a).setCell ⟨g, 1, none⟩ b).setCell ⟨g, 2, none⟩ v) :=
  below_set (below_set (below_set h hg) hg) hg
theorem hd_row3 {w : World} {base g : Nat} {x0 x1 x2 : Value} {v : Value} {l : List S66} (ho : Kd.R k66 66 w base (fun _ => True) v l) (h : w.heap[g]? = some (.cells #[x0, x1, x2] 29 (0, 0))) (a b u : Value) :
    Kd.R k66 66 (((w.setCell ⟨g, 0, none⟩ a).setCell ⟨g, 1, none⟩ b).setCell ⟨g, 2, none⟩ u) base (fun _ => True) v l := by
  have hne := Kd.R_ne ho h (by decide)
  refine hd_R66_mk (own_move (hd_R66 ho) (fun k hk => ?_))
  have hk : k ≠ g := fun e => hne (by rw [hk, e])
  exact (Below.heap_setCell _ _ _ _ hk).trans ((Below.heap_setCell _ _ _ _ hk).trans (Below.heap_setCell _ _ _ _ hk))
theorem hd_clone (a b : Int) (l : List S66) (h : l.length < 4398046511104) : impl_cloneTrain.f a b l = some (a, b, l) := by
  unfold impl_cloneTrain.f
  simp only [Option.bind_some, List.length_nil, Nat.zero_add, if_pos h, List.nil_append]
set_option maxHeartbeats 8000000 in
set_option maxRecDepth 100000 in
theorem impl_Unbook.calls (a0_0 : Int) (a0_1 : Int) (A0_2 : Option Addr) (c0_2 : Nat) (l0_2 : List (S66)) (a1 : Int) (r1 : Int) (r2 : Int) (r3 : List (S66)) (r4 : Bool) (w : World) (hr0_2 : Kd.C k66 w A0_2 l0_2.length l0_2) (hc0_2 : l0_2.length ≤ c0_2) (h : impl_Unbook.f a0_0 a0_1 l0_2 a1 = some (r1, r2, r3, r4)) :
    Calls Try.prog 28 #[.agg #[.int .i64 a0_0, .int .i64 a0_1, .slice A0_2 l0_2.length c0_2], .int .i64 a1] w fun e w' => ∃ v2_ : Value, e = .returned (.tuple #[.agg #[.int .i64 r1, .int .i64 r2, v2_], .bool r4]) ∧ Kd.R k66 66 w' w.heap.size (fun _ => True) v2_ r3 ∧ Below w.heap.size w w' := by
  have hu29 := Try.underlying29
  have HR := Aside0.mk hr0_2
  have HC := Aside0.mk hc0_2
  clear hr0_2 hc0_2
  have HB := Aside0.mk (Below.refl w.heap.size w)
  by_cases hl : l0_2.length < 4398046511104
  rotate_left
  · unfold impl_Unbook.f at h; rw [if_neg hl] at h; cases h
  unfold impl_Unbook.f at h
  rw [if_pos hl] at h
  have HCL := Aside0.mk (hd_clone a0_0 a0_1 l0_2 hl)
  clear hl
  obtain ⟨bo, hbo⟩ : ∃ b, impl_TrainOk.l0 a0_0 a0_1 l0_2 = b := ⟨_, rfl⟩
  rw [hbo] at h
  have HOK := Aside0.mk (show impl_TrainOk.f a0_0 a0_1 l0_2 = some bo by unfold impl_TrainOk.f; rw [hbo])
  have HSH : Aside0 (bo = true → l0_2.length ≤ 1000000) := ⟨fun e => by
    rw [e] at hbo
    unfold impl_TrainOk.l0 at hbo
    simp only [Bool.and_eq_true, decide_eq_true_eq] at hbo
    omega⟩
  clear hbo
  have HE := Aside0.mk (Option.some.inj h)
  clear h
  go_enter Try.func28, Try.ntmps28
  go_upto_region 1 with (first | ((with_reducible refine gate_dst (N := 2) rfl ?_); refine box_event ?hg (N := 2) ?hd (cs := #[.int .i64 a0_0, .int .i64 a0_1, .slice A0_2 l0_2.length c0_2]) (t := 29) ?hr ?_; (case hd => rfl); (case hg => rfl); (case hr => first | (go_simp; done) | (go_simp; rfl)); intro gt hg w3 hbox hb; have GT := Aside0.mk (show w.heap.size ≤ gt by rw [hg]; exact Nat.le_refl _); have BT := Aside0.mk hbox; have n1_ := Aside0.mk (below_step HB.out hb); clear HB; have HB := n1_; clear n1_ hb hbox hg) | ((with_reducible refine gate_dst (N := 4) rfl ?_); refine box_event ?hg (N := 4) ?hd (cs := #[.int .i64 0, .int .i64 0, .slice none 0 0]) (t := 29) ?hr ?_; (case hd => rfl); (case hg => rfl); (case hr => first | (go_simp; done) | (go_simp; rfl)); intro gr hg w4 hbox hb; have GR := Aside0.mk (show w.heap.size ≤ gr by rw [hg]; exact HB.out.size); have NTR := Aside0.mk (show gt ≠ gr by rw [hg]; exact Nat.ne_of_lt (blk_lt BT.out)); have BR := Aside0.mk hbox; have n0_ := Aside0.mk (blk_below BT.out hb); have n1_ := Aside0.mk (below_step HB.out hb); clear HB BT; have HB := n1_; have BT := n0_; clear n0_ n1_ hb hbox hg))
  have hct0 : w4.cell? ⟨gt, 0, none⟩ = some (.int .i64 a0_0) := (blk_cell BT.out 0).trans rfl
  have hct1 : w4.cell? ⟨gt, 1, none⟩ = some (.int .i64 a0_1) := (blk_cell BT.out 1).trans rfl
  have hct2 : w4.cell? ⟨gt, 2, none⟩ = some (.slice A0_2 l0_2.length c0_2) := (blk_cell BT.out 2).trans rfl
  go_upto_region 2 with (first | (go_at_call 60; (with_reducible refine (impl_cloneTrain.calls a0_0 a0_1 A0_2 c0_2 l0_2 a0_0 a0_1 l0_2 _ (Kd.C_below HR.out HB.out) HC.out HCL.out).mono ?_); rintro e w5 ⟨v, rfl, hv, hb⟩; obtain ⟨Av, cv, ev⟩ := Kd.R_slice hv; subst ev; have n0_ := Aside0.mk (blk_below BT.out hb); have n1_ := Aside0.mk (blk_below BR.out hb); have n2_ := Aside0.mk (below_step HB.out hb); have RV := Aside0.mk (Kd.R_lower hv HB.out.size); clear hct0 hct1 hct2 BT BR HB hv hb; have BT := n0_; have BR := n1_; have HB := n2_; clear n0_ n1_ n2_) | ((with_reducible refine gate_dst (N := 6) rfl ?_); refine box_event ?hg (N := 6) ?hd (cs := #[.int .i64 0, .int .i64 0, .slice none 0 0]) (t := 29) ?hr ?_; (case hd => rfl); (case hg => rfl); (case hr => first | (go_simp; done) | (go_simp; rfl)); intro gO hg w6 hbox hb; have GO := Aside0.mk (show w.heap.size ≤ gO by rw [hg]; exact HB.out.size); have NTO := Aside0.mk (show gt ≠ gO by rw [hg]; exact Nat.ne_of_lt (blk_lt BT.out)); have NRO := Aside0.mk (show gr ≠ gO by rw [hg]; exact Nat.ne_of_lt (blk_lt BR.out)); have BO := Aside0.mk hbox; have n0_ := Aside0.mk (blk_below BT.out hb); have n1_ := Aside0.mk (blk_below BR.out hb); have n2_ := Aside0.mk (below_step HB.out hb); have n3_ := Aside0.mk (Kd.R_below RV.out hb); clear HB BT BR RV; have HB := n2_; have BT := n0_; have BR := n1_; have RV := n3_; clear n0_ n1_ n2_ n3_ hb hbox hg; have hco0 : w6.cell? ⟨gO, 0, none⟩ = some (.int .i64 0) := (blk_cell BO.out 0).trans rfl; have hco1 : w6.cell? ⟨gO, 1, none⟩ = some (.int .i64 0) := (blk_cell BO.out 1).trans rfl; have hco2 : w6.cell? ⟨gO, 2, none⟩ = some (.slice none 0 0) := (blk_cell BO.out 2).trans rfl; have hfo0 := blk_frozen BO.out 0; have hfo1 := blk_frozen BO.out 1; have hfo2 := blk_frozen BO.out 2))
  have n0_ := Aside0.mk (hd_far3 BT.out NTO.out (.int .i64 a0_0) (.int .i64 a0_1) (.slice Av l0_2.length cv))
  have n1_ := Aside0.mk (hd_far3 BR.out NRO.out (.int .i64 a0_0) (.int .i64 a0_1) (.slice Av l0_2.length cv))
  have n2_ := Aside0.mk (hd_put3 BO.out (.int .i64 a0_0) (.int .i64 a0_1) (.slice Av l0_2.length cv))
  have n3_ := Aside0.mk (hd_row3 RV.out BO.out (.int .i64 a0_0) (.int .i64 a0_1) (.slice Av l0_2.length cv))
  have n4_ := Aside0.mk (hd_below3 HB.out GO.out (.int .i64 a0_0) (.int .i64 a0_1) (.slice Av l0_2.length cv))
  clear hco0 hco1 hco2 hfo0 hfo1 hfo2 BT BR BO RV HB
  generalize ((w6.setCell ⟨gO, 0, none⟩ (.int .i64 a0_0)).setCell ⟨gO, 1, none⟩ (.int .i64 a0_1)).setCell ⟨gO, 2, none⟩ (.slice Av l0_2.length cv) = w7 at n0_ n1_ n2_ n3_ n4_ ⊢
  have BT := n0_
  have BR := n1_
  have BO := n2_
  have RV := n3_
  have HB := n4_
  clear n0_ n1_ n2_ n3_ n4_
  have hct0 : w7.cell? ⟨gt, 0, none⟩ = some (.int .i64 a0_0) := (blk_cell BT.out 0).trans rfl
  have hct1 : w7.cell? ⟨gt, 1, none⟩ = some (.int .i64 a0_1) := (blk_cell BT.out 1).trans rfl
  have hct2 : w7.cell? ⟨gt, 2, none⟩ = some (.slice A0_2 l0_2.length c0_2) := (blk_cell BT.out 2).trans rfl
  cases bo with
  | false =>
    go_wp2_with (go_at_call 15; (with_reducible refine (impl_TrainOk.calls a0_0 a0_1 A0_2 c0_2 l0_2 false _ (Kd.C_below HR.out HB.out) HC.out HOK.out).mono ?_); rintro e w8 ⟨rfl, hb⟩; have n0_ := Aside0.mk (blk_below BT.out hb); have n1_ := Aside0.mk (blk_below BR.out hb); have n2_ := Aside0.mk (below_step HB.out hb); have n3_ := Aside0.mk (Kd.R_below RV.out hb); have n4_ := Aside0.mk (blk_below BO.out hb); clear hct0 hct1 hct2 BT BR BO RV HB hb; have BT := n0_; have BR := n1_; have HB := n2_; have RV := n3_; have BO := n4_; clear n0_ n1_ n2_ n3_ n4_; have hco0 : w8.cell? ⟨gO, 0, none⟩ = some (.int .i64 a0_0) := (blk_cell BO.out 0).trans rfl; have hco1 : w8.cell? ⟨gO, 1, none⟩ = some (.int .i64 a0_1) := (blk_cell BO.out 1).trans rfl; have hco2 : w8.cell? ⟨gO, 2, none⟩ = some (.slice Av l0_2.length cv) := (blk_cell BO.out 2).trans rfl; have hcr0 : w8.cell? ⟨gr, 0, none⟩ = some (.int .i64 0) := (blk_cell BR.out 0).trans rfl; have hcr1 : w8.cell? ⟨gr, 1, none⟩ = some (.int .i64 0) := (blk_cell BR.out 1).trans rfl; have hcr2 : w8.cell? ⟨gr, 2, none⟩ = some (.slice none 0 0) := (blk_cell BR.out 2).trans rfl; have hfr0 := blk_frozen BR.out 0; have hfr1 := blk_frozen BR.out 1; have hfr2 := blk_frozen BR.out 2)
    refine bodyPost_ret (results_ct rfl _ _ gr 29 #[.int .i64 a0_0, .int .i64 a0_1, (.slice Av l0_2.length cv)] (0, 0) _ rfl (hd_put3 BR.out _ _ _) Try.underlying29 rfl (by kernel_rfl)) rfl ?_
    have E := HE.out
    simp only [Bool.false_eq_true, if_false, Bool.false_and, Prod.mk.injEq] at E
    obtain ⟨rfl, rfl, rfl, rfl⟩ := E
    exact ⟨_, rfl, hd_row3 RV.out BR.out _ _ _, hd_below3 HB.out GR.out _ _ _⟩
  | true =>
    go_upto_region 4 with (go_at_call 15; (with_reducible refine (impl_TrainOk.calls a0_0 a0_1 A0_2 c0_2 l0_2 true _ (Kd.C_below HR.out HB.out) HC.out HOK.out).mono ?_); rintro e w8 ⟨rfl, hb⟩; have n0_ := Aside0.mk (blk_below BT.out hb); have n1_ := Aside0.mk (blk_below BR.out hb); have n2_ := Aside0.mk (below_step HB.out hb); have n3_ := Aside0.mk (Kd.R_below RV.out hb); have n4_ := Aside0.mk (blk_below BO.out hb); clear hct0 hct1 hct2 BT BR BO RV HB hb; have BT := n0_; have BR := n1_; have HB := n2_; have RV := n3_; have BO := n4_; clear n0_ n1_ n2_ n3_ n4_)
    go_upto_region 5 with (go_at_call 61; refine (hd_unbook w _ gO a0_0 a0_1 a1 (.slice Av l0_2.length cv) l0_2 (HSH.out (by first | rfl | trivial)) BO.out RV.out HB.out GO.out).mono ?_; rintro e w9 hpost; obtain ⟨v9, rfl, hB9, hR9, hb9, hk9⟩ := hpost; have n1_ := Aside0.mk ((hk9 gr (blk_lt BR.out) NRO.out (Kd.R_ne RV.out BR.out (by decide))).trans BR.out); obtain ⟨A9, c9, ev9⟩ := Kd.R_slice hR9; subst ev9; have n2_ := Aside0.mk hR9; have n3_ := Aside0.mk hb9; have n4_ := Aside0.mk hB9; clear BT BR BO RV HB hB9 hR9 hb9 hk9; have BR := n1_; have RV := n2_; have HB := n3_; have BO := n4_; clear n1_ n2_ n3_ n4_)
    have hco0 : w9.cell? ⟨gO, 0, none⟩ = some (.int .i64 a0_0) := (blk_cell BO.out 0).trans rfl
    have hco1 : w9.cell? ⟨gO, 1, none⟩ = some (.int .i64 a0_1) := (blk_cell BO.out 1).trans rfl
    have hco2 : w9.cell? ⟨gO, 2, none⟩ = some (.slice A9 (impl_Unbook.l0 l0_2 a1).length c9) := (blk_cell BO.out 2).trans rfl
    have hcr0 : w9.cell? ⟨gr, 0, none⟩ = some (.int .i64 0) := (blk_cell BR.out 0).trans rfl
    have hcr1 : w9.cell? ⟨gr, 1, none⟩ = some (.int .i64 0) := (blk_cell BR.out 1).trans rfl
    have hcr2 : w9.cell? ⟨gr, 2, none⟩ = some (.slice none 0 0) := (blk_cell BR.out 2).trans rfl
    have hfr0 := blk_frozen BR.out 0
    have hfr1 := blk_frozen BR.out 1
    have hfr2 := blk_frozen BR.out 2
    go_wp2
    refine bodyPost_ret (results_ct rfl _ _ gr 29 #[.int .i64 a0_0, .int .i64 a0_1, .slice A9 (impl_Unbook.l0 l0_2 a1).length c9] (0, 0) _ rfl (hd_put3 BR.out _ _ _) Try.underlying29 rfl (by kernel_rfl)) rfl ?_
    have E := HE.out
    simp only [if_true, Bool.true_and, Prod.mk.injEq] at E
    obtain ⟨rfl, rfl, rfl, rfl⟩ := E
    exact ⟨_, rfl, hd_row3 RV.out BR.out _ _ _, hd_below3 HB.out GR.out _ _ _⟩

end Go.Proofs.Ytklikbjlfaednaa.P
