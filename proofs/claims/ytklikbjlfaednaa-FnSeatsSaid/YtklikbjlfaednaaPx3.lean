/- Contracts of the functions of the program, each one with its plain Lean function; written by a program of the session out of the translation. -/
import Derived.Test.YtklikbjlfaednaaPx0
import Derived.Test.YtklikbjlfaednaaPx2
namespace Go.Proofs.Ytklikbjlfaednaa.P
open Go.RowKit Go.Proofs.YtklikbjlfaednaaW.PrintWords Go.Proofs.YtklikbjlfaednaaW.PrintLast Go.Proofs.YtklikbjlfaednaaW.PrintMore
attribute [local go_sem] max2_int min2_int max_two min_two max_three min_three max_four min_four   -- for this text's walks alone
set_option linter.unusedVariables false
set_option linter.unusedSimpArgs false

/-! ### impl_TrainOk: function 15, by hand -/
def hd_MK (l : List S66) (xs : List Bool) (i : Nat) : Prop := xs.length = 660 ∧ ∀ s p : Nat, s < 60 → p < 11 → xs.getD (s * 11 + p) false = (l.take i).any (impl_TrainOk.l4 s p)
def hd_MI (l : List S66) (xs : List Bool) (i k : Nat) : Prop := xs.length = 660 ∧ ∀ s p : Nat, s < 60 → p < 11 → xs.getD (s * 11 + p) false = ((l.take i).any (impl_TrainOk.l4 s p) || (decide ((rd_T66 l (i : Int)).f1 = (s : Int)) && decide ((rd_T66 l (i : Int)).f2 ≤ (p : Int)) && decide (p < k)))
theorem hd_mk_start (l : List S66) : hd_MK l (List.replicate 660 false) 0 := by
  refine ⟨List.length_replicate, fun s p hs hp => ?_⟩
  rw [List.getD_eq_getElem?_getD, List.getElem?_replicate]
  split <;> simp
theorem hd_mi_start {l : List S66} {xs : List Bool} {i k : Nat} (h : hd_MK l xs i) (hk : (rd_T66 l (i : Int)).f2 = (k : Int)) : hd_MI l xs i k := by
  refine ⟨h.1, fun s p hs hp => ?_⟩
  rw [h.2 s p hs hp]
  have : (decide ((rd_T66 l (i : Int)).f2 ≤ (p : Int)) && decide (p < k)) = false := by
    rw [Bool.and_eq_false_iff]
    by_cases e : p < k
    · left; rw [decide_eq_false_iff_not]; omega
    · right; rw [decide_eq_false_iff_not]; exact e
  rw [Bool.and_assoc, this, Bool.and_false, Bool.or_false]
theorem hd_mi_end {l : List S66} {xs : List Bool} {i k : Nat} (h : hd_MI l xs i k) (hi : i < l.length) (hk : (rd_T66 l (i : Int)).f3 = (k : Int)) : hd_MK l xs (i + 1) := by
  refine ⟨h.1, fun s p hs hp => ?_⟩
  rw [h.2 s p hs hp, List.take_succ_eq_append_getElem hi, List.any_append]
  have e : l[i] = rd_T66 l (i : Int) := by simp [rd_T66, List.getD_eq_getElem?_getD, hi]
  rw [e]
  simp only [List.any_cons, List.any_nil, Bool.or_false, impl_TrainOk.l4, hk]
  congr 2
  rw [decide_eq_decide]
  omega
theorem hd_mi_step {l : List S66} {xs : List Bool} {i k s0 : Nat} (h : hd_MI l xs i k) (hs0 : (rd_T66 l (i : Int)).f1 = (s0 : Int)) (h1 : s0 < 60) (hk : k < 11) (h2 : (rd_T66 l (i : Int)).f2 ≤ (k : Int)) : hd_MI l (xs.set (s0 * 11 + k) true) i (k + 1) := by
  refine ⟨by simp [h.1], fun s p hs hp => ?_⟩
  by_cases e : s0 * 11 + k = s * 11 + p
  · have e1 : s = s0 := by omega
    have e2 : p = k := by omega
    subst e1; subst e2
    rw [hs0]
    have : (xs.set (s * 11 + p) true).getD (s * 11 + p) false = true := by
      simp [List.getD_eq_getElem?_getD, h.1, show s * 11 + p < 660 by omega]
    rw [this]
    simp [h2]
  · have : (xs.set (s0 * 11 + k) true).getD (s * 11 + p) false = xs.getD (s * 11 + p) false := by
      simp [List.getD_eq_getElem?_getD, List.getElem?_set, e]
    rw [this, h.2 s p hs hp]
    congr 1
    rw [Bool.and_assoc, Bool.and_assoc]
    by_cases e1 : (s : Int) = s0
    · have e2 : p ≠ k := by omega
      have : decide (p < k) = decide (p < k + 1) := by rw [decide_eq_decide]; omega
      rw [this]
    · have : decide ((rd_T66 l (i : Int)).f1 = (s : Int)) = false := by rw [decide_eq_false_iff_not, hs0]; omega
      rw [this, Bool.false_and, Bool.false_and]
theorem hd_mi_at {l : List S66} {xs : List Bool} {i k s0 : Nat} (h : hd_MI l xs i k) (h1 : s0 < 60) (hk : k < 11) : xs.getD (s0 * 11 + k) false = (l.take i).any (impl_TrainOk.l4 s0 k) := by
  rw [h.2 s0 k h1 hk]
  simp
theorem hd_clash_of {b o : S66} {s p : Nat} (hb : b.f1 = (s : Int)) (h1 : b.f2 ≤ (p : Int)) (h2 : (p : Int) < b.f3) (h : impl_TrainOk.l4 s p o = true) : impl_TrainOk.l3 b o = true := by
  unfold impl_TrainOk.l4 at h
  unfold impl_TrainOk.l3
  simp only [Bool.and_eq_true, decide_eq_true_eq] at h ⊢
  omega
theorem hd_no_clash {b : S66} {os : List S66} {s : Nat} (hb : b.f1 = (s : Int)) (h0 : 0 ≤ b.f2) (hlt : b.f2 < b.f3) (ho : ∀ o, o ∈ os → 0 ≤ o.f2 ∧ o.f2 < o.f3) (h : ∀ p : Nat, b.f2 ≤ (p : Int) → (p : Int) < b.f3 → os.any (impl_TrainOk.l4 s p) = false) : os.any (impl_TrainOk.l3 b) = false := by
  rw [List.any_eq_false]
  intro o hm hc
  unfold impl_TrainOk.l3 at hc
  simp only [Bool.and_eq_true, decide_eq_true_eq] at hc
  have hoo := ho o hm
  obtain ⟨p, hp⟩ : ∃ p : Nat, (p : Int) = max o.f2 b.f2 := ⟨(max o.f2 b.f2).toNat, by omega⟩
  have := h p (by omega) (by omega)
  rw [List.any_eq_false] at this
  refine this o hm ?_
  unfold impl_TrainOk.l4
  simp only [Bool.and_eq_true, decide_eq_true_eq]
  omega
theorem hd_train_false {a b : Int} {l : List S66} {k : Nat} (hk : k < l.length) (h : impl_TrainOk.l1 a b l k = false) : impl_TrainOk.l0 a b l = false := by
  unfold impl_TrainOk.l0
  rw [Bool.and_eq_false_iff]; right
  rw [Bool.eq_false_iff]; intro hall
  have := List.all_eq_true.1 hall k (List.mem_range.2 hk)
  rw [h] at this; cases this
theorem hd_btw (a b c : Int) : impl_between.f a b c = some (decide (b ≤ a ∧ a ≤ c)) := by
  unfold impl_between.f
  by_cases h : a ≥ b
  · rw [if_pos h]; simp [show b ≤ a from h]
  · rw [if_neg h]; simp [show ¬ b ≤ a from h]
theorem hd_ride (a b : Int) (l : List S66) (on off : Int) : impl_Train_ride.f a b l on off = some (decide (0 ≤ on ∧ on < off ∧ off ≤ b)) := by
  unfold impl_Train_ride.f
  by_cases h : 0 ≤ on
  · rw [if_pos h]
    by_cases h2 : on < off
    · rw [if_pos h2]; simp [h, h2]
    · rw [if_neg h2]; simp [h2]
  · rw [if_neg h]; simp [h]
theorem hd_z69 : (Try.prog.info? 69).map (fun i => i.zero) = some (some (.agg (List.replicate 660 (Value.bool false)).toArray)) := by kernel_rfl
theorem hd_al69 (W : World) : (Instr.alloc 69 true (.tuple #[])).run Try.prog W = .ok (.pointer (some ⟨W.heap.size, 0, none⟩)) (W.alloc (.cells (List.replicate 660 (Value.bool false)).toArray 69 (0, 0))) := by
  have hz : (zeroValue 69).run Try.prog W = .ok (.agg (List.replicate 660 (Value.bool false)).toArray) W := by
    unfold zeroValue
    obtain ⟨i, hi, hz⟩ := Option.map_eq_some_iff.1 hd_z69
    simp only [Sem.run_bind, run_typeInfo W hi, Result.andThen_ok, hz, Sem.run_pure]
  unfold Instr.alloc
  simp only [Sem.run_bind, hz, Result.andThen_ok, Sem.run_pure]
  generalize (List.replicate 660 (Value.bool false)).toArray = Z
  simp [newVar, newRow, Value.cells, newObj, Sem.run]
theorem hd_exec_al69 (a : Act) (o : Oper) (W : World) (ho : o.op = .alloc 69) : (execOp a.eval o).run Try.prog W = .ok (.value (.pointer (some ⟨W.heap.size, 0, none⟩))) (W.alloc (.cells (List.replicate 660 (Value.bool false)).toArray 69 (0, 0))) := by
  have hl := hd_al69 W
  unfold execOp
  rw [ho]
  simp only [Sem.run_bind, hl, Result.andThen_ok, Sem.run_pure]
theorem hd_map_rep (n : Nat) : (List.replicate n false).map Value.bool = List.replicate n (Value.bool false) := by rw [List.map_replicate]
def hd_bf (l : List S66) (i : Nat) : Int := if i = 0 then 0 else (rd_T66 l ((i - 1 : Nat) : Int)).f0
theorem hd_w64k (k : Nat) (h : k < 300) : wrap64 ((k : Int) + 1) = ((k + 1 : Nat) : Int) := by
  unfold wrap64; omega
theorem hd_parts {a b : Int} {l : List S66} {j : Nat} (h : impl_TrainOk.l1 a b l j = true) : 0 ≤ (rd_T66 l (j : Int)).f2 ∧ (rd_T66 l (j : Int)).f2 < (rd_T66 l (j : Int)).f3 := by
  unfold impl_TrainOk.l1 at h
  simp only [Bool.and_eq_true, decide_eq_true_eq] at h
  omega
theorem hd_elder {a b : Int} {l : List S66} {k : Nat} (hk : k ≤ l.length) (h : ∀ j, j < k → impl_TrainOk.l1 a b l j = true) : ∀ o, o ∈ l.take k → 0 ≤ o.f2 ∧ o.f2 < o.f3 := by
  intro o ho
  obtain ⟨j, hj, rfl⟩ := List.mem_iff_getElem.1 ho
  have hj' : j < k := by simp at hj; omega
  have := hd_parts (h j hj')
  rw [List.getElem_take]
  simpa [rd_T66, List.getD_eq_getElem?_getD, show j < l.length by omega] using this
theorem hd_train_true {a b : Int} {l : List S66} (h : ∀ j, j < l.length → impl_TrainOk.l1 a b l j = true) : (List.range l.length).all (impl_TrainOk.l1 a b l) = true := by
  rw [List.all_eq_true]
  intro j hj
  exact h j (List.mem_range.1 hj)
set_option maxRecDepth 20000 in
set_option maxHeartbeats 4000000 in
theorem impl_TrainOk.calls (a0_0 : Int) (a0_1 : Int) (A0_2 : Option Addr) (c0_2 : Nat) (l0_2 : List (S66)) (r : Bool) (w : World) (hr0_2 : Kd.C k66 w A0_2 l0_2.length l0_2) (hc0_2 : l0_2.length ≤ c0_2) (h : impl_TrainOk.f a0_0 a0_1 l0_2 = some r) :
    Calls Try.prog 15 #[.agg #[.int .i64 a0_0, .int .i64 a0_1, .slice A0_2 l0_2.length c0_2]] w fun e w' => e = .returned (.bool r) ∧ Below w.heap.size w w' := by
  have hu29 := Try.underlying29
  have hu66 := Try.underlying66
  have hu68 := Try.underlying68
  have hu69 := Try.underlying69
  obtain rfl : impl_TrainOk.l0 a0_0 a0_1 l0_2 = r := Option.some.inj h
  clear h
  have HR := Aside0.mk hr0_2
  have HC := Aside0.mk hc0_2
  clear hr0_2 hc0_2
  have HB := Aside0.mk (Below.refl w.heap.size w)
  obtain ⟨b1, hb1⟩ : ∃ b, b = decide (1 ≤ a0_0 ∧ a0_0 ≤ 60) := ⟨_, rfl⟩
  obtain ⟨b2, hb2⟩ : ∃ b, b = decide (1 ≤ a0_1 ∧ a0_1 ≤ 11) := ⟨_, rfl⟩
  have h1 := Aside0.mk (hd_btw a0_0 1 60)
  have h2 := Aside0.mk (hd_btw a0_1 1 11)
  rw [← hb1] at h1
  rw [← hb2] at h2
  have hF := Aside0.mk (show impl_TrainOk.l0 a0_0 a0_1 l0_2 = (b1 && b2 && decide (l0_2.length ≤ 200) && (List.range l0_2.length).all (impl_TrainOk.l1 a0_0 a0_1 l0_2)) by unfold impl_TrainOk.l0; rw [← hb1, ← hb2])
  have K1 := Aside0.mk hb1
  have K2 := Aside0.mk hb2
  clear hb1 hb2
  go_enter Try.func15, Try.ntmps15
  cases b1 with
  | false =>
    go_wp2_with (first | (go_at_call 47; (with_reducible refine (impl_between.calls a0_0 1 60 false _ h1.out).mono ?_); rintro e w' ⟨rfl, ⟨nd, rfl⟩⟩))
    go_ret
    refine ⟨by rw [hF.out]; rfl, ?_⟩
    repeat (first | (with_reducible first | exact HB.out | apply below_alloc | apply pw_below_drewN | apply below_drew1) | exact HB.out)
  | true =>
    cases b2 with
    | false =>
      go_wp2_with (first | (go_at_call 47; (with_reducible refine (impl_between.calls a0_0 1 60 true _ h1.out).mono ?_); rintro e w' ⟨rfl, ⟨nd, rfl⟩⟩) | (go_at_call 47; (with_reducible refine (impl_between.calls a0_1 1 11 false _ h2.out).mono ?_); rintro e w' ⟨rfl, ⟨nd2, rfl⟩⟩))
      go_ret
      refine ⟨by rw [hF.out]; rfl, ?_⟩
      repeat (first | (with_reducible first | exact HB.out | apply below_alloc | apply pw_below_drewN | apply below_drew1) | exact HB.out)
    | true =>
      by_cases c2 : (l0_2.length : Int) > 200
      · have c2b : decide (200 < (l0_2.length : Int)) = true := decide_eq_true c2
        have c2c : decide (200 < l0_2.length) = true := decide_eq_true (by omega)
        go_wp2_with (first | (go_at_call 47; (with_reducible refine (impl_between.calls a0_0 1 60 true _ h1.out).mono ?_); rintro e w' ⟨rfl, ⟨nd, rfl⟩⟩) | (go_at_call 47; (with_reducible refine (impl_between.calls a0_1 1 11 true _ h2.out).mono ?_); rintro e w' ⟨rfl, ⟨nd2, rfl⟩⟩))
        go_ret
        refine ⟨by rw [hF.out, decide_eq_false (by omega)]; rfl, ?_⟩
        repeat (first | (with_reducible first | exact HB.out | apply below_alloc | apply pw_below_drewN | apply below_drew1) | exact HB.out)
      · have c2b : decide (200 < (l0_2.length : Int)) = false := decide_eq_false c2
        have c2c : decide (200 < l0_2.length) = false := decide_eq_false (by omega)
        have h200 : Aside0 (l0_2.length ≤ 200) := ⟨by omega⟩
        go_upto_region 3 with (first | (go_at_call 47; (with_reducible refine (impl_between.calls a0_0 1 60 true _ h1.out).mono ?_); rintro e w' ⟨rfl, ⟨nd, rfl⟩⟩) | (go_at_call 47; (with_reducible refine (impl_between.calls a0_1 1 11 true _ h2.out).mono ?_); rintro e w' ⟨rfl, ⟨nd2, rfl⟩⟩))
        clear c2 c2b c2c
        have n0_ := Aside0.mk (blk_drewN (blk_new w (Obj.cells #[.int .i64 a0_0, .int .i64 a0_1, .slice A0_2 l0_2.length c0_2] 29 (0, 0))) (nd + nd2))
        have n1_ : Aside0 (Below w.heap.size w ((w.alloc (Obj.cells #[.int .i64 a0_0, .int .i64 a0_1, .slice A0_2 l0_2.length c0_2] 29 (0, 0))).drewN (nd + nd2))) := ⟨by repeat (first | (with_reducible first | exact HB.out | apply below_alloc | apply pw_below_drewN | apply below_drew1) | exact HB.out)⟩
        clear HB
        generalize (w.alloc (Obj.cells #[.int .i64 a0_0, .int .i64 a0_1, .slice A0_2 l0_2.length c0_2] 29 (0, 0))).drewN (nd + nd2) = w3 at n0_ n1_ ⊢
        have BT := n0_
        have HB := n1_
        clear n0_ n1_
        obtain ⟨Z, hZ⟩ : ∃ Z, Z = (List.replicate 660 (Value.bool false)).toArray := ⟨_, rfl⟩
        have AL : Aside0 (∀ (a : Act) (o : Oper) (W : World), o.op = .alloc 69 → (execOp a.eval o).run Try.prog W = .ok (.value (.pointer (some ⟨W.heap.size, 0, none⟩))) (W.alloc (.cells Z 69 (0, 0)))) := ⟨by rw [hZ]; exact hd_exec_al69⟩
        have HZ : Aside0 (Z = ((List.replicate 660 false).map Value.bool).toArray) := ⟨by rw [hZ, hd_map_rep]⟩
        clear hZ
        go_upto_region 5 with (first | ((with_reducible refine gate_dst (N := 3) rfl ?_); refine Kd.event_run ?hgd (AL.out _ _ _ rfl) ?_; (case hgd => rfl)))
        clear AL
        have n0_ := Aside0.mk (blk_new w3 (Obj.cells Z 69 (0, 0)))
        have n1_ := Aside0.mk (below_alloc HB.out (Obj.cells Z 69 (0, 0)))
        have n2_ := Aside0.mk (blk_alloc BT.out (Obj.cells Z 69 (0, 0)))
        have NE := Aside0.mk (Nat.ne_of_lt (blk_lt BT.out))
        have GB := Aside0.mk HB.out.size
        clear HB BT
        generalize w3.alloc (Obj.cells Z 69 (0, 0)) = w4 at n0_ n1_ n2_ ⊢
        generalize w3.heap.size = B at n0_ NE GB ⊢
        have BA := n0_
        have HB := n1_
        have BT := n2_
        clear n0_ n1_ n2_
        have hT2 : w4.cell? ⟨w.heap.size, 2, none⟩ = some (.slice A0_2 l0_2.length c0_2) := (blk_cell BT.out 2).trans rfl
        go_wp2
        go_loopg [4, 6, 7, 27] l0_2.length (fun gg s4 _ _ s27 wr => ∃ (kk : Nat) (xs : List Bool), kk ≤ l0_2.length ∧ l0_2.length - kk ≤ gg ∧ s4 = .int .i64 (hd_bf l0_2 kk) ∧ s27 = .int .i64 kk ∧ Aside0 (hd_MK l0_2 xs kk) ∧ Aside0 (wr.heap[B]? = some (.cells (xs.map Value.bool).toArray 69 (0, 0))) ∧ Aside0 (wr.heap[w.heap.size]? = some (.cells #[.int .i64 a0_0, .int .i64 a0_1, .slice A0_2 l0_2.length c0_2] 29 (0, 0))) ∧ Aside0 (Below w.heap.size w wr) ∧ Aside0 (∀ j, j < kk → impl_TrainOk.l1 a0_0 a0_1 l0_2 j = true))
        case atStart =>
          refine ⟨0, List.replicate 660 false, Nat.zero_le _, by omega, rfl, rfl, ⟨hd_mk_start l0_2⟩, ⟨?_⟩, BT, HB, ⟨fun j hj => absurd hj (Nat.not_lt_zero _)⟩⟩
          rw [← HZ.out]
          exact BA.out
        case round =>
          clear BA BT HB hT2 HZ
          obtain ⟨kk, xs, hkk, hg, rfl, rfl, MK, BA, BT, HB, AA⟩ := hrel
          by_cases hlt : kk < l0_2.length
          · have hltz : (kk : Int) < (l0_2.length : Int) := by omega
            have hnn : (0 : Int) ≤ (kk : Int) := Int.natCast_nonneg kk
            obtain ⟨ad, e, hx0, hx1, hx2, hx3⟩ := at_T66 HR.out kk hnn hltz
            cases e
            rw [Int.toNat_natCast] at hx0 hx1 hx2 hx3
            replace hx0 := (HB.out.cell (World.block_lt_of_cell? w _ hx0)).trans hx0
            replace hx1 := (HB.out.cell (World.block_lt_of_cell? w _ hx1)).trans hx1
            replace hx2 := (HB.out.cell (World.block_lt_of_cell? w _ hx2)).trans hx2
            replace hx3 := (HB.out.cell (World.block_lt_of_cell? w _ hx3)).trans hx3
            obtain ⟨y, hy⟩ : ∃ y, rd_T66 l0_2 (kk : Int) = y := ⟨_, rfl⟩
            rw [hy] at hx0 hx1 hx2 hx3
            have Y := Aside0.mk hy
            clear hy
            obtain ⟨bf, hbf⟩ : ∃ z, hd_bf l0_2 kk = z := ⟨_, rfl⟩
            rw [hbf]
            have BF := Aside0.mk hbf
            clear hbf
            go_upto_region 8 with (fail)
            have n0_ := Aside0.mk (blk_alloc BA.out (Obj.cells #[.int .i64 y.f0, .int .i64 y.f1, .int .i64 y.f2, .int .i64 y.f3] 66 (0, 0)))
            have n1_ := Aside0.mk (blk_new wr (Obj.cells #[.int .i64 y.f0, .int .i64 y.f1, .int .i64 y.f2, .int .i64 y.f3] 66 (0, 0)))
            have n2_ := Aside0.mk (below_alloc HB.out (Obj.cells #[.int .i64 y.f0, .int .i64 y.f1, .int .i64 y.f2, .int .i64 y.f3] 66 (0, 0)))
            have n3_ := Aside0.mk (blk_alloc BT.out (Obj.cells #[.int .i64 y.f0, .int .i64 y.f1, .int .i64 y.f2, .int .i64 y.f3] 66 (0, 0)))
            have NG := Aside0.mk (Nat.ne_of_lt (blk_lt BA.out))
            clear BA HB BT hx0 hx1 hx2 hx3
            generalize wr.alloc (Obj.cells #[.int .i64 y.f0, .int .i64 y.f1, .int .i64 y.f2, .int .i64 y.f3] 66 (0, 0)) = w8 at n0_ n1_ n2_ n3_ ⊢
            generalize wr.heap.size = gb at n1_ NG ⊢
            have BA := n0_
            have BK := n1_
            have HB := n2_
            have BT := n3_
            clear n0_ n1_ n2_ n3_
            have hG0 : w8.cell? ⟨gb, 0, none⟩ = some (.int .i64 y.f0) := (blk_cell BK.out 0).trans rfl
            have hG1 : w8.cell? ⟨gb, 1, none⟩ = some (.int .i64 y.f1) := (blk_cell BK.out 1).trans rfl
            have hG2 : w8.cell? ⟨gb, 2, none⟩ = some (.int .i64 y.f2) := (blk_cell BK.out 2).trans rfl
            have hG3 : w8.cell? ⟨gb, 3, none⟩ = some (.int .i64 y.f3) := (blk_cell BK.out 3).trans rfl
            have hT0 : w8.cell? ⟨w.heap.size, 0, none⟩ = some (.int .i64 a0_0) := (blk_cell BT.out 0).trans rfl
            have hT1 : w8.cell? ⟨w.heap.size, 1, none⟩ = some (.int .i64 a0_1) := (blk_cell BT.out 1).trans rfl
            have hT2 : w8.cell? ⟨w.heap.size, 2, none⟩ = some (.slice (some ad) l0_2.length c0_2) := (blk_cell BT.out 2).trans rfl
            have hl1 : Aside0 (impl_TrainOk.l1 a0_0 a0_1 l0_2 kk = (decide (bf < y.f0) && decide (0 ≤ y.f1 ∧ y.f1 ≤ a0_0 - 1) && decide (0 ≤ y.f2 ∧ y.f2 < y.f3 ∧ y.f3 ≤ a0_1) && !((l0_2.take kk).any (impl_TrainOk.l3 y)))) := ⟨by
              rw [← Y.out, ← BF.out]; rfl⟩
            have hw0 : wrap64 (a0_0 - 1) = a0_0 - 1 := by
              have := of_decide_eq_true K1.out.symm
              unfold wrap64; omega
            have HW := Aside0.mk hw0
            obtain ⟨q1, hq1⟩ : ∃ b, b = decide (0 ≤ y.f1 ∧ y.f1 ≤ wrap64 (a0_0 - 1)) := ⟨_, rfl⟩
            obtain ⟨q2, hq2⟩ : ∃ b, b = decide (0 ≤ y.f2 ∧ y.f2 < y.f3 ∧ y.f3 ≤ a0_1) := ⟨_, rfl⟩
            have h3 := Aside0.mk (hd_btw y.f1 0 (wrap64 (a0_0 - 1)))
            have h4 := Aside0.mk (hd_ride a0_0 a0_1 l0_2 y.f2 y.f3)
            rw [← hq1] at h3
            rw [← hq2] at h4
            have Q1 := Aside0.mk hq1
            have Q2 := Aside0.mk hq2
            clear hq1 hq2 hw0
            by_cases c1 : y.f0 ≤ bf
            · have hp : decide (y.f0 ≤ bf) = true := decide_eq_true c1
              have hR := Aside0.mk (hd_train_false (a := a0_0) (b := a0_1) hlt (by rw [hl1.out, decide_eq_false (by omega)]; rfl))
              go_wp2
              go_ret
              exact ⟨by rw [hR.out]; rfl, HB.out⟩
            · have hp : decide (y.f0 ≤ bf) = false := decide_eq_false c1
              cases q1 with
              | false =>
                have hR := Aside0.mk (hd_train_false (a := a0_0) (b := a0_1) hlt (by
                  have := Q1.out
                  rw [HW.out] at this
                  rw [hl1.out, ← this, Bool.and_false]; rfl))
                go_wp2_with (first | (go_at_call 47; (with_reducible refine (impl_between.calls y.f1 0 (wrap64 (a0_0 - 1)) false _ h3.out).mono ?_); rintro e w' ⟨rfl, ⟨nd3, rfl⟩⟩))
                go_ret
                exact ⟨by rw [hR.out]; rfl, (by repeat (first | (with_reducible first | exact HB.out | apply below_alloc | apply pw_below_drewN | apply below_drew1) | exact HB.out))⟩
              | true =>
                cases q2 with
                | false =>
                  have hR := Aside0.mk (hd_train_false (a := a0_0) (b := a0_1) hlt (by rw [hl1.out, ← Q2.out, Bool.and_false]; rfl))
                  go_wp2_with (first | (go_at_call 47; (with_reducible refine (impl_between.calls y.f1 0 (wrap64 (a0_0 - 1)) true _ h3.out).mono ?_); rintro e w' ⟨rfl, ⟨nd3, rfl⟩⟩) | (go_at_call 48; refine (impl_Train_ride.calls a0_0 a0_1 (some ad) c0_2 l0_2 y.f2 y.f3 false _ (Kd.C_below HR.out (by repeat (first | (with_reducible first | exact HB.out | apply below_alloc | apply pw_below_drewN | apply below_drew1) | exact HB.out))) HC.out h4.out).mono ?_; rintro e w9 ⟨rfl, hb9⟩))
                  go_ret
                  exact ⟨by rw [hR.out]; rfl, below_step (by repeat (first | (with_reducible first | exact HB.out | apply below_alloc | apply pw_below_drewN | apply below_drew1) | exact HB.out)) hb9⟩
                | true =>
                  go_upto_region 10 with (first | (go_at_call 47; (with_reducible refine (impl_between.calls y.f1 0 (wrap64 (a0_0 - 1)) true _ h3.out).mono ?_); rintro e w' ⟨rfl, ⟨nd3, rfl⟩⟩) | (go_at_call 48; refine (impl_Train_ride.calls a0_0 a0_1 (some ad) c0_2 l0_2 y.f2 y.f3 true _ (Kd.C_below HR.out (by repeat (first | (with_reducible first | exact HB.out | apply below_alloc | apply pw_below_drewN | apply below_drew1) | exact HB.out))) HC.out h4.out).mono ?_; rintro e w9 ⟨rfl, hb9⟩))
                  have n0_ := Aside0.mk (blk_below (blk_drewN BA.out nd3) hb9)
                  have n1_ := Aside0.mk (blk_below (blk_drewN BK.out nd3) hb9)
                  have n2_ := Aside0.mk (blk_below (blk_drewN BT.out nd3) hb9)
                  have n3_ : Aside0 (Below w.heap.size w w9) := ⟨below_step (by repeat (first | (with_reducible first | exact HB.out | apply below_alloc | apply pw_below_drewN | apply below_drew1) | exact HB.out)) hb9⟩
                  clear BA BK BT HB hb9 hG0 hG1 hG2 hG3 hT0 hT1 hT2
                  have BA := n0_
                  have BK := n1_
                  have BT := n2_
                  have HB := n3_
                  clear n0_ n1_ n2_ n3_
                  have hG0 : w9.cell? ⟨gb, 0, none⟩ = some (.int .i64 y.f0) := (blk_cell BK.out 0).trans rfl
                  have hG2 : w9.cell? ⟨gb, 2, none⟩ = some (.int .i64 y.f2) := (blk_cell BK.out 2).trans rfl
                  have hq1 := of_decide_eq_true Q1.out.symm
                  rw [HW.out] at hq1
                  have hq2 := of_decide_eq_true Q2.out.symm
                  have hk1 := of_decide_eq_true K1.out.symm
                  have hk2 := of_decide_eq_true K2.out.symm
                  obtain ⟨s0, hs0⟩ : ∃ n : Nat, y.f1 = (n : Int) := ⟨y.f1.toNat, by omega⟩
                  obtain ⟨n2, hn2⟩ : ∃ n : Nat, y.f2 = (n : Int) := ⟨y.f2.toNat, by omega⟩
                  obtain ⟨n3, hn3⟩ : ∃ n : Nat, y.f3 = (n : Int) := ⟨y.f3.toNat, by omega⟩
                  have ls0 : s0 < 60 := by omega
                  have ln3 : n3 ≤ 11 := by omega
                  have l23 : n2 < n3 := by omega
                  have S0 := Aside0.mk hs0
                  have N2 := Aside0.mk hn2
                  have N3 := Aside0.mk hn3
                  have MI := Aside0.mk (hd_mi_start (l := l0_2) (i := kk) (k := n2) MK.out (by rw [Y.out]; exact hn2))
                  clear hq1 hq2 hk1 hk2 MK
                  go_upto_region 12 with (fail)
                  rw [hn2]
                  clear hG0 hG2 hs0 hn2 hn3
                  go_loopg [7] (n3 - n2) (fun gg s7 wi => ∃ (kn : Nat) (xi : List Bool), n2 ≤ kn ∧ kn ≤ n3 ∧ n3 - kn ≤ gg ∧ s7 = .int .i64 kn ∧ Aside0 (hd_MI l0_2 xi kk kn) ∧ Aside0 (wi.heap[B]? = some (.cells (xi.map Value.bool).toArray 69 (0, 0))) ∧ Aside0 (wi.heap[gb]? = some (.cells #[.int .i64 y.f0, .int .i64 y.f1, .int .i64 y.f2, .int .i64 y.f3] 66 (0, 0))) ∧ Aside0 (wi.heap[w.heap.size]? = some (.cells #[.int .i64 a0_0, .int .i64 a0_1, .slice (some ad) l0_2.length c0_2] 29 (0, 0))) ∧ Aside0 (Below w.heap.size w wi) ∧ Aside0 (∀ p : Nat, n2 ≤ p → p < kn → (l0_2.take kk).any (impl_TrainOk.l4 s0 p) = false))
                  case atStart => exact ⟨n2, xs, Nat.le_refl _, Nat.le_of_lt l23, Nat.le_refl _, rfl, MI, BA, BK, BT, HB, ⟨fun p h1 h2 => by omega⟩⟩
                  case round =>
                    clear MI BA BK BT HB
                    obtain ⟨kn, xi, g1, g2, g3, rfl, MI, BA, BK, BT, HB, PP⟩ := hrel
                    have hG1 := (blk_cell BK.out 1).trans (show _ = some (.int .i64 (s0 : Int)) by rw [← S0.out]; rfl)
                    have hG3 := (blk_cell BK.out 3).trans (show _ = some (.int .i64 (n3 : Int)) by rw [← N3.out]; rfl)
                    by_cases hkn : kn < n3
                    · have hknz : (kn : Int) < (n3 : Int) := by omega
                      have r0 : (0 : Int) ≤ s0 := by omega
                      have r1 : (s0 : Int) < 60 := by omega
                      have r2 : (0 : Int) ≤ kn := by omega
                      have r3 : (kn : Int) < 11 := by omega
                      have hA : ‹World›.cell? ⟨B, s0 * 11 + kn, none⟩ = some (.bool (xi.getD (s0 * 11 + kn) false)) := (blk_cell BA.out (s0 * 11 + kn)).trans (by
                        have := MI.out.1
                        simp [List.getD_eq_getElem?_getD, show s0 * 11 + kn < xi.length by omega])
                      go_upto_region 14 with (fail)
                      obtain ⟨v, hv⟩ : ∃ v, xi.getD (s0 * 11 + kn) false = v := ⟨_, rfl⟩
                      have hat := hd_mi_at MI.out ls0 (show kn < 11 by omega)
                      rw [hv] at hA hat
                      clear hv
                      cases v with
                      | true =>
                        have hR := Aside0.mk (hd_train_false (a := a0_0) (b := a0_1) hlt (by
                          rw [hl1.out]
                          have : (l0_2.take kk).any (impl_TrainOk.l3 y) = true := by
                            obtain ⟨o, ho, hc⟩ := List.any_eq_true.1 hat.symm
                            exact List.any_eq_true.2 ⟨o, ho, hd_clash_of S0.out (by rw [N2.out]; omega) (by rw [N3.out]; omega) hc⟩
                          rw [this, Bool.not_true, Bool.and_false]))
                        clear hat
                        go_wp2
                        go_ret
                        exact ⟨by rw [hR.out]; rfl, HB.out⟩
                      | false =>
                        have HAT := Aside0.mk hat
                        clear hat
                        have hfz := blk_frozen BA.out (s0 * 11 + kn)
                        go_upto_region 13 with (fail)
                        have n0_ := Aside0.mk (blk_put BA.out (s0 * 11 + kn) (.bool true) (cs' := ((xi.set (s0 * 11 + kn) true).map Value.bool).toArray) (by simp [List.map_set]))
                        have n1_ := Aside0.mk (blk_far BK.out (p := ⟨B, s0 * 11 + kn, none⟩) (fun h => NG.out h.symm) (.bool true))
                        have n2_ := Aside0.mk (blk_far BT.out (p := ⟨B, s0 * 11 + kn, none⟩) NE.out (.bool true))
                        have n3_ := Aside0.mk (below_set HB.out GB.out : Below w.heap.size w (World.setCell _ ⟨B, s0 * 11 + kn, none⟩ (.bool true)))
                        have MI2 := Aside0.mk (hd_mi_step MI.out (by rw [Y.out]; exact S0.out) ls0 (show kn < 11 by omega) (by rw [Y.out, N2.out]; omega))
                        have hw := hd_w64k kn (by omega)
                        have HWK := Aside0.mk hw
                        clear hA hfz hG1 hG3 hw
                        generalize wr.setCell ⟨B, s0 * 11 + kn, none⟩ (.bool true) = w13 at n0_ n1_ n2_ n3_ ⊢
                        generalize xi.set (s0 * 11 + kn) true = xj at n0_ MI2
                        generalize s0 * 11 + kn = cc
                        go_wp2_with (fail)
                        go_roundg (n3 - (kn + 1))
                        case measure => (try clear hw); omega
                        case rel =>
                          refine ⟨kn + 1, xj, by omega, by omega, by omega, by first | rw [HWK.out] | exact congrArg (Value.int .i64) (by omega), MI2, n0_, n1_, n2_, n3_, ⟨fun p h1 h2 => ?_⟩⟩
                          (try clear hw)
                          by_cases e : p = kn
                          · subst e
                            exact HAT.out.symm
                          · exact PP.out p h1 (by omega)
                    · have hknz : ¬ (kn : Int) < (n3 : Int) := by omega
                      have hkk : kn = n3 := by omega
                      have hw := hd_w64k kk (by have := h200.out; omega)
                      have hG0 : wr.cell? ⟨gb, 0, none⟩ = some (.int .i64 y.f0) := (blk_cell BK.out 0).trans rfl
                      go_wp2
                      go_roundg (l0_2.length - (kk + 1))
                      case measure => (try clear hw); omega
                      case rel =>
                        refine ⟨kk + 1, xi, by (try clear hw); omega, by (try clear hw); omega, ?_, by first | rw [hw] | exact congrArg (Value.int .i64) (by (try clear hw); omega), ⟨hd_mi_end MI.out hlt (by rw [Y.out, N3.out, hkk])⟩, BA, BT, HB, ⟨fun j hj => ?_⟩⟩
                        · rw [show hd_bf l0_2 (kk + 1) = (rd_T66 l0_2 (kk : Int)).f0 from rfl, Y.out]
                        · (try clear hw)
                          by_cases e : j = kk
                          · subst e
                            rw [hl1.out, ← Q2.out]
                            have hq1 := Q1.out
                            rw [HW.out] at hq1
                            rw [← hq1, decide_eq_true (by omega)]
                            have hno := hd_no_clash (b := y) (os := l0_2.take j) (s := s0) S0.out (by rw [N2.out]; omega) (by rw [N2.out, N3.out]; omega) (hd_elder (by omega) AA.out) (fun p h1 h2 => by
                              rw [N2.out] at h1
                              rw [N3.out] at h2
                              exact PP.out p (by omega) (by omega))
                            rw [hno]
                            rfl
                          · exact AA.out j (by omega)
          · have hltz : ¬ (kk : Int) < (l0_2.length : Int) := by omega
            have hR := Aside0.mk (show impl_TrainOk.l0 a0_0 a0_1 l0_2 = true by
              rw [hF.out, decide_eq_true h200.out, hd_train_true (fun j hj => AA.out j (by omega))]; rfl)
            go_wp2
            go_ret
            exact ⟨by rw [hR.out]; rfl, HB.out⟩

end Go.Proofs.Ytklikbjlfaednaa.P
