/- Contracts of functions, each with its plain Lean function. -/
import Derived.Test.YtdpjoblnjjkbfaaDoorNe
import Derived.Test.YtdpjoblnjjkbfaaDoorNb
import Derived.Test.YtdpjoblnjjkbfaaDoorPx0
namespace Go.Proofs.YtdpjoblnjjkbfaaDoor.P
open Go.RowKit Go.Proofs.YtdpjoblnjjkbfaaDoorW.PrintWords Go.Proofs.YtdpjoblnjjkbfaaDoorW.PrintLast Go.Proofs.YtdpjoblnjjkbfaaDoorW.PrintMore
attribute [local go_sem] max2_int min2_int max_two min_two max_three min_three max_four min_four   -- for this text's walks alone
set_option linter.unusedVariables false
set_option linter.unusedSimpArgs false
/-! ### impl_legsFrom: function 37 -/
theorem impl_legsFrom.mono_l : ∀ k, (∀ y0 y1 y2 y3 y4, LeO (impl_legsFrom.l0 k y0 y1 y2 y3 y4) (impl_legsFrom.l0 (k + 1) y0 y1 y2 y3 y4)) ∧ (∀ y0 y1 y2 y3 y4 y5 y6 y7 y8 y9 y10, LeO (impl_legsFrom.l1 k y0 y1 y2 y3 y4 y5 y6 y7 y8 y9 y10) (impl_legsFrom.l1 (k + 1) y0 y1 y2 y3 y4 y5 y6 y7 y8 y9 y10)) ∧ (∀ y0 y1 y2 y3 y4 y5 y6 y7 y8 y9 y10 y11 y12, LeO (impl_legsFrom.l2 k y0 y1 y2 y3 y4 y5 y6 y7 y8 y9 y10 y11 y12) (impl_legsFrom.l2 (k + 1) y0 y1 y2 y3 y4 y5 y6 y7 y8 y9 y10 y11 y12))
 | 0 => ⟨fun _ _ _ _ _ r h => by simp [impl_legsFrom.l0] at h, fun _ _ _ _ _ _ _ _ _ _ _ r h => by simp [impl_legsFrom.l1] at h, fun _ _ _ _ _ _ _ _ _ _ _ _ _ r h => by simp [impl_legsFrom.l2] at h⟩
 | k + 1 => by
  obtain ⟨ih0, ih1, ih2⟩ := impl_legsFrom.mono_l k
  refine ⟨?_, ?_, ?_⟩
  all_goals intros
  all_goals first | unfold impl_legsFrom.l0 | unfold impl_legsFrom.l1 | unfold impl_legsFrom.l2
  all_goals
   repeat' first
   | (with_reducible exact ih0 _ _ _ _ _)
   | (with_reducible exact ih1 _ _ _ _ _ _ _ _ _ _ _)
   | (with_reducible exact ih2 _ _ _ _ _ _ _ _ _ _ _ _ _)
   | (with_reducible exact LeO.refl _)
   | (with_reducible exact LeO.none _)
   | (with_reducible refine LeO.ite ?_ ?_)
   | (with_reducible refine LeO.bind ?_ (fun _ => ?_))
   | exact ih0 _ _ _ _ _
   | exact ih1 _ _ _ _ _ _ _ _ _ _ _
   | exact ih2 _ _ _ _ _ _ _ _ _ _ _ _ _
   | exact LeO.none _
   | refine LeO.ite ?_ ?_
   | refine LeO.bind ?_ (fun _ => ?_)
theorem impl_legsFrom.mono : ∀ a0 a1 k, LeO (impl_legsFrom.f k a0 a1) (impl_legsFrom.f (k + 1) a0 a1) := by
 intro a0 a1 k
 obtain ⟨ih0, ih1, ih2⟩ := impl_legsFrom.mono_l k
 unfold impl_legsFrom.f
 repeat' first
  | (with_reducible exact ih0 _ _ _ _ _)
  | (with_reducible exact ih1 _ _ _ _ _ _ _ _ _ _ _)
  | (with_reducible exact ih2 _ _ _ _ _ _ _ _ _ _ _ _ _)
  | (with_reducible exact LeO.refl _)
  | (with_reducible exact LeO.none _)
  | (with_reducible refine LeO.ite ?_ ?_)
  | (with_reducible refine LeO.bind ?_ (fun _ => ?_))
  | exact ih0 _ _ _ _ _
  | exact ih1 _ _ _ _ _ _ _ _ _ _ _
  | exact ih2 _ _ _ _ _ _ _ _ _ _ _ _ _
  | exact LeO.none _
  | refine LeO.ite ?_ ?_
  | refine LeO.bind ?_ (fun _ => ?_)
set_option maxHeartbeats 8000000 in
set_option maxRecDepth 100000 in
theorem impl_legsFrom.calls (k : Nat) (A0 : Option Addr) (c0 : Nat) (l0 : List (S46)) (a1 : Int) (r : List (S48)) (w : World) (hr0 : Kd.C k46 w A0 l0.length l0) (hc0 : l0.length ≤ c0) (h : impl_legsFrom.f k l0 a1 = some r) :
 Calls Tryd.prog 37 #[.slice A0 l0.length c0, .int .i64 a1] w fun e w' => ∃ v0_ : Value, e = .returned (v0_) ∧ Kd.R k48 48 w' w.heap.size (fun _ => True) v0_ r ∧ Below w.heap.size w w' := by
 have hu46 := Tryd.underlying46; have hu43 := Tryd.underlying43; have hu48 := Tryd.underlying48
 have HR0 := aM hr0
 have HC0 := aM hc0
 clear hr0 hc0
 have HB := aM (Below.refl w.heap.size w)
 have H : (impl_legsFrom.l0 k a1 (([] : List (S48))) l0 (l0.length : Int) 0) = some r := h
 clear h
 obtain ⟨y294, hy294⟩ : ∃ y_ : List (S48), y_ = (([] : List (S48))) := ⟨_, rfl⟩
 replace H : (impl_legsFrom.l0 k a1 y294 l0 (l0.length : Int) 0) = some r := by first | (rw [hy294]; with_reducible exact H) | (have H2_ := (Option.bind_some _ _).symm.trans H; rw [hy294]; with_reducible exact H2_) | (have H2_ := (Option.bind_some _ _).symm.trans H; with_reducible exact H2_) | with_reducible exact H | (rw [hy294]; exact H) | exact H
 have Ny294 := aM hy294
 clear hy294
 have H' := aM H
 clear H
 go_enter Tryd.func37, Tryd.ntmps37
 go_wp2_with (first | ((with_reducible refine gate_dst (N := 11) rfl ?_); refine Kd.R_lit k48 _ 48 ?hg (N := 11) ?hd (xs := ([] : List (S48))) (inner := []) (ok := fun _ => True) (okp := fun _ => True) ?hr ?hp (fun _ hk => hk) trivial (Below.refl _ _) (Nat.le_refl _) (by simp) ?_; (case hd => rfl); (case hg => rfl); (case hr => first | (go_simp; done) | (go_simp; rfl)); (case hp => exact (Reps.none _ _)); intro v295 w3 ho4 hb hg_ hnew_; clear hg_ hnew_; (first | rw [← Ny294.out] at ho4 | (simp only [Int.reduceToNat] at ho4; rw [← Ny294.out] at ho4)); have n_ := aA (Kd.R_lower ho4 (below_size (nH HB.out))) <| aM (below_step (nH HB.out) hb); clear HB; obtain ⟨HO296, HB⟩ := n_; clear hb ho4))
 go_loopg [5, 14] k (fun kq v5 v14 w' => ∃ (x5_1 : List (S48)) (x14_1 : Int), v14 = .int .i64 x14_1 ∧ Aside0 (impl_legsFrom.l0 kq a1 x5_1 l0 (l0.length : Int) x14_1 = some r) ∧ Aside0 (kq ≤ k) ∧ Aside0 (Kd.R k48 48 w' w.heap.size (fun _ => True) v5 x5_1) ∧ Aside0 (Below w.heap.size w w'))
 case atStart => exact ⟨(y294), (0), nS, H', ⟨Nat.le_refl _⟩, ⟨by (with_reducible repeat (first | apply Kd.R_alloc | apply Kd.R_drewN | apply Kd.R_drew)); exact HO296.out⟩, ⟨nH HB.out⟩⟩
 case round =>
  clear H'
  try clear p2; try clear c3
  obtain ⟨x5_1, x14_1, rfl, HA, HK1, HO_5, HB⟩ := hrel
  cases gk with
  | zero => exact absurd HA.out (by simp [impl_legsFrom.l0])
  | succ k1 =>
   have H := HA.out; clear HA
   simp only [impl_legsFrom.l0] at H
   by_cases c5 : x14_1 < (l0.length : Int)
   · rw [if_pos c5] at H
     have c5b0 : decide (x14_1 < (l0.length : Int)) = true := decide_eq_true c5
     clear c5
     by_cases c6 : 0 ≤ x14_1
     rotate_left
     · (rw [if_neg c6] at H; exact absurd H (by simp))
     rw [if_pos c6] at H
     have c6b0 : decide (0 ≤ x14_1) = true := decide_eq_true c6
     clear c6
     by_cases c7 : x14_1 < (l0.length : Int)
     rotate_left
     · (rw [if_neg c7] at H; exact absurd H (by simp))
     rw [if_pos c7] at H
     have c7b0 : decide (x14_1 < (l0.length : Int)) = true := decide_eq_true c7
     clear c7
     have H' := aM H
     clear H
     have p297 : 0 ≤ (x14_1 : Int) := of_decide_eq_true nQ
     have q297 : x14_1 < (l0.length : Int) := of_decide_eq_true nQ
     obtain ⟨ad297, A297_1, c297_1, e297, hx297_0, hx297_1, hl297_1, hi297_1⟩ := at_T46 HR0.out x14_1 p297 q297
     cases e297
     replace hx297_0 := (HB.out.cell (World.block_lt_of_cell? w _ hx297_0)).trans hx297_0
     replace hx297_1 := (HB.out.cell (World.block_lt_of_cell? w _ hx297_1)).trans hx297_1
     have HR297_1 := aM hi297_1
     have HC297_1 := aM hl297_1
     clear hi297_1 hl297_1; replace p297 := eq_true p297; replace q297 := eq_true q297
     go_wp2_with (first | (refine nBx 7 rfl #[.string (⟨#[]⟩ : ByteArray), .slice none 0 0] 46 ?_; intro gb298 hg w8 hbox hb; have n_ := aA (Kd.R_below (nR HO_5.out) hb) <| aA (below_step (nH HB.out) hb) <| aA (hbox) <| aA (bS hg (nH HB.out)) <| aM (bS hg (nH HB.out)); clear HO_5 HB; obtain ⟨HO_5, HB, BK298, GW298, GE298⟩ := n_; clear hb hbox hg; obtain ⟨hcz9_0, hcz9_1, hfz9_0, hfz9_1⟩ := nK2 BK298.out))
     go_loopg [5, 22] k1 (fun kq v5 v22 w' => ∃ (x5_2 : List (S48)) (x22_2 : Int), v22 = .int .i64 x22_2 ∧ Aside0 (impl_legsFrom.l1 kq a1 x5_2 x14_1 l0 (l0.length : Int) x14_1 ((rd_T46 l0 x14_1).f1) (((rd_T46 l0 x14_1).f1).length : Int) x22_2 ((rd_T46 l0 x14_1).f0) ((rd_T46 l0 x14_1).f1) = some r) ∧ Aside0 (kq ≤ k1) ∧ Aside0 (Kd.R k48 48 w' w.heap.size (fun _ => True) v5 x5_2) ∧ Aside0 (w'.heap[gb298]? = some (.cells #[.string ((rd_T46 l0 x14_1).f0), (.slice A297_1 ((rd_T46 l0 x14_1).f1).length c297_1)] 46 (0, 0))) ∧ Aside0 (Below w.heap.size w w'))
     case atStart => exact ⟨(x5_1), (0), nS, H', ⟨Nat.le_refl _⟩, ⟨by (with_reducible repeat (first | apply Kd.R_alloc | apply Kd.R_drewN | apply Kd.R_drew)); exact Kd.R_mono (Kd.R_far (p := ⟨gb298, 1, none⟩) (Kd.R_far (p := ⟨gb298, 0, none⟩) (Kd.R_types HO_5.out BK298.out (by decide)) (fun _ hk => hk.2) (.string ((rd_T46 l0 x14_1).f0))) (fun _ hk => hk.2) (.slice A297_1 ((rd_T46 l0 x14_1).f1).length c297_1)) (fun _ hk => trivial)⟩, ⟨by refine nE ?_; refine blk_put (cs := #[.string ((rd_T46 l0 x14_1).f0), .slice none 0 0]) ?_ 1 _ rfl; refine nE ?_; refine blk_put (cs := #[.string (⟨#[]⟩ : ByteArray), .slice none 0 0]) ?_ 0 _ rfl; refine nE ?_; exact BK298.out⟩, ⟨nH1 HB.out GE298.out⟩⟩
     case round =>
      clear H'
      try clear c2; try clear p2; try clear q2; try clear hx2; try clear c3; try clear c5; try clear c5b0; try clear c6; try clear c6b0; try clear c7; try clear c7b0; try clear hcz9_0; try clear hcz9_1; try clear hfz9_0; try clear hfz9_1; try clear hx297_0; try clear hx297_1; try clear p2; try clear p297; try clear q297
      obtain ⟨x5_2, x22_2, rfl, HA, HK2, HO_5, BK298, HB⟩ := hrel
      cases gk with
      | zero => exact absurd HA.out (by simp [impl_legsFrom.l1])
      | succ k2 =>
       have H := HA.out; clear HA
       simp only [impl_legsFrom.l1] at H
       by_cases c10 : x22_2 < (((rd_T46 l0 x14_1).f1).length : Int)
       · rw [if_pos c10] at H
         have c10b0 : decide (x22_2 < (((rd_T46 l0 x14_1).f1).length : Int)) = true := decide_eq_true c10
         clear c10
         by_cases c11 : 0 ≤ x22_2
         rotate_left
         · (rw [if_neg c11] at H; exact absurd H (by simp))
         rw [if_pos c11] at H
         have c11b0 : decide (0 ≤ x22_2) = true := decide_eq_true c11
         clear c11
         by_cases c12 : x22_2 < (((rd_T46 l0 x14_1).f1).length : Int)
         rotate_left
         · (rw [if_neg c12] at H; exact absurd H (by simp))
         rw [if_pos c12] at H
         have c12b0 : decide (x22_2 < (((rd_T46 l0 x14_1).f1).length : Int)) = true := decide_eq_true c12
         clear c12
         by_cases c13 : ((rd_T43 ((rd_T46 l0 x14_1).f1) x22_2).f0) = a1
         · rw [if_pos c13] at H
           have c13b0 : (((rd_T43 ((rd_T46 l0 x14_1).f1) x22_2).f0) == a1) = true := beq_iff_eq.mpr c13
           have c13b1 : (((rd_T43 ((rd_T46 l0 x14_1).f1) x22_2).f0) != a1) = false := bne_eq_false_iff_eq.mpr c13
           clear c13
           have H' := aM H
           clear H
           have p299 : 0 ≤ (x22_2 : Int) := of_decide_eq_true nQ
           have q299 : x22_2 < (((rd_T46 l0 x14_1).f1).length : Int) := of_decide_eq_true nQ
           obtain ⟨ad299, e299, hx299_0, hx299_1, hx299_2⟩ := at_T43 HR297_1.out x22_2 p299 q299
           cases e299
           replace hx299_0 := (HB.out.cell (World.block_lt_of_cell? w _ hx299_0)).trans hx299_0
           replace hx299_1 := (HB.out.cell (World.block_lt_of_cell? w _ hx299_1)).trans hx299_1
           replace hx299_2 := (HB.out.cell (World.block_lt_of_cell? w _ hx299_2)).trans hx299_2
           replace p299 := eq_true p299; replace q299 := eq_true q299
           go_wp2_with (first | (refine nBx 9 rfl #[.int .i64 0, .int .i64 0, .int .i64 0] 43 ?_; intro gb300 hg w14 hbox hb; have n_ := aA (Kd.R_below (nR HO_5.out) hb) <| aA (nBB BK298.out hb) <| aA (below_step (nH1 HB.out GE298.out) hb) <| aA (hbox) <| aA (bS hg (nH1 HB.out GE298.out)) <| aA (bS hg (nH1 HB.out GE298.out)) <| aA (nBL BK298.out hg) <| aM (by rw [hg]; exact Nat.ne_of_gt (blk_lt (g := gb298) (o := .cells #[.string ((rd_T46 l0 x14_1).f0), .slice (some ad299) ((rd_T46 l0 x14_1).f1).length c297_1] 46 (0, 0)) (nB BK298.out)) : gb300 ≠ gb298); clear HO_5 BK298 HB; obtain ⟨HO_5, BK298, HB, BK300, GW300, GE300, NB298_300, NB300_298⟩ := n_; clear hb hbox hg; have hnb15 := NB300_298.out; have hnc15 := NB298_300.out; obtain ⟨hcz16_0, hcz16_1, hcz16_2, hfz16_0, hfz16_1, hfz16_2⟩ := nK3 BK300.out))
           go_loopg [5, 10] k2 (fun kq v5 v10 w' => ∃ (x5_3 : List (S48)) (x10_3 : Int), v10 = .int .i64 x10_3 ∧ Aside0 (impl_legsFrom.l2 kq a1 x5_3 x14_1 x22_2 x10_3 l0 (l0.length : Int) x14_1 ((rd_T46 l0 x14_1).f1) (((rd_T46 l0 x14_1).f1).length : Int) x22_2 ((rd_T46 l0 x14_1).f0) ((rd_T46 l0 x14_1).f1) = some r) ∧ Aside0 (kq ≤ k2) ∧ Aside0 (Kd.R k48 48 w' w.heap.size (fun _ => True) v5 x5_3) ∧ Aside0 (w'.heap[gb298]? = some (.cells #[.string ((rd_T46 l0 x14_1).f0), (.slice (some ad299) ((rd_T46 l0 x14_1).f1).length c297_1)] 46 (0, 0))) ∧ Aside0 (w'.heap[gb300]? = some (.cells #[.int .i64 ((rd_T43 ((rd_T46 l0 x14_1).f1) x22_2).f0), .int .i64 ((rd_T43 ((rd_T46 l0 x14_1).f1) x22_2).f1), .int .i64 ((rd_T43 ((rd_T46 l0 x14_1).f1) x22_2).f2)] 43 (0, 0))) ∧ Aside0 (Below w.heap.size w w'))
           case atStart => exact ⟨(x5_2), (wrap64 (x22_2 + 1)), nS, H', ⟨Nat.le_refl _⟩, ⟨by (with_reducible repeat (first | apply Kd.R_alloc | apply Kd.R_drewN | apply Kd.R_drew)); exact Kd.R_mono (Kd.R_far (p := ⟨gb300, 2, none⟩) (Kd.R_far (p := ⟨gb300, 1, none⟩) (Kd.R_far (p := ⟨gb300, 0, none⟩) (Kd.R_types HO_5.out BK300.out (by decide)) (fun _ hk => hk.2) (.int .i64 ((rd_T43 ((rd_T46 l0 x14_1).f1) x22_2).f0))) (fun _ hk => hk.2) (.int .i64 ((rd_T43 ((rd_T46 l0 x14_1).f1) x22_2).f1))) (fun _ hk => hk.2) (.int .i64 ((rd_T43 ((rd_T46 l0 x14_1).f1) x22_2).f2))) (fun _ hk => trivial)⟩, ⟨by refine nE ?_; refine blk_far ?_ NB298_300.out _; refine nE ?_; refine blk_far ?_ NB298_300.out _; refine nE ?_; refine blk_far ?_ NB298_300.out _; refine nE ?_; exact BK298.out⟩, ⟨by refine nE ?_; refine blk_put (cs := #[.int .i64 ((rd_T43 ((rd_T46 l0 x14_1).f1) x22_2).f0), .int .i64 ((rd_T43 ((rd_T46 l0 x14_1).f1) x22_2).f1), .int .i64 0]) ?_ 2 _ rfl; refine nE ?_; refine blk_put (cs := #[.int .i64 ((rd_T43 ((rd_T46 l0 x14_1).f1) x22_2).f0), .int .i64 0, .int .i64 0]) ?_ 1 _ rfl; refine nE ?_; refine blk_put (cs := #[.int .i64 0, .int .i64 0, .int .i64 0]) ?_ 0 _ rfl; refine nE ?_; exact BK300.out⟩, ⟨nH2 HB.out GE298.out GE300.out⟩⟩
           case round =>
            clear H'
            try clear c1; try clear c2; try clear p2; try clear q2; try clear hx2; try clear c3; try clear c5; try clear c5b0; try clear c6; try clear c6b0; try clear p6; try clear c7; try clear c7b0; try clear c10; try clear c10b0; try clear c11; try clear c11b0; try clear c12; try clear c12b0; try clear c13; try clear c13b0; try clear c13b1; try clear c15; try clear hcz16_0; try clear hcz16_1; try clear hcz16_2; try clear hcz9_0; try clear hcz9_1; try clear hfz16_0; try clear hfz16_1; try clear hfz16_2; try clear hfz9_0; try clear hfz9_1; try clear hx297_0; try clear hx297_1; try clear hx299_0
            try clear hx299_1; try clear hx299_2; try clear p2; try clear p297; try clear p299; try clear q2; try clear q297; try clear q299
            obtain ⟨x5_3, x10_3, rfl, HA, HK3, HO_5, BK298, BK300, HB⟩ := hrel
            cases gk with
            | zero => exact absurd HA.out (by simp [impl_legsFrom.l2])
            | succ k3 =>
             have H := HA.out; clear HA
             simp only [impl_legsFrom.l2] at H
             by_cases c17 : x10_3 < (((rd_T46 l0 x14_1).f1).length : Int)
             · rw [if_pos c17] at H
               have c17b0 : decide (x10_3 < (((rd_T46 l0 x14_1).f1).length : Int)) = true := decide_eq_true c17
               clear c17
               by_cases c18 : x5_3.length < 5864062014805
               rotate_left
               · (rw [if_neg c18] at H; exact absurd H (by simp))
               rw [if_pos c18] at H
               have LMc18 := aM c18
               clear c18
               obtain ⟨y301, hy301⟩ : ∃ y_ : List (S48), y_ = (x5_3 ++ [(⟨x14_1, x22_2, x10_3⟩ : S48)]) := ⟨_, rfl⟩
               replace H : (impl_legsFrom.l2 k3 a1 y301 x14_1 x22_2 (wrap64 (x10_3 + 1)) l0 (l0.length : Int) x14_1 ((rd_T46 l0 x14_1).f1) (((rd_T46 l0 x14_1).f1).length : Int) x22_2 ((rd_T46 l0 x14_1).f0) ((rd_T46 l0 x14_1).f1)) = some r := by first | (rw [hy301]; with_reducible exact H) | (have H2_ := (Option.bind_some _ _).symm.trans H; rw [hy301]; with_reducible exact H2_) | (have H2_ := (Option.bind_some _ _).symm.trans H; with_reducible exact H2_) | with_reducible exact H | (rw [hy301]; exact H) | exact H
               have Ny301 := aM hy301
               clear hy301
               have H' := aM H
               clear H; have hnb19 := NB298_300.out; have hnc19 := NB300_298.out
               obtain ⟨hcz20_0, hcz20_1, hfz20_0, hfz20_1⟩ := nK2 BK298.out
               go_wp2_with (first | ((with_reducible refine gate_builtin (b := .append) (xs := #[.tmp 40, .tmp 45]) rfl ?_); at_builtin; refine Kd.R_append k48 (w0 := w) w.heap.size rfl (.tmp 40) (.tmp 45) 29 48 (.agg #[(.int .i64 0), (.int .i64 0), (.int .i64 0)]) 24 rfl Tryd.underlying29 info48 rfl (by decide) (by omega) u5 x5_3 (⟨x14_1, x22_2, x10_3⟩ : S48) [.int .i64 x14_1, .int .i64 x22_2, .int .i64 x10_3] (fun _ => True) (fun _ => False) rfl rfl ?aP (fun _ hk => hk.elim) ?aF ?aO ?aB ?aS ?aL ?_; (case aP => exact k48_mkM _ _ _ (⟨x14_1, x22_2, x10_3⟩ : S48)); (case aB => exact (nH2 HB.out GE298.out GE300.out)); (case aF => exact (fun _ _ => trivial)); (case aO => exact (nR HO_5.out)); (case aS => exact (below_size (nH2 HB.out GE298.out GE300.out))); (case aL => have := LMc18.out; omega); intro v302 w21 ho hb hg hat; rw [← Ny301.out] at ho; have n_ := aA (blk_grown (g := gb298) (o := .cells #[.string ((rd_T46 l0 x14_1).f0), .slice (some ad299) ((rd_T46 l0 x14_1).f1).length c297_1] 46 (0, 0)) (nB BK298.out) hg (Kd.R_ne HO_5.out BK298.out (by decide))) <| aA (blk_grown (g := gb300) (o := .cells #[.int .i64 ((rd_T43 ((rd_T46 l0 x14_1).f1) x22_2).f0), .int .i64 ((rd_T43 ((rd_T46 l0 x14_1).f1) x22_2).f1), .int .i64 ((rd_T43 ((rd_T46 l0 x14_1).f1) x22_2).f2)] 43 (0, 0)) (nB BK300.out) hg (Kd.R_ne HO_5.out BK300.out (by decide))) <| aA (hb) <| aM (ho); clear BK298 BK300 HB HO_5; obtain ⟨BK298, BK300, HB, HO303⟩ := n_; clear ho hb hg hat))
               go_roundg k3
               case measure => have := HK1.out; have := HK2.out; have := HK3.out; omega
               case rel => exact ⟨(y301), (wrap64 (x10_3 + 1)), nS, H', ⟨by have := HK1.out; have := HK2.out; have := HK3.out; omega⟩, ⟨by (with_reducible repeat (first | apply Kd.R_alloc | apply Kd.R_drewN | apply Kd.R_drew)); exact HO303.out⟩, ⟨by refine nE ?_; exact BK298.out⟩, ⟨by refine nE ?_; exact BK300.out⟩, ⟨nH2 HB.out GE298.out GE300.out⟩⟩
             · rw [if_neg c17] at H
               have c17b0 : decide (x10_3 < (((rd_T46 l0 x14_1).f1).length : Int)) = false := decide_eq_false c17
               clear c17
               have H' := aM H
               clear H; have hnb22 := NB298_300.out; have hnc22 := NB300_298.out
               obtain ⟨hcz23_0, hcz23_1, hfz23_0, hfz23_1⟩ := nK2 BK298.out
               go_wp2
               go_roundg k3
               case measure => have := HK1.out; have := HK2.out; have := HK3.out; omega
               case rel => exact ⟨(x5_3), (wrap64 (x22_2 + 1)), nS, H', ⟨by have := HK1.out; have := HK2.out; have := HK3.out; omega⟩, ⟨by (with_reducible repeat (first | apply Kd.R_alloc | apply Kd.R_drewN | apply Kd.R_drew)); exact HO_5.out⟩, ⟨by refine nE ?_; exact BK298.out⟩, ⟨nH2 HB.out GE298.out GE300.out⟩⟩
         · rw [if_neg c13] at H
           have c13b0 : (((rd_T43 ((rd_T46 l0 x14_1).f1) x22_2).f0) == a1) = false := beq_eq_false_iff_ne.mpr c13
           have c13b1 : (((rd_T43 ((rd_T46 l0 x14_1).f1) x22_2).f0) != a1) = true := bne_iff_ne.mpr c13
           have H' := aM H
           clear H
           have p299 : 0 ≤ (x22_2 : Int) := of_decide_eq_true nQ
           have q299 : x22_2 < (((rd_T46 l0 x14_1).f1).length : Int) := of_decide_eq_true nQ
           obtain ⟨ad299, e299, hx299_0, hx299_1, hx299_2⟩ := at_T43 HR297_1.out x22_2 p299 q299
           cases e299
           replace hx299_0 := (HB.out.cell (World.block_lt_of_cell? w _ hx299_0)).trans hx299_0
           replace hx299_1 := (HB.out.cell (World.block_lt_of_cell? w _ hx299_1)).trans hx299_1
           replace hx299_2 := (HB.out.cell (World.block_lt_of_cell? w _ hx299_2)).trans hx299_2
           replace p299 := eq_true p299; replace q299 := eq_true q299
           go_wp2_with (first | (refine nBx 9 rfl #[.int .i64 0, .int .i64 0, .int .i64 0] 43 ?_; intro gb300 hg w24 hbox hb; have n_ := aA (Kd.R_below (nR HO_5.out) hb) <| aA (nBB BK298.out hb) <| aA (below_step (nH1 HB.out GE298.out) hb) <| aA (hbox) <| aA (bS hg (nH1 HB.out GE298.out)) <| aA (bS hg (nH1 HB.out GE298.out)) <| aA (nBL BK298.out hg) <| aM (by rw [hg]; exact Nat.ne_of_gt (blk_lt (g := gb298) (o := .cells #[.string ((rd_T46 l0 x14_1).f0), .slice (some ad299) ((rd_T46 l0 x14_1).f1).length c297_1] 46 (0, 0)) (nB BK298.out)) : gb300 ≠ gb298); clear HO_5 BK298 HB; obtain ⟨HO_5, BK298, HB, BK300, GW300, GE300, NB298_300, NB300_298⟩ := n_; clear hb hbox hg; have hnb25 := NB300_298.out; have hnc25 := NB298_300.out; obtain ⟨hcz26_0, hcz26_1, hcz26_2, hfz26_0, hfz26_1, hfz26_2⟩ := nK3 BK300.out))
           go_roundg k2
           case measure => have := HK1.out; have := HK2.out; omega
           case rel => exact ⟨(x5_2), (wrap64 (x22_2 + 1)), nS, H', ⟨by have := HK1.out; have := HK2.out; omega⟩, ⟨by (with_reducible repeat (first | apply Kd.R_alloc | apply Kd.R_drewN | apply Kd.R_drew)); exact Kd.R_mono (Kd.R_far (p := ⟨gb300, 2, none⟩) (Kd.R_far (p := ⟨gb300, 1, none⟩) (Kd.R_far (p := ⟨gb300, 0, none⟩) (Kd.R_types HO_5.out BK300.out (by decide)) (fun _ hk => hk.2) (.int .i64 ((rd_T43 ((rd_T46 l0 x14_1).f1) x22_2).f0))) (fun _ hk => hk.2) (.int .i64 ((rd_T43 ((rd_T46 l0 x14_1).f1) x22_2).f1))) (fun _ hk => hk.2) (.int .i64 ((rd_T43 ((rd_T46 l0 x14_1).f1) x22_2).f2))) (fun _ hk => trivial)⟩, ⟨by refine nE ?_; refine blk_far ?_ NB298_300.out _; refine nE ?_; refine blk_far ?_ NB298_300.out _; refine nE ?_; refine blk_far ?_ NB298_300.out _; refine nE ?_; exact BK298.out⟩, ⟨nH2 HB.out GE298.out GE300.out⟩⟩
       · rw [if_neg c10] at H
         have c10b0 : decide (x22_2 < (((rd_T46 l0 x14_1).f1).length : Int)) = false := decide_eq_false c10
         clear c10
         have H' := aM H
         clear H; go_wp2
         go_roundg k2
         case measure => have := HK1.out; have := HK2.out; omega
         case rel => exact ⟨(x5_2), (wrap64 (x14_1 + 1)), nS, H', ⟨by have := HK1.out; have := HK2.out; omega⟩, ⟨by (with_reducible repeat (first | apply Kd.R_alloc | apply Kd.R_drewN | apply Kd.R_drew)); exact HO_5.out⟩, ⟨nH1 HB.out GE298.out⟩⟩
   · rw [if_neg c5] at H
     have c5b0 : decide (x14_1 < (l0.length : Int)) = false := decide_eq_false c5
     clear c5; obtain rfl := Option.some.inj H; go_wp2; go_ret
     exact ⟨_, by first | rfl | (simp [errW_none, errW_some] <;> rfl) | (simp [*, errW_none, errW_some] <;> first | rfl | (simp [wrap64]; done)), by (with_reducible repeat (first | apply Kd.R_alloc | apply Kd.R_drewN | apply Kd.R_drew)); exact HO_5.out, nH HB.out⟩
end Go.Proofs.YtdpjoblnjjkbfaaDoor.P
