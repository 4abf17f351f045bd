/- Contracts of functions, each with its plain Lean function. -/
import Derived.Test.YtdpjoblnjjkbfaaDoorNe
import Derived.Test.YtdpjoblnjjkbfaaDoorNb
import Derived.Test.YtdpjoblnjjkbfaaDoorPx0
import Derived.Test.YtdpjoblnjjkbfaaDoorPx24
namespace Go.Proofs.YtdpjoblnjjkbfaaDoor.P
open Go.RowKit Go.Proofs.YtdpjoblnjjkbfaaDoorW.PrintWords Go.Proofs.YtdpjoblnjjkbfaaDoorW.PrintLast Go.Proofs.YtdpjoblnjjkbfaaDoorW.PrintMore
attribute [local go_sem] max2_int min2_int max_two min_two max_three min_three max_four min_four   -- for this text's walks alone
set_option linter.unusedVariables false
set_option linter.unusedSimpArgs false
/-! ### spec_TableOk: function 45 -/
theorem spec_TableOk.mono_l : ∀ k, (∀ y0 y1, LeO (spec_TableOk.l0 k y0 y1) (spec_TableOk.l0 (k + 1) y0 y1)) ∧ (∀ y0 y1 y2, LeO (spec_TableOk.l1 k y0 y1 y2) (spec_TableOk.l1 (k + 1) y0 y1 y2))
 | 0 => ⟨fun _ _ r h => by simp [spec_TableOk.l0] at h, fun _ _ _ r h => by simp [spec_TableOk.l1] at h⟩
 | k + 1 => by
  obtain ⟨ih0, ih1⟩ := spec_TableOk.mono_l k
  refine ⟨?_, ?_⟩
  all_goals intros
  all_goals first | unfold spec_TableOk.l0 | unfold spec_TableOk.l1
  all_goals
   repeat' first
   | (with_reducible exact ih0 _ _)
   | (with_reducible exact ih1 _ _ _)
   | (with_reducible exact spec_TripOk.mono _ _ _)
   | (with_reducible exact LeO.refl _)
   | (with_reducible exact LeO.none _)
   | (with_reducible refine LeO.ite ?_ ?_)
   | (with_reducible refine LeO.bind ?_ (fun _ => ?_))
   | exact ih0 _ _
   | exact ih1 _ _ _
   | exact spec_TripOk.mono _ _ _
   | exact LeO.none _
   | refine LeO.ite ?_ ?_
   | refine LeO.bind ?_ (fun _ => ?_)
theorem spec_TableOk.mono : ∀ a0 k, LeO (spec_TableOk.f k a0) (spec_TableOk.f (k + 1) a0) := by
 intro a0 k
 obtain ⟨ih0, ih1⟩ := spec_TableOk.mono_l k
 unfold spec_TableOk.f
 repeat' first
  | (with_reducible exact ih0 _ _)
  | (with_reducible exact ih1 _ _ _)
  | (with_reducible exact spec_TripOk.mono _ _ _)
  | (with_reducible exact LeO.refl _)
  | (with_reducible exact LeO.none _)
  | (with_reducible refine LeO.ite ?_ ?_)
  | (with_reducible refine LeO.bind ?_ (fun _ => ?_))
  | exact ih0 _ _
  | exact ih1 _ _ _
  | exact spec_TripOk.mono _ _ _
  | exact LeO.none _
  | refine LeO.ite ?_ ?_
  | refine LeO.bind ?_ (fun _ => ?_)
set_option maxHeartbeats 8000000 in
set_option maxRecDepth 100000 in
theorem spec_TableOk.calls (k : Nat) (A0 : Option Addr) (c0 : Nat) (l0 : List (S46)) (r : Bool) (w : World) (hr0 : Kd.C k46 w A0 l0.length l0) (hc0 : l0.length ≤ c0) (h : spec_TableOk.f k l0 = some r) :
 Calls Tryd.prog 45 #[.slice A0 l0.length c0] w fun e w' => e = .returned (.bool r) ∧ Below w.heap.size w w' := by
 have hu46 := Tryd.underlying46
 have HR0 := aM hr0
 have HC0 := aM hc0
 clear hr0 hc0
 have HB := aM (Below.refl w.heap.size w)
 have H : (if (l0.length : Int) > 24 then (some false) else (spec_TableOk.l0 k l0 0)) = some r := h
 clear h
 by_cases c2 : (l0.length : Int) > 24
 · rw [if_pos c2] at H
   have c2b0 : decide (24 < (l0.length : Int)) = true := decide_eq_true c2
   have c2b1 : decide (24 < l0.length) = true := decide_eq_true (by omega)
   clear c2; obtain rfl := Option.some.inj H
   go_enter Tryd.func45, Tryd.ntmps45
   go_wp2
   repeat (go_quiet (fail); try go_wp2)
   go_ret
   exact ⟨by first | rfl | (simp [errW_none, errW_some] <;> rfl) | (simp [*, errW_none, errW_some] <;> first | rfl | (simp [wrap64]; done)), nH HB.out⟩
 · rw [if_neg c2] at H
   have c2b0 : decide (24 < (l0.length : Int)) = false := decide_eq_false c2
   have c2b1 : decide (24 < l0.length) = false := decide_eq_false (by omega)
   clear c2
   have H' := aM H
   clear H
   go_enter Tryd.func45, Tryd.ntmps45
   go_wp2
   repeat (go_quiet (fail); try go_wp2)
   go_loopg [3] k (fun kq v3 w' => ∃ (x3_1 : Int), v3 = .int .i64 x3_1 ∧ Aside0 (spec_TableOk.l0 kq l0 x3_1 = some r) ∧ Aside0 (kq ≤ k) ∧ Aside0 (Below w.heap.size w w'))
   case atStart => exact ⟨(0), nS, H', ⟨Nat.le_refl _⟩, ⟨nH HB.out⟩⟩
   case round =>
    clear H'
    try clear c2; try clear c2b0; try clear c2b1; try clear p2
    obtain ⟨x3_1, rfl, HA, HK1, HB⟩ := hrel
    cases gk with
    | zero => exact absurd HA.out (by simp [spec_TableOk.l0])
    | succ k1 =>
     have H := HA.out; clear HA
     simp only [spec_TableOk.l0] at H
     by_cases c3 : x3_1 < (l0.length : Int)
     · rw [if_pos c3] at H
       have c3b0 : decide (x3_1 < (l0.length : Int)) = true := decide_eq_true c3
       clear c3
       by_cases c4 : 0 ≤ x3_1
       rotate_left
       · (rw [if_neg c4] at H; exact absurd H (by simp))
       rw [if_pos c4] at H
       have c4b0 : decide (0 ≤ x3_1) = true := decide_eq_true c4
       clear c4
       obtain ⟨t316, A50, H⟩ := Option.bind_eq_some_iff.mp H
       have A5 := aM A50
       clear A50
       by_cases c6 : t316 = true
       · subst c6
         rw [if_pos rfl] at H
         have H' := aM H
         clear H
         have p315 : 0 ≤ (x3_1 : Int) := of_decide_eq_true nQ
         have q315 : x3_1 < (l0.length : Int) := of_decide_eq_true nQ
         obtain ⟨ad315, A315_1, c315_1, e315, hx315_0, hx315_1, hl315_1, hi315_1⟩ := at_T46 HR0.out x3_1 p315 q315
         cases e315
         replace hx315_0 := (HB.out.cell (World.block_lt_of_cell? w _ hx315_0)).trans hx315_0
         replace hx315_1 := (HB.out.cell (World.block_lt_of_cell? w _ hx315_1)).trans hx315_1
         have HR315_1 := aM hi315_1
         have HC315_1 := aM hl315_1
         clear hi315_1 hl315_1; replace p315 := eq_true p315; replace q315 := eq_true q315
         go_wp2_with (first | (go_at_call 61; (with_reducible refine (spec_TripOk.calls k1 ((rd_T46 l0 x3_1).f0) _ _ ((rd_T46 l0 x3_1).f1) true _ ?side1 ?side2 A5.out).mono ?_); (case side1 => repeat (first | exact (Kd.C_below HR315_1.out HB.out) | (with_reducible refine Kd.C_alloc ?_ _) | (with_reducible refine Kd.C_drewN ?_ _) | (with_reducible refine Kd.C_drew ?_))); (case side2 => exact HC315_1.out); rintro e w7 ⟨rfl, hb⟩; have n_ := aM (below_step (nH HB.out) hb); clear HB; have HB := n_; clear n_; (try clear hb); (try clear hb2); (try clear hk); (try clear hi)))
         repeat (go_quiet (first | (go_at_call 61; (with_reducible refine (spec_TripOk.calls k1 ((rd_T46 l0 x3_1).f0) _ _ ((rd_T46 l0 x3_1).f1) true _ ?side1 ?side2 A5.out).mono ?_); (case side1 => repeat (first | exact (Kd.C_below HR315_1.out HB.out) | (with_reducible refine Kd.C_alloc ?_ _) | (with_reducible refine Kd.C_drewN ?_ _) | (with_reducible refine Kd.C_drew ?_))); (case side2 => exact HC315_1.out); rintro e w7 ⟨rfl, hb⟩; have n_ := aM (below_step (nH HB.out) hb); clear HB; have HB := n_; clear n_; (try clear hb); (try clear hb2); (try clear hk); (try clear hi))); try go_wp2_with (first | (go_at_call 61; (with_reducible refine (spec_TripOk.calls k1 ((rd_T46 l0 x3_1).f0) _ _ ((rd_T46 l0 x3_1).f1) true _ ?side1 ?side2 A5.out).mono ?_); (case side1 => repeat (first | exact (Kd.C_below HR315_1.out HB.out) | (with_reducible refine Kd.C_alloc ?_ _) | (with_reducible refine Kd.C_drewN ?_ _) | (with_reducible refine Kd.C_drew ?_))); (case side2 => exact HC315_1.out); rintro e w7 ⟨rfl, hb⟩; have n_ := aM (below_step (nH HB.out) hb); clear HB; have HB := n_; clear n_; (try clear hb); (try clear hb2); (try clear hk); (try clear hi))))
         go_loopg [4] k1 (fun kq v4 w' => ∃ (x4_2 : Int), v4 = .int .i64 x4_2 ∧ Aside0 (spec_TableOk.l1 kq l0 x3_1 x4_2 = some r) ∧ Aside0 (kq ≤ k1) ∧ Aside0 (Below w.heap.size w w'))
         case atStart => exact ⟨(0), nS, H', ⟨Nat.le_refl _⟩, ⟨nH HB.out⟩⟩
         case round =>
          clear H'
          try clear c2; try clear c2b0; try clear c2b1; try clear p2; try clear c3; try clear c3b0; try clear p3; try clear q3; try clear hx3; try clear c4; try clear c4b0; try clear c6; try clear p6; try clear hx315_0; try clear hx315_1; try clear p2; try clear p315; try clear q315
          obtain ⟨x4_2, rfl, HA, HK2, HB⟩ := hrel
          cases gk with
          | zero => exact absurd HA.out (by simp [spec_TableOk.l1])
          | succ k2 =>
           have H := HA.out; clear HA
           simp only [spec_TableOk.l1] at H
           by_cases c8 : x4_2 < x3_1
           · rw [if_pos c8] at H
             have c8b0 : decide (x4_2 < x3_1) = true := decide_eq_true c8
             clear c8
             by_cases c9 : 0 ≤ x4_2
             rotate_left
             · (rw [if_neg c9] at H; exact absurd H (by simp))
             rw [if_pos c9] at H
             have c9b0 : decide (0 ≤ x4_2) = true := decide_eq_true c9
             clear c9
             by_cases c10 : x4_2 < (l0.length : Int)
             rotate_left
             · (rw [if_neg c10] at H; exact absurd H (by simp))
             rw [if_pos c10] at H
             have c10b0 : decide (x4_2 < (l0.length : Int)) = true := decide_eq_true c10
             clear c10
             by_cases c11 : 0 ≤ x3_1
             rotate_left
             · (rw [if_neg c11] at H; exact absurd H (by simp))
             rw [if_pos c11] at H
             have c11b0 : decide (0 ≤ x3_1) = true := decide_eq_true c11
             clear c11
             by_cases c12 : x3_1 < (l0.length : Int)
             rotate_left
             · (rw [if_neg c12] at H; exact absurd H (by simp))
             rw [if_pos c12] at H
             have c12b0 : decide (x3_1 < (l0.length : Int)) = true := decide_eq_true c12
             clear c12
             by_cases c13 : ((rd_T46 l0 x4_2).f0).toList = ((rd_T46 l0 x3_1).f0).toList
             · rw [if_pos c13] at H
               have c13b0 : (((rd_T46 l0 x4_2).f0).toList == ((rd_T46 l0 x3_1).f0).toList) = true := beq_iff_eq.mpr c13
               have c13b1 : (((rd_T46 l0 x4_2).f0).toList != ((rd_T46 l0 x3_1).f0).toList) = false := bne_eq_false_iff_eq.mpr c13
               clear c13; obtain rfl := Option.some.inj H
               have p317 : 0 ≤ (x4_2 : Int) := of_decide_eq_true nQ
               have q317 : x4_2 < (l0.length : Int) := of_decide_eq_true nQ
               obtain ⟨ad317, A317_1, c317_1, e317, hx317_0, hx317_1, hl317_1, hi317_1⟩ := at_T46 HR0.out x4_2 p317 q317
               obtain rfl : ad315 = ad317 := (by injection e317)
               replace hx317_0 := (HB.out.cell (World.block_lt_of_cell? w _ hx317_0)).trans hx317_0
               replace hx317_1 := (HB.out.cell (World.block_lt_of_cell? w _ hx317_1)).trans hx317_1
               have HR317_1 := aM hi317_1
               have HC317_1 := aM hl317_1
               clear hi317_1 hl317_1; replace p317 := eq_true p317; replace q317 := eq_true q317
               have p318 : 0 ≤ (x3_1 : Int) := of_decide_eq_true nQ
               have q318 : x3_1 < (l0.length : Int) := of_decide_eq_true nQ
               obtain ⟨ad318, A318_1, c318_1, e318, hx318_0, hx318_1, hl318_1, hi318_1⟩ := at_T46 HR0.out x3_1 p318 q318
               obtain rfl : ad315 = ad318 := (by injection e318)
               replace hx318_0 := (HB.out.cell (World.block_lt_of_cell? w _ hx318_0)).trans hx318_0
               replace hx318_1 := (HB.out.cell (World.block_lt_of_cell? w _ hx318_1)).trans hx318_1
               have HR318_1 := aM hi318_1
               have HC318_1 := aM hl318_1
               clear hi318_1 hl318_1; replace p318 := eq_true p318; replace q318 := eq_true q318; go_wp2
               repeat (go_quiet (fail); try go_wp2)
               go_ret
               exact ⟨by first | rfl | (simp [errW_none, errW_some] <;> rfl) | (simp [*, errW_none, errW_some] <;> first | rfl | (simp [wrap64]; done)), nH HB.out⟩
             · rw [if_neg c13] at H
               have c13b0 : (((rd_T46 l0 x4_2).f0).toList == ((rd_T46 l0 x3_1).f0).toList) = false := beq_eq_false_iff_ne.mpr c13
               have c13b1 : (((rd_T46 l0 x4_2).f0).toList != ((rd_T46 l0 x3_1).f0).toList) = true := bne_iff_ne.mpr c13
               have H' := aM H
               clear H
               have p317 : 0 ≤ (x4_2 : Int) := of_decide_eq_true nQ
               have q317 : x4_2 < (l0.length : Int) := of_decide_eq_true nQ
               obtain ⟨ad317, A317_1, c317_1, e317, hx317_0, hx317_1, hl317_1, hi317_1⟩ := at_T46 HR0.out x4_2 p317 q317
               obtain rfl : ad315 = ad317 := (by injection e317)
               replace hx317_0 := (HB.out.cell (World.block_lt_of_cell? w _ hx317_0)).trans hx317_0
               replace hx317_1 := (HB.out.cell (World.block_lt_of_cell? w _ hx317_1)).trans hx317_1
               have HR317_1 := aM hi317_1
               have HC317_1 := aM hl317_1
               clear hi317_1 hl317_1; replace p317 := eq_true p317; replace q317 := eq_true q317
               have p318 : 0 ≤ (x3_1 : Int) := of_decide_eq_true nQ
               have q318 : x3_1 < (l0.length : Int) := of_decide_eq_true nQ
               obtain ⟨ad318, A318_1, c318_1, e318, hx318_0, hx318_1, hl318_1, hi318_1⟩ := at_T46 HR0.out x3_1 p318 q318
               obtain rfl : ad315 = ad318 := (by injection e318)
               replace hx318_0 := (HB.out.cell (World.block_lt_of_cell? w _ hx318_0)).trans hx318_0
               replace hx318_1 := (HB.out.cell (World.block_lt_of_cell? w _ hx318_1)).trans hx318_1
               have HR318_1 := aM hi318_1
               have HC318_1 := aM hl318_1
               clear hi318_1 hl318_1; replace p318 := eq_true p318; replace q318 := eq_true q318; go_wp2
               repeat (go_quiet (fail); try go_wp2)
               go_roundg k2
               case measure => have := HK1.out; have := HK2.out; omega
               case rel => exact ⟨(wrap64 (x4_2 + 1)), nS, H', ⟨by have := HK1.out; have := HK2.out; omega⟩, ⟨nH HB.out⟩⟩
           · rw [if_neg c8] at H
             have c8b0 : decide (x4_2 < x3_1) = false := decide_eq_false c8
             clear c8
             have H' := aM H
             clear H; go_wp2
             repeat (go_quiet (fail); try go_wp2)
             go_roundg k2
             case measure => have := HK1.out; have := HK2.out; omega
             case rel => exact ⟨(wrap64 (x3_1 + 1)), nS, H', ⟨by have := HK1.out; have := HK2.out; omega⟩, ⟨nH HB.out⟩⟩
       · replace c6 := Bool.eq_false_iff.mpr c6
         subst c6
         rw [if_neg nN] at H; obtain rfl := Option.some.inj H
         have p315 : 0 ≤ (x3_1 : Int) := of_decide_eq_true nQ
         have q315 : x3_1 < (l0.length : Int) := of_decide_eq_true nQ
         obtain ⟨ad315, A315_1, c315_1, e315, hx315_0, hx315_1, hl315_1, hi315_1⟩ := at_T46 HR0.out x3_1 p315 q315
         cases e315
         replace hx315_0 := (HB.out.cell (World.block_lt_of_cell? w _ hx315_0)).trans hx315_0
         replace hx315_1 := (HB.out.cell (World.block_lt_of_cell? w _ hx315_1)).trans hx315_1
         have HR315_1 := aM hi315_1
         have HC315_1 := aM hl315_1
         clear hi315_1 hl315_1; replace p315 := eq_true p315; replace q315 := eq_true q315
         go_wp2_with (first | (go_at_call 61; (with_reducible refine (spec_TripOk.calls k1 ((rd_T46 l0 x3_1).f0) _ _ ((rd_T46 l0 x3_1).f1) false _ ?side1 ?side2 A5.out).mono ?_); (case side1 => repeat (first | exact (Kd.C_below HR315_1.out HB.out) | (with_reducible refine Kd.C_alloc ?_ _) | (with_reducible refine Kd.C_drewN ?_ _) | (with_reducible refine Kd.C_drew ?_))); (case side2 => exact HC315_1.out); rintro e w14 ⟨rfl, hb⟩; have n_ := aM (below_step (nH HB.out) hb); clear HB; have HB := n_; clear n_; (try clear hb); (try clear hb2); (try clear hk); (try clear hi)))
         repeat (go_quiet (first | (go_at_call 61; (with_reducible refine (spec_TripOk.calls k1 ((rd_T46 l0 x3_1).f0) _ _ ((rd_T46 l0 x3_1).f1) false _ ?side1 ?side2 A5.out).mono ?_); (case side1 => repeat (first | exact (Kd.C_below HR315_1.out HB.out) | (with_reducible refine Kd.C_alloc ?_ _) | (with_reducible refine Kd.C_drewN ?_ _) | (with_reducible refine Kd.C_drew ?_))); (case side2 => exact HC315_1.out); rintro e w14 ⟨rfl, hb⟩; have n_ := aM (below_step (nH HB.out) hb); clear HB; have HB := n_; clear n_; (try clear hb); (try clear hb2); (try clear hk); (try clear hi))); try go_wp2_with (first | (go_at_call 61; (with_reducible refine (spec_TripOk.calls k1 ((rd_T46 l0 x3_1).f0) _ _ ((rd_T46 l0 x3_1).f1) false _ ?side1 ?side2 A5.out).mono ?_); (case side1 => repeat (first | exact (Kd.C_below HR315_1.out HB.out) | (with_reducible refine Kd.C_alloc ?_ _) | (with_reducible refine Kd.C_drewN ?_ _) | (with_reducible refine Kd.C_drew ?_))); (case side2 => exact HC315_1.out); rintro e w14 ⟨rfl, hb⟩; have n_ := aM (below_step (nH HB.out) hb); clear HB; have HB := n_; clear n_; (try clear hb); (try clear hb2); (try clear hk); (try clear hi))))
         go_ret
         exact ⟨by first | rfl | (simp [errW_none, errW_some] <;> rfl) | (simp [*, errW_none, errW_some] <;> first | rfl | (simp [wrap64]; done)), nH HB.out⟩
     · rw [if_neg c3] at H
       have c3b0 : decide (x3_1 < (l0.length : Int)) = false := decide_eq_false c3
       clear c3; obtain rfl := Option.some.inj H; go_wp2
       repeat (go_quiet (fail); try go_wp2)
       go_ret
       exact ⟨by first | rfl | (simp [errW_none, errW_some] <;> rfl) | (simp [*, errW_none, errW_some] <;> first | rfl | (simp [wrap64]; done)), nH HB.out⟩
end Go.Proofs.YtdpjoblnjjkbfaaDoor.P
