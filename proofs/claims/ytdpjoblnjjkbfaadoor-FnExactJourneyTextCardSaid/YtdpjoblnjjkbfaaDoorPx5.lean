/- Contracts of the functions of the program, each one with its plain Lean function; written by a program of the session out of the translation. -/
import Derived.Test.YtdpjoblnjjkbfaaDoorNb
import Derived.Test.YtdpjoblnjjkbfaaDoorPx0
import Derived.Test.YtdpjoblnjjkbfaaDoorPx4
namespace Go.Proofs.YtdpjoblnjjkbfaaDoor.P
open Go.RowKit Go.Proofs.YtdpjoblnjjkbfaaDoorW.PrintWords Go.Proofs.YtdpjoblnjjkbfaaDoorW.PrintLast Go.Proofs.YtdpjoblnjjkbfaaDoorW.PrintMore
attribute [local go_sem] max2_int min2_int max_two min_two max_three min_three max_four min_four   -- for this text's walks alone
set_option linter.unusedVariables false
set_option linter.unusedSimpArgs false
/-! ### spec_TableOk: function 45 -/
theorem spec_TableOk.mono_l : ∀ k, (∀ y0 y1, LeO (spec_TableOk.l0 k y0 y1) (spec_TableOk.l0 (k + 1) y0 y1)) ∧ (∀ y0 y1 y2, LeO (spec_TableOk.l1 k y0 y1 y2) (spec_TableOk.l1 (k + 1) y0 y1 y2))
 | 0 => ⟨fun _ _ r h => by simp [spec_TableOk.l0] at h, fun _ _ _ r h => by simp [spec_TableOk.l1] at h⟩
 | k + 1 => by
  obtain ⟨ih0, ih1⟩ := spec_TableOk.mono_l k
  refine ⟨?_, ?_⟩
  · intro y0 y1
    unfold spec_TableOk.l0
    repeat' first
    | (with_reducible exact ih0 _ _)
    | (with_reducible exact ih1 _ _ _)
    | (with_reducible exact spec_TripOk.mono _ _ _)
    | (with_reducible exact LeO.refl _)
    | (with_reducible exact LeO.none _)
    | (with_reducible refine LeO.ite ?_ ?_)
    | (with_reducible refine LeO.bind ?_ (fun _ => ?_))
    | exact ih0 _ _
    | exact ih1 _ _ _
    | exact spec_TripOk.mono _ _ _
    | exact LeO.none _
    | refine LeO.ite ?_ ?_
    | refine LeO.bind ?_ (fun _ => ?_)
  · intro y0 y1 y2
    unfold spec_TableOk.l1
    repeat' first
    | (with_reducible exact ih0 _ _)
    | (with_reducible exact ih1 _ _ _)
    | (with_reducible exact spec_TripOk.mono _ _ _)
    | (with_reducible exact LeO.refl _)
    | (with_reducible exact LeO.none _)
    | (with_reducible refine LeO.ite ?_ ?_)
    | (with_reducible refine LeO.bind ?_ (fun _ => ?_))
    | exact ih0 _ _
    | exact ih1 _ _ _
    | exact spec_TripOk.mono _ _ _
    | exact LeO.none _
    | refine LeO.ite ?_ ?_
    | refine LeO.bind ?_ (fun _ => ?_)
theorem spec_TableOk.mono : ∀ a0 k, LeO (spec_TableOk.f k a0) (spec_TableOk.f (k + 1) a0) := by
 intro a0 k
 obtain ⟨ih0, ih1⟩ := spec_TableOk.mono_l k
 unfold spec_TableOk.f
 repeat' first
  | (with_reducible exact ih0 _ _)
  | (with_reducible exact ih1 _ _ _)
  | (with_reducible exact spec_TripOk.mono _ _ _)
  | (with_reducible exact LeO.refl _)
  | (with_reducible exact LeO.none _)
  | (with_reducible refine LeO.ite ?_ ?_)
  | (with_reducible refine LeO.bind ?_ (fun _ => ?_))
  | exact ih0 _ _
  | exact ih1 _ _ _
  | exact spec_TripOk.mono _ _ _
  | exact LeO.none _
  | refine LeO.ite ?_ ?_
  | refine LeO.bind ?_ (fun _ => ?_)
set_option maxHeartbeats 8000000 in
set_option maxRecDepth 100000 in
theorem spec_TableOk.calls (k : Nat) (A0 : Option Addr) (c0 : Nat) (l0 : List (S46)) (r : Bool) (w : World) (hr0 : Kd.C k46 w A0 l0.length l0) (hc0 : l0.length ≤ c0) (h : spec_TableOk.f k l0 = some r) :
 Calls Tryd.prog 45 #[.slice A0 l0.length c0] w fun e w' => e = .returned (.bool r) ∧ Below w.heap.size w w' := by
 have hu46 := Tryd.underlying46
 have HR0 := Aside0.mk hr0
 have HC0 := Aside0.mk hc0
 clear hr0 hc0
 have HB := Aside0.mk (Below.refl w.heap.size w)
 have H : (if (l0.length : Int) > 24 then (some false) else (spec_TableOk.l0 k l0 0)) = some r := h
 clear h
 by_cases c2 : (l0.length : Int) > 24
 · rw [if_pos c2] at H
   have c2b0 : decide (24 < (l0.length : Int)) = true := decide_eq_true c2
   have c2b1 : decide (24 < l0.length) = true := decide_eq_true (by omega)
   clear c2; obtain rfl := Option.some.inj H
   go_enter Tryd.func45, Tryd.ntmps45
   go_wp2
   repeat (go_quiet (fail); try go_wp2)
   go_ret
   exact ⟨by first | rfl | (simp [errW_none, errW_some] <;> rfl) | (simp [*, errW_none, errW_some] <;> first | rfl | (simp [wrap64]; done)), nH HB.out⟩
 · rw [if_neg c2] at H
   have c2b0 : decide (24 < (l0.length : Int)) = false := decide_eq_false c2
   have c2b1 : decide (24 < l0.length) = false := decide_eq_false (by omega)
   clear c2
   have H' := Aside0.mk H
   clear H
   go_enter Tryd.func45, Tryd.ntmps45
   go_wp2
   repeat (go_quiet (fail); try go_wp2)
   go_loopg [3] k (fun kq v3 w' => ∃ (x3_1 : Int), v3 = .int .i64 x3_1 ∧ Aside0 (spec_TableOk.l0 kq l0 x3_1 = some r) ∧ Aside0 (kq ≤ k) ∧ Aside0 (Below w.heap.size w w'))
   case atStart => exact ⟨(0), nS, H', ⟨Nat.le_refl _⟩, ⟨nH HB.out⟩⟩
   case round =>
    clear H'
    try clear c2; try clear c2b0; try clear c2b1; try clear p2
    obtain ⟨x3_1, rfl, HA, HK1, HB⟩ := hrel
    cases gk with
    | zero => exact absurd HA.out (by simp [spec_TableOk.l0])
    | succ k1 =>
     have H := HA.out; clear HA
     simp only [spec_TableOk.l0] at H
     by_cases c3 : x3_1 < (l0.length : Int)
     · rw [if_pos c3] at H
       have c3b0 : decide (x3_1 < (l0.length : Int)) = true := decide_eq_true c3
       clear c3
       by_cases c4 : 0 ≤ x3_1
       rotate_left
       · (rw [if_neg c4] at H; exact absurd H (by simp))
       rw [if_pos c4] at H
       have c4b0 : decide (0 ≤ x3_1) = true := decide_eq_true c4
       clear c4
       replace H := Option.bind_eq_some_iff.mp H
       obtain ⟨t117, A50, H⟩ := H
       replace H : (if t117 = true then (spec_TableOk.l1 k1 l0 x3_1 0) else (some false)) = some r := H
       have A5 := Aside0.mk A50
       clear A50
       by_cases c6 : t117 = true
       · subst c6
         have H1 : (spec_TableOk.l1 k1 l0 x3_1 0) = some r := by rw [if_pos rfl] at H; exact H
         clear H; have H := H1; clear H1
         have H' := Aside0.mk H
         clear H
         have p116 : 0 ≤ (x3_1 : Int) := of_decide_eq_true nQ
         have q116 : x3_1 < (l0.length : Int) := of_decide_eq_true nQ
         obtain ⟨ad116, A116_1, c116_1, e116, hx116_0, hx116_1, hl116_1, hi116_1⟩ := at_T46 HR0.out x3_1 p116 q116
         cases e116
         replace hx116_0 := (HB.out.cell (World.block_lt_of_cell? w _ hx116_0)).trans hx116_0
         replace hx116_1 := (HB.out.cell (World.block_lt_of_cell? w _ hx116_1)).trans hx116_1
         have HR116_1 := Aside0.mk hi116_1
         have HC116_1 := Aside0.mk hl116_1
         clear hi116_1 hl116_1; replace p116 := eq_true p116; replace q116 := eq_true q116
         go_wp2_with (first | (go_at_call 61; (with_reducible refine (spec_TripOk.calls k1 ((rd_T46 l0 x3_1).f0) _ _ ((rd_T46 l0 x3_1).f1) true _ ?side1 ?side2 A5.out).mono ?_); (case side1 => repeat (first | exact (Kd.C_below HR116_1.out HB.out) | (with_reducible refine Kd.C_alloc ?_ _) | (with_reducible refine Kd.C_drewN ?_ _) | (with_reducible refine Kd.C_drew ?_))); (case side2 => exact HC116_1.out); rintro e w7 ⟨rfl, hb⟩; have n0_ := Aside0.mk (below_step (nH HB.out) hb); clear HB; have HB := n0_; clear n0_; (try clear hb); (try clear hb2); (try clear hk); (try clear hi)))
         repeat (go_quiet (first | (go_at_call 61; (with_reducible refine (spec_TripOk.calls k1 ((rd_T46 l0 x3_1).f0) _ _ ((rd_T46 l0 x3_1).f1) true _ ?side1 ?side2 A5.out).mono ?_); (case side1 => repeat (first | exact (Kd.C_below HR116_1.out HB.out) | (with_reducible refine Kd.C_alloc ?_ _) | (with_reducible refine Kd.C_drewN ?_ _) | (with_reducible refine Kd.C_drew ?_))); (case side2 => exact HC116_1.out); rintro e w7 ⟨rfl, hb⟩; have n0_ := Aside0.mk (below_step (nH HB.out) hb); clear HB; have HB := n0_; clear n0_; (try clear hb); (try clear hb2); (try clear hk); (try clear hi))); try go_wp2_with (first | (go_at_call 61; (with_reducible refine (spec_TripOk.calls k1 ((rd_T46 l0 x3_1).f0) _ _ ((rd_T46 l0 x3_1).f1) true _ ?side1 ?side2 A5.out).mono ?_); (case side1 => repeat (first | exact (Kd.C_below HR116_1.out HB.out) | (with_reducible refine Kd.C_alloc ?_ _) | (with_reducible refine Kd.C_drewN ?_ _) | (with_reducible refine Kd.C_drew ?_))); (case side2 => exact HC116_1.out); rintro e w7 ⟨rfl, hb⟩; have n0_ := Aside0.mk (below_step (nH HB.out) hb); clear HB; have HB := n0_; clear n0_; (try clear hb); (try clear hb2); (try clear hk); (try clear hi))))
         go_loopg [4] k1 (fun kq v4 w' => ∃ (x4_2 : Int), v4 = .int .i64 x4_2 ∧ Aside0 (spec_TableOk.l1 kq l0 x3_1 x4_2 = some r) ∧ Aside0 (kq ≤ k1) ∧ Aside0 (Below w.heap.size w w'))
         case atStart => exact ⟨(0), nS, H', ⟨Nat.le_refl _⟩, ⟨nH HB.out⟩⟩
         case round =>
          clear H'
          try clear c1; try clear p1; try clear q1; try clear hx1; try clear c2; try clear c2b0; try clear c2b1; try clear p2; try clear c3; try clear c3b0; try clear c4; try clear c4b0; try clear c6; try clear p6; try clear hx116_0; try clear hx116_1; try clear p116; try clear p2; try clear q116
          obtain ⟨x4_2, rfl, HA, HK2, HB⟩ := hrel
          cases gk with
          | zero => exact absurd HA.out (by simp [spec_TableOk.l1])
          | succ k2 =>
           have H := HA.out; clear HA
           simp only [spec_TableOk.l1] at H
           by_cases c8 : x4_2 < x3_1
           · rw [if_pos c8] at H
             have c8b0 : decide (x4_2 < x3_1) = true := decide_eq_true c8
             clear c8
             by_cases c9 : 0 ≤ x4_2
             rotate_left
             · (rw [if_neg c9] at H; exact absurd H (by simp))
             rw [if_pos c9] at H
             have c9b0 : decide (0 ≤ x4_2) = true := decide_eq_true c9
             clear c9
             by_cases c10 : x4_2 < (l0.length : Int)
             rotate_left
             · (rw [if_neg c10] at H; exact absurd H (by simp))
             rw [if_pos c10] at H
             have c10b0 : decide (x4_2 < (l0.length : Int)) = true := decide_eq_true c10
             clear c10
             by_cases c11 : 0 ≤ x3_1
             rotate_left
             · (rw [if_neg c11] at H; exact absurd H (by simp))
             rw [if_pos c11] at H
             have c11b0 : decide (0 ≤ x3_1) = true := decide_eq_true c11
             clear c11
             by_cases c12 : x3_1 < (l0.length : Int)
             rotate_left
             · (rw [if_neg c12] at H; exact absurd H (by simp))
             rw [if_pos c12] at H
             have c12b0 : decide (x3_1 < (l0.length : Int)) = true := decide_eq_true c12
             clear c12
             by_cases c13 : ((rd_T46 l0 x4_2).f0).toList = ((rd_T46 l0 x3_1).f0).toList
             · rw [if_pos c13] at H
               have c13b0 : (((rd_T46 l0 x4_2).f0).toList == ((rd_T46 l0 x3_1).f0).toList) = true := beq_iff_eq.mpr c13
               have c13b1 : (((rd_T46 l0 x4_2).f0).toList != ((rd_T46 l0 x3_1).f0).toList) = false := bne_eq_false_iff_eq.mpr c13
               clear c13; obtain rfl := Option.some.inj H
               have p118 : 0 ≤ (x4_2 : Int) := of_decide_eq_true nQ
               have q118 : x4_2 < (l0.length : Int) := of_decide_eq_true nQ
               obtain ⟨ad118, A118_1, c118_1, e118, hx118_0, hx118_1, hl118_1, hi118_1⟩ := at_T46 HR0.out x4_2 p118 q118
               obtain rfl : ad116 = ad118 := (by injection e118)
               replace hx118_0 := (HB.out.cell (World.block_lt_of_cell? w _ hx118_0)).trans hx118_0
               replace hx118_1 := (HB.out.cell (World.block_lt_of_cell? w _ hx118_1)).trans hx118_1
               have HR118_1 := Aside0.mk hi118_1
               have HC118_1 := Aside0.mk hl118_1
               clear hi118_1 hl118_1; replace p118 := eq_true p118; replace q118 := eq_true q118
               have p119 : 0 ≤ (x3_1 : Int) := of_decide_eq_true nQ
               have q119 : x3_1 < (l0.length : Int) := of_decide_eq_true nQ
               obtain ⟨ad119, A119_1, c119_1, e119, hx119_0, hx119_1, hl119_1, hi119_1⟩ := at_T46 HR0.out x3_1 p119 q119
               obtain rfl : ad116 = ad119 := (by injection e119)
               replace hx119_0 := (HB.out.cell (World.block_lt_of_cell? w _ hx119_0)).trans hx119_0
               replace hx119_1 := (HB.out.cell (World.block_lt_of_cell? w _ hx119_1)).trans hx119_1
               have HR119_1 := Aside0.mk hi119_1
               have HC119_1 := Aside0.mk hl119_1
               clear hi119_1 hl119_1; replace p119 := eq_true p119; replace q119 := eq_true q119; go_wp2
               repeat (go_quiet (fail); try go_wp2)
               go_ret
               exact ⟨by first | rfl | (simp [errW_none, errW_some] <;> rfl) | (simp [*, errW_none, errW_some] <;> first | rfl | (simp [wrap64]; done)), nH HB.out⟩
             · rw [if_neg c13] at H
               have c13b0 : (((rd_T46 l0 x4_2).f0).toList == ((rd_T46 l0 x3_1).f0).toList) = false := beq_eq_false_iff_ne.mpr c13
               have c13b1 : (((rd_T46 l0 x4_2).f0).toList != ((rd_T46 l0 x3_1).f0).toList) = true := bne_iff_ne.mpr c13
               have H' := Aside0.mk H
               clear H
               have p118 : 0 ≤ (x4_2 : Int) := of_decide_eq_true nQ
               have q118 : x4_2 < (l0.length : Int) := of_decide_eq_true nQ
               obtain ⟨ad118, A118_1, c118_1, e118, hx118_0, hx118_1, hl118_1, hi118_1⟩ := at_T46 HR0.out x4_2 p118 q118
               obtain rfl : ad116 = ad118 := (by injection e118)
               replace hx118_0 := (HB.out.cell (World.block_lt_of_cell? w _ hx118_0)).trans hx118_0
               replace hx118_1 := (HB.out.cell (World.block_lt_of_cell? w _ hx118_1)).trans hx118_1
               have HR118_1 := Aside0.mk hi118_1
               have HC118_1 := Aside0.mk hl118_1
               clear hi118_1 hl118_1; replace p118 := eq_true p118; replace q118 := eq_true q118
               have p119 : 0 ≤ (x3_1 : Int) := of_decide_eq_true nQ
               have q119 : x3_1 < (l0.length : Int) := of_decide_eq_true nQ
               obtain ⟨ad119, A119_1, c119_1, e119, hx119_0, hx119_1, hl119_1, hi119_1⟩ := at_T46 HR0.out x3_1 p119 q119
               obtain rfl : ad116 = ad119 := (by injection e119)
               replace hx119_0 := (HB.out.cell (World.block_lt_of_cell? w _ hx119_0)).trans hx119_0
               replace hx119_1 := (HB.out.cell (World.block_lt_of_cell? w _ hx119_1)).trans hx119_1
               have HR119_1 := Aside0.mk hi119_1
               have HC119_1 := Aside0.mk hl119_1
               clear hi119_1 hl119_1; replace p119 := eq_true p119; replace q119 := eq_true q119; go_wp2
               repeat (go_quiet (fail); try go_wp2)
               go_roundg k2
               case measure => have := HK1.out; have := HK2.out; omega
               case rel => exact ⟨(wrap64 (x4_2 + 1)), nS, H', ⟨by have := HK1.out; have := HK2.out; omega⟩, ⟨nH HB.out⟩⟩
           · rw [if_neg c8] at H
             have c8b0 : decide (x4_2 < x3_1) = false := decide_eq_false c8
             clear c8
             have H' := Aside0.mk H
             clear H; go_wp2
             repeat (go_quiet (fail); try go_wp2)
             go_roundg k2
             case measure => have := HK1.out; have := HK2.out; omega
             case rel => exact ⟨(wrap64 (x3_1 + 1)), nS, H', ⟨by have := HK1.out; have := HK2.out; omega⟩, ⟨nH HB.out⟩⟩
       · replace c6 := Bool.eq_false_iff.mpr c6
         subst c6
         have H1 : (some false) = some r := by rw [if_neg (show ¬ (false = true) by decide)] at H; exact H
         clear H; have H := H1; clear H1; obtain rfl := Option.some.inj H
         have p116 : 0 ≤ (x3_1 : Int) := of_decide_eq_true nQ
         have q116 : x3_1 < (l0.length : Int) := of_decide_eq_true nQ
         obtain ⟨ad116, A116_1, c116_1, e116, hx116_0, hx116_1, hl116_1, hi116_1⟩ := at_T46 HR0.out x3_1 p116 q116
         cases e116
         replace hx116_0 := (HB.out.cell (World.block_lt_of_cell? w _ hx116_0)).trans hx116_0
         replace hx116_1 := (HB.out.cell (World.block_lt_of_cell? w _ hx116_1)).trans hx116_1
         have HR116_1 := Aside0.mk hi116_1
         have HC116_1 := Aside0.mk hl116_1
         clear hi116_1 hl116_1; replace p116 := eq_true p116; replace q116 := eq_true q116
         go_wp2_with (first | (go_at_call 61; (with_reducible refine (spec_TripOk.calls k1 ((rd_T46 l0 x3_1).f0) _ _ ((rd_T46 l0 x3_1).f1) false _ ?side1 ?side2 A5.out).mono ?_); (case side1 => repeat (first | exact (Kd.C_below HR116_1.out HB.out) | (with_reducible refine Kd.C_alloc ?_ _) | (with_reducible refine Kd.C_drewN ?_ _) | (with_reducible refine Kd.C_drew ?_))); (case side2 => exact HC116_1.out); rintro e w14 ⟨rfl, hb⟩; have n0_ := Aside0.mk (below_step (nH HB.out) hb); clear HB; have HB := n0_; clear n0_; (try clear hb); (try clear hb2); (try clear hk); (try clear hi)))
         repeat (go_quiet (first | (go_at_call 61; (with_reducible refine (spec_TripOk.calls k1 ((rd_T46 l0 x3_1).f0) _ _ ((rd_T46 l0 x3_1).f1) false _ ?side1 ?side2 A5.out).mono ?_); (case side1 => repeat (first | exact (Kd.C_below HR116_1.out HB.out) | (with_reducible refine Kd.C_alloc ?_ _) | (with_reducible refine Kd.C_drewN ?_ _) | (with_reducible refine Kd.C_drew ?_))); (case side2 => exact HC116_1.out); rintro e w14 ⟨rfl, hb⟩; have n0_ := Aside0.mk (below_step (nH HB.out) hb); clear HB; have HB := n0_; clear n0_; (try clear hb); (try clear hb2); (try clear hk); (try clear hi))); try go_wp2_with (first | (go_at_call 61; (with_reducible refine (spec_TripOk.calls k1 ((rd_T46 l0 x3_1).f0) _ _ ((rd_T46 l0 x3_1).f1) false _ ?side1 ?side2 A5.out).mono ?_); (case side1 => repeat (first | exact (Kd.C_below HR116_1.out HB.out) | (with_reducible refine Kd.C_alloc ?_ _) | (with_reducible refine Kd.C_drewN ?_ _) | (with_reducible refine Kd.C_drew ?_))); (case side2 => exact HC116_1.out); rintro e w14 ⟨rfl, hb⟩; have n0_ := Aside0.mk (below_step (nH HB.out) hb); clear HB; have HB := n0_; clear n0_; (try clear hb); (try clear hb2); (try clear hk); (try clear hi))))
         go_ret
         exact ⟨by first | rfl | (simp [errW_none, errW_some] <;> rfl) | (simp [*, errW_none, errW_some] <;> first | rfl | (simp [wrap64]; done)), nH HB.out⟩
     · rw [if_neg c3] at H
       have c3b0 : decide (x3_1 < (l0.length : Int)) = false := decide_eq_false c3
       clear c3; obtain rfl := Option.some.inj H; go_wp2
       repeat (go_quiet (fail); try go_wp2)
       go_ret
       exact ⟨by first | rfl | (simp [errW_none, errW_some] <;> rfl) | (simp [*, errW_none, errW_some] <;> first | rfl | (simp [wrap64]; done)), nH HB.out⟩
end Go.Proofs.YtdpjoblnjjkbfaaDoor.P
