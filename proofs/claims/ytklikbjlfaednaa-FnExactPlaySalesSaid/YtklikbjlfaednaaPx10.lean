/- Contracts of the functions of the program, each one with its plain Lean function; written by a program of the session out of the translation. -/
import Derived.Test.YtklikbjlfaednaaNe
import Derived.Test.YtklikbjlfaednaaNb
import Derived.Test.YtklikbjlfaednaaPx0
namespace Go.Proofs.Ytklikbjlfaednaa.P
open Go.RowKit Go.Proofs.YtklikbjlfaednaaW.PrintWords Go.Proofs.YtklikbjlfaednaaW.PrintLast Go.Proofs.YtklikbjlfaednaaW.PrintMore
attribute [local go_sem] max2_int min2_int max_two min_two max_three min_three max_four min_four   -- for this text's walks alone
set_option linter.unusedVariables false
set_option linter.unusedSimpArgs false
/-! ### laws_heldBookingS: function 62 -/
theorem laws_heldBookingS.mono_l : ∀ k, (∀ y0 y1 y2, LeO (laws_heldBookingS.l0 k y0 y1 y2) (laws_heldBookingS.l0 (k + 1) y0 y1 y2))
 | 0 => fun _ _ _ r h => by simp [laws_heldBookingS.l0] at h
 | k + 1 => by
  have ih0 := laws_heldBookingS.mono_l k
  · intro y0 y1 y2
    unfold laws_heldBookingS.l0
    repeat' first
    | (with_reducible exact ih0 _ _ _)
    | (with_reducible exact LeO.refl _)
    | (with_reducible exact LeO.none _)
    | (with_reducible refine LeO.ite ?_ ?_)
    | (with_reducible refine LeO.bind ?_ (fun _ => ?_))
    | exact ih0 _ _ _
    | exact LeO.none _
    | refine LeO.ite ?_ ?_
    | refine LeO.bind ?_ (fun _ => ?_)
theorem laws_heldBookingS.mono : ∀ a0 a1 k, LeO (laws_heldBookingS.f k a0 a1) (laws_heldBookingS.f (k + 1) a0 a1) := by
 intro a0 a1 k
 have ih0 := laws_heldBookingS.mono_l k
 unfold laws_heldBookingS.f
 repeat' first
  | (with_reducible exact ih0 _ _ _)
  | (with_reducible exact LeO.refl _)
  | (with_reducible exact LeO.none _)
  | (with_reducible refine LeO.ite ?_ ?_)
  | (with_reducible refine LeO.bind ?_ (fun _ => ?_))
  | exact ih0 _ _ _
  | exact LeO.none _
  | refine LeO.ite ?_ ?_
  | refine LeO.bind ?_ (fun _ => ?_)
set_option maxHeartbeats 8000000 in
set_option maxRecDepth 100000 in
theorem laws_heldBookingS.calls (k : Nat) (A0 : Option Addr) (c0 : Nat) (l0 : List (S66)) (a1 : Int) (r : Int) (w : World) (hr0 : Kd.C k66 w A0 l0.length l0) (hc0 : l0.length ≤ c0) (h : laws_heldBookingS.f k l0 a1 = some r) :
 Calls Try.prog 62 #[.slice A0 l0.length c0, .int .i64 a1] w fun e w' => e = .returned (.int .i64 r) ∧ Drawn0 w w' := by
 have HR0 := aM hr0
 have HC0 := aM hc0
 clear hr0 hc0
 have H : (laws_heldBookingS.l0 k l0 a1 0) = some r := h
 clear h
 have H' := aM H
 clear H
 go_enter Try.func62, Try.ntmps62
 go_wp2
 go_loopg [1, 5] k (fun kq v1 v5 w' => ∃ (x1_1 : Int) (x5_1 : Int), v1 = .int .i64 x1_1 ∧ v5 = .int .i64 x5_1 ∧ Aside0 (laws_heldBookingS.l0 kq l0 x1_1 x5_1 = some r) ∧ Aside0 (kq ≤ k) ∧ Drawn0 w w')
 case atStart => exact ⟨(a1), (0), nS, nS, H', ⟨Nat.le_refl _⟩, by repeat (first | exact Drawn0.refl _ | apply Drawn0.step)⟩
 case round =>
  clear H'
  try clear p2
  obtain ⟨x1_1, x5_1, rfl, rfl, HA, HK1, ⟨m1, rfl⟩⟩ := hrel
  cases gk with
  | zero => exact absurd HA.out (by simp [laws_heldBookingS.l0])
  | succ k1 =>
   have H := HA.out; clear HA
   simp only [laws_heldBookingS.l0] at H
   by_cases c3 : x5_1 < (l0.length : Int)
   · rw [if_pos c3] at H
     have c3b0 : decide (x5_1 < (l0.length : Int)) = true := decide_eq_true c3
     clear c3
     by_cases c4 : 0 ≤ x5_1
     rotate_left
     · (rw [if_neg c4] at H; exact absurd H (by simp))
     rw [if_pos c4] at H
     have c4b0 : decide (0 ≤ x5_1) = true := decide_eq_true c4
     clear c4
     by_cases c5 : ((rd_T66 l0 x5_1).f0) = x1_1
     · rw [if_pos c5] at H
       have c5b0 : (((rd_T66 l0 x5_1).f0) == x1_1) = true := beq_iff_eq.mpr c5
       have c5b1 : (((rd_T66 l0 x5_1).f0) != x1_1) = false := bne_eq_false_iff_eq.mpr c5
       clear c5
       by_cases c6 : ((rd_T66 l0 x5_1).f1) = (wrap64 (x1_1 + 1))
       · rw [if_pos c6] at H
         have c6b0 : (((rd_T66 l0 x5_1).f1) == (wrap64 (x1_1 + 1))) = true := beq_iff_eq.mpr c6
         have c6b1 : (((rd_T66 l0 x5_1).f1) != (wrap64 (x1_1 + 1))) = false := bne_eq_false_iff_eq.mpr c6
         clear c6
         by_cases c7 : ((rd_T66 l0 x5_1).f2) = (wrap64 ((wrap64 (x1_1 + 1)) + 1))
         · rw [if_pos c7] at H
           have c7b0 : (((rd_T66 l0 x5_1).f2) == (wrap64 ((wrap64 (x1_1 + 1)) + 1))) = true := beq_iff_eq.mpr c7
           have c7b1 : (((rd_T66 l0 x5_1).f2) != (wrap64 ((wrap64 (x1_1 + 1)) + 1))) = false := bne_eq_false_iff_eq.mpr c7
           clear c7
           by_cases c8 : ((rd_T66 l0 x5_1).f3) = (wrap64 ((wrap64 ((wrap64 (x1_1 + 1)) + 1)) + 1))
           · rw [if_pos c8] at H
             have c8b0 : (((rd_T66 l0 x5_1).f3) == (wrap64 ((wrap64 ((wrap64 (x1_1 + 1)) + 1)) + 1))) = true := beq_iff_eq.mpr c8
             have c8b1 : (((rd_T66 l0 x5_1).f3) != (wrap64 ((wrap64 ((wrap64 (x1_1 + 1)) + 1)) + 1))) = false := bne_eq_false_iff_eq.mpr c8
             clear c8
             have H' := aM H
             clear H
             have p140 : 0 ≤ (x5_1 : Int) := of_decide_eq_true nQ
             have q140 : x5_1 < (l0.length : Int) := of_decide_eq_true nQ
             obtain ⟨ad140, e140, hx140_0, hx140_1, hx140_2, hx140_3⟩ := at_T66 HR0.out x5_1 p140 q140
             cases e140; replace p140 := eq_true p140; replace q140 := eq_true q140
             have p141 : 0 ≤ (x5_1 : Int) := of_decide_eq_true nQ
             have q141 : x5_1 < (l0.length : Int) := of_decide_eq_true nQ
             obtain ⟨ad141, e141, hx141_0, hx141_1, hx141_2, hx141_3⟩ := at_T66 HR0.out x5_1 p141 q141
             obtain rfl : ad140 = ad141 := (by injection e141)
             replace p141 := eq_true p141; replace q141 := eq_true q141
             have p142 : 0 ≤ (x5_1 : Int) := of_decide_eq_true nQ
             have q142 : x5_1 < (l0.length : Int) := of_decide_eq_true nQ
             obtain ⟨ad142, e142, hx142_0, hx142_1, hx142_2, hx142_3⟩ := at_T66 HR0.out x5_1 p142 q142
             obtain rfl : ad140 = ad142 := (by injection e142)
             replace p142 := eq_true p142; replace q142 := eq_true q142
             have p143 : 0 ≤ (x5_1 : Int) := of_decide_eq_true nQ
             have q143 : x5_1 < (l0.length : Int) := of_decide_eq_true nQ
             obtain ⟨ad143, e143, hx143_0, hx143_1, hx143_2, hx143_3⟩ := at_T66 HR0.out x5_1 p143 q143
             obtain rfl : ad140 = ad143 := (by injection e143)
             replace p143 := eq_true p143; replace q143 := eq_true q143; go_wp2
             go_roundg k1
             case measure => have := HK1.out; omega
             case rel => exact ⟨(wrap64 ((wrap64 ((wrap64 ((wrap64 (x1_1 + 1)) + 1)) + 1)) + 1)), (wrap64 (x5_1 + 1)), nS, nS, H', ⟨by have := HK1.out; omega⟩, by repeat (first | exact Drawn0.refl _ | apply Drawn0.step)⟩
           · rw [if_neg c8] at H
             have c8b0 : (((rd_T66 l0 x5_1).f3) == (wrap64 ((wrap64 ((wrap64 (x1_1 + 1)) + 1)) + 1))) = false := beq_eq_false_iff_ne.mpr c8
             have c8b1 : (((rd_T66 l0 x5_1).f3) != (wrap64 ((wrap64 ((wrap64 (x1_1 + 1)) + 1)) + 1))) = true := bne_iff_ne.mpr c8
             obtain rfl := Option.some.inj H
             have p140 : 0 ≤ (x5_1 : Int) := of_decide_eq_true nQ
             have q140 : x5_1 < (l0.length : Int) := of_decide_eq_true nQ
             obtain ⟨ad140, e140, hx140_0, hx140_1, hx140_2, hx140_3⟩ := at_T66 HR0.out x5_1 p140 q140
             cases e140; replace p140 := eq_true p140; replace q140 := eq_true q140
             have p141 : 0 ≤ (x5_1 : Int) := of_decide_eq_true nQ
             have q141 : x5_1 < (l0.length : Int) := of_decide_eq_true nQ
             obtain ⟨ad141, e141, hx141_0, hx141_1, hx141_2, hx141_3⟩ := at_T66 HR0.out x5_1 p141 q141
             obtain rfl : ad140 = ad141 := (by injection e141)
             replace p141 := eq_true p141; replace q141 := eq_true q141
             have p142 : 0 ≤ (x5_1 : Int) := of_decide_eq_true nQ
             have q142 : x5_1 < (l0.length : Int) := of_decide_eq_true nQ
             obtain ⟨ad142, e142, hx142_0, hx142_1, hx142_2, hx142_3⟩ := at_T66 HR0.out x5_1 p142 q142
             obtain rfl : ad140 = ad142 := (by injection e142)
             replace p142 := eq_true p142; replace q142 := eq_true q142
             have p143 : 0 ≤ (x5_1 : Int) := of_decide_eq_true nQ
             have q143 : x5_1 < (l0.length : Int) := of_decide_eq_true nQ
             obtain ⟨ad143, e143, hx143_0, hx143_1, hx143_2, hx143_3⟩ := at_T66 HR0.out x5_1 p143 q143
             obtain rfl : ad140 = ad143 := (by injection e143)
             replace p143 := eq_true p143; replace q143 := eq_true q143; go_wp2; go_ret
             exact ⟨by first | rfl | (simp; done) | (simp [*]; done), by repeat (first | exact Drawn0.refl _ | apply Drawn0.step)⟩
         · rw [if_neg c7] at H
           have c7b0 : (((rd_T66 l0 x5_1).f2) == (wrap64 ((wrap64 (x1_1 + 1)) + 1))) = false := beq_eq_false_iff_ne.mpr c7
           have c7b1 : (((rd_T66 l0 x5_1).f2) != (wrap64 ((wrap64 (x1_1 + 1)) + 1))) = true := bne_iff_ne.mpr c7
           obtain rfl := Option.some.inj H
           have p140 : 0 ≤ (x5_1 : Int) := of_decide_eq_true nQ
           have q140 : x5_1 < (l0.length : Int) := of_decide_eq_true nQ
           obtain ⟨ad140, e140, hx140_0, hx140_1, hx140_2, hx140_3⟩ := at_T66 HR0.out x5_1 p140 q140
           cases e140; replace p140 := eq_true p140; replace q140 := eq_true q140
           have p141 : 0 ≤ (x5_1 : Int) := of_decide_eq_true nQ
           have q141 : x5_1 < (l0.length : Int) := of_decide_eq_true nQ
           obtain ⟨ad141, e141, hx141_0, hx141_1, hx141_2, hx141_3⟩ := at_T66 HR0.out x5_1 p141 q141
           obtain rfl : ad140 = ad141 := (by injection e141)
           replace p141 := eq_true p141; replace q141 := eq_true q141
           have p142 : 0 ≤ (x5_1 : Int) := of_decide_eq_true nQ
           have q142 : x5_1 < (l0.length : Int) := of_decide_eq_true nQ
           obtain ⟨ad142, e142, hx142_0, hx142_1, hx142_2, hx142_3⟩ := at_T66 HR0.out x5_1 p142 q142
           obtain rfl : ad140 = ad142 := (by injection e142)
           replace p142 := eq_true p142; replace q142 := eq_true q142; go_wp2; go_ret
           exact ⟨by first | rfl | (simp; done) | (simp [*]; done), by repeat (first | exact Drawn0.refl _ | apply Drawn0.step)⟩
       · rw [if_neg c6] at H
         have c6b0 : (((rd_T66 l0 x5_1).f1) == (wrap64 (x1_1 + 1))) = false := beq_eq_false_iff_ne.mpr c6
         have c6b1 : (((rd_T66 l0 x5_1).f1) != (wrap64 (x1_1 + 1))) = true := bne_iff_ne.mpr c6
         obtain rfl := Option.some.inj H
         have p140 : 0 ≤ (x5_1 : Int) := of_decide_eq_true nQ
         have q140 : x5_1 < (l0.length : Int) := of_decide_eq_true nQ
         obtain ⟨ad140, e140, hx140_0, hx140_1, hx140_2, hx140_3⟩ := at_T66 HR0.out x5_1 p140 q140
         cases e140; replace p140 := eq_true p140; replace q140 := eq_true q140
         have p141 : 0 ≤ (x5_1 : Int) := of_decide_eq_true nQ
         have q141 : x5_1 < (l0.length : Int) := of_decide_eq_true nQ
         obtain ⟨ad141, e141, hx141_0, hx141_1, hx141_2, hx141_3⟩ := at_T66 HR0.out x5_1 p141 q141
         obtain rfl : ad140 = ad141 := (by injection e141)
         replace p141 := eq_true p141; replace q141 := eq_true q141; go_wp2; go_ret
         exact ⟨by first | rfl | (simp; done) | (simp [*]; done), by repeat (first | exact Drawn0.refl _ | apply Drawn0.step)⟩
     · rw [if_neg c5] at H
       have c5b0 : (((rd_T66 l0 x5_1).f0) == x1_1) = false := beq_eq_false_iff_ne.mpr c5
       have c5b1 : (((rd_T66 l0 x5_1).f0) != x1_1) = true := bne_iff_ne.mpr c5
       obtain rfl := Option.some.inj H
       have p140 : 0 ≤ (x5_1 : Int) := of_decide_eq_true nQ
       have q140 : x5_1 < (l0.length : Int) := of_decide_eq_true nQ
       obtain ⟨ad140, e140, hx140_0, hx140_1, hx140_2, hx140_3⟩ := at_T66 HR0.out x5_1 p140 q140
       cases e140; replace p140 := eq_true p140; replace q140 := eq_true q140; go_wp2; go_ret
       exact ⟨by first | rfl | (simp; done) | (simp [*]; done), by repeat (first | exact Drawn0.refl _ | apply Drawn0.step)⟩
   · rw [if_neg c3] at H
     have c3b0 : decide (x5_1 < (l0.length : Int)) = false := decide_eq_false c3
     clear c3; obtain rfl := Option.some.inj H; go_wp2; go_ret
     exact ⟨by first | rfl | (simp; done) | (simp [*]; done), by repeat (first | exact Drawn0.refl _ | apply Drawn0.step)⟩
end Go.Proofs.Ytklikbjlfaednaa.P
