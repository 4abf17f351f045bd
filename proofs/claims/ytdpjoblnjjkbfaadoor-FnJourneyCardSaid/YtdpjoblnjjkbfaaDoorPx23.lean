/- Contracts of functions, each with its plain Lean function. -/
import Derived.Test.YtdpjoblnjjkbfaaDoorNb
import Derived.Test.YtdpjoblnjjkbfaaDoorNe
import Derived.Test.YtdpjoblnjjkbfaaDoorPx0
import Derived.Test.YtdpjoblnjjkbfaaDoorPx22
namespace Go.Proofs.YtdpjoblnjjkbfaaDoor.P
open Go.RowKit Go.Proofs.YtdpjoblnjjkbfaaDoorW.PrintWords Go.Proofs.YtdpjoblnjjkbfaaDoorW.PrintLast Go.Proofs.YtdpjoblnjjkbfaaDoorW.PrintMore
attribute [local go_sem] max2_int min2_int max_two min_two max_three min_three max_four min_four   -- for this text's walks alone
set_option linter.unusedVariables false
set_option linter.unusedSimpArgs false
/-! ### spec_l01Name: function 71 -/
theorem spec_l01Name.mono_l : ∀ k, (∀ y0 y1, LeO (spec_l01Name.l0 k y0 y1) (spec_l01Name.l0 (k + 1) y0 y1))
 | 0 => fun _ _ r h => by simp [spec_l01Name.l0] at h
 | k + 1 => by
  have ih0 := spec_l01Name.mono_l k
  · intro y0 y1
    unfold spec_l01Name.l0
    repeat' first
    | (with_reducible exact ih0 _ _)
    | (with_reducible exact LeO.refl _)
    | (with_reducible exact LeO.none _)
    | (with_reducible refine LeO.ite ?_ ?_)
    | (with_reducible refine LeO.bind ?_ (fun _ => ?_))
    | exact ih0 _ _
    | exact LeO.none _
    | refine LeO.ite ?_ ?_
    | refine LeO.bind ?_ (fun _ => ?_)
theorem spec_l01Name.mono : ∀ a0 k, LeO (spec_l01Name.f k a0) (spec_l01Name.f (k + 1) a0) := by
 intro a0 k
 have ih0 := spec_l01Name.mono_l k
 unfold spec_l01Name.f
 repeat' first
  | (with_reducible exact ih0 _ _)
  | (with_reducible exact LeO.refl _)
  | (with_reducible exact LeO.none _)
  | (with_reducible refine LeO.ite ?_ ?_)
  | (with_reducible refine LeO.bind ?_ (fun _ => ?_))
  | exact ih0 _ _
  | exact LeO.none _
  | refine LeO.ite ?_ ?_
  | refine LeO.bind ?_ (fun _ => ?_)
set_option maxHeartbeats 8000000 in
set_option maxRecDepth 100000 in
theorem spec_l01Name.calls (k : Nat) (a0 : ByteArray) (r : Bool) (w : World) (h : spec_l01Name.f k a0 = some r) :
 Calls Tryd.prog 71 #[.string a0] w fun e w' => e = .returned (.bool r) ∧ Drawn0 w w' := by
 have H : (spec_l01Name.l0 k a0 0) = some r := h
 clear h
 have H' := aM H
 clear H
 go_enter Tryd.func71, Tryd.ntmps71
 go_wp2
 go_loopg [3] k (fun kq v3 w' => ∃ (x3_1 : Int), v3 = .int .i64 x3_1 ∧ Aside0 (spec_l01Name.l0 kq a0 x3_1 = some r) ∧ Aside0 (kq ≤ k) ∧ Drawn0 w w')
 case atStart => exact ⟨(0), nS, H', ⟨Nat.le_refl _⟩, by repeat (first | exact Drawn0.refl _ | apply Drawn0.step)⟩
 case round =>
  clear H'
  obtain ⟨x3_1, rfl, HA, HK1, ⟨m1, rfl⟩⟩ := hrel
  cases gk with
  | zero => exact absurd HA.out (by simp [spec_l01Name.l0])
  | succ k1 =>
   have H := HA.out; clear HA
   simp only [spec_l01Name.l0] at H
   by_cases c2 : x3_1 < (a0.size : Int)
   · rw [if_pos c2] at H
     have c2b0 : decide (x3_1 < (a0.size : Int)) = true := decide_eq_true c2
     clear c2
     by_cases c3 : 0 ≤ x3_1
     rotate_left
     · (rw [if_neg c3] at H; exact absurd H (by simp))
     rw [if_pos c3] at H
     have c3b0 : decide (0 ≤ x3_1) = true := decide_eq_true c3
     clear c3
     by_cases c5 : (bt a0 x3_1) ≥ 97
     · rw [if_pos c5] at H
       have c5b0 : decide (97 ≤ (bt a0 x3_1)) = true := decide_eq_true c5
       clear c5
       by_cases c6 : ((bt a0 x3_1) ≤ 122)
       · rw [if_pos c6] at H
         have c6b0 : decide ((bt a0 x3_1) ≤ 122) = true := decide_eq_true c6
         clear c6
         have H' := aM H
         clear H
         have p4 : 0 ≤ (x3_1 : Int) := of_decide_eq_true nQ
         have q4 : x3_1 < (a0.size : Int) := of_decide_eq_true nQ
         have hx4 := bt_at a0 x3_1
         replace p4 := eq_true p4; replace q4 := eq_true q4; go_wp2
         go_roundg k1
         case measure => have := HK1.out; omega
         case rel => exact ⟨(wrap64 (x3_1 + 1)), nS, H', ⟨by have := HK1.out; omega⟩, by repeat (first | exact Drawn0.refl _ | apply Drawn0.step)⟩
       · rw [if_neg c6] at H
         have c6b0 : decide ((bt a0 x3_1) ≤ 122) = false := decide_eq_false c6
         clear c6
         by_cases c7 : (bt a0 x3_1) ≥ 48
         · rw [if_pos c7] at H
           have c7b0 : decide (48 ≤ (bt a0 x3_1)) = true := decide_eq_true c7
           clear c7
           by_cases c8 : ((bt a0 x3_1) ≤ 57)
           · rw [if_pos c8] at H
             have c8b0 : decide ((bt a0 x3_1) ≤ 57) = true := decide_eq_true c8
             clear c8
             have H' := aM H
             clear H
             have p4 : 0 ≤ (x3_1 : Int) := of_decide_eq_true nQ
             have q4 : x3_1 < (a0.size : Int) := of_decide_eq_true nQ
             have hx4 := bt_at a0 x3_1
             replace p4 := eq_true p4; replace q4 := eq_true q4; go_wp2
             go_roundg k1
             case measure => have := HK1.out; omega
             case rel => exact ⟨(wrap64 (x3_1 + 1)), nS, H', ⟨by have := HK1.out; omega⟩, by repeat (first | exact Drawn0.refl _ | apply Drawn0.step)⟩
           · rw [if_neg c8] at H
             have c8b0 : decide ((bt a0 x3_1) ≤ 57) = false := decide_eq_false c8
             clear c8; obtain rfl := Option.some.inj H
             have p4 : 0 ≤ (x3_1 : Int) := of_decide_eq_true nQ
             have q4 : x3_1 < (a0.size : Int) := of_decide_eq_true nQ
             have hx4 := bt_at a0 x3_1
             replace p4 := eq_true p4; replace q4 := eq_true q4; go_wp2; go_ret
             exact ⟨by first | rfl | (simp; done) | (simp [*]; done), by repeat (first | exact Drawn0.refl _ | apply Drawn0.step)⟩
         · rw [if_neg c7] at H
           have c7b0 : decide (48 ≤ (bt a0 x3_1)) = false := decide_eq_false c7
           clear c7; obtain rfl := Option.some.inj H
           have p4 : 0 ≤ (x3_1 : Int) := of_decide_eq_true nQ
           have q4 : x3_1 < (a0.size : Int) := of_decide_eq_true nQ
           have hx4 := bt_at a0 x3_1
           replace p4 := eq_true p4; replace q4 := eq_true q4; go_wp2; go_ret
           exact ⟨by first | rfl | (simp; done) | (simp [*]; done), by repeat (first | exact Drawn0.refl _ | apply Drawn0.step)⟩
     · rw [if_neg c5] at H
       have c5b0 : decide (97 ≤ (bt a0 x3_1)) = false := decide_eq_false c5
       clear c5
       by_cases c9 : (bt a0 x3_1) ≥ 48
       · rw [if_pos c9] at H
         have c9b0 : decide (48 ≤ (bt a0 x3_1)) = true := decide_eq_true c9
         clear c9
         by_cases c10 : ((bt a0 x3_1) ≤ 57)
         · rw [if_pos c10] at H
           have c10b0 : decide ((bt a0 x3_1) ≤ 57) = true := decide_eq_true c10
           clear c10
           have H' := aM H
           clear H
           have p4 : 0 ≤ (x3_1 : Int) := of_decide_eq_true nQ
           have q4 : x3_1 < (a0.size : Int) := of_decide_eq_true nQ
           have hx4 := bt_at a0 x3_1
           replace p4 := eq_true p4; replace q4 := eq_true q4; go_wp2
           go_roundg k1
           case measure => have := HK1.out; omega
           case rel => exact ⟨(wrap64 (x3_1 + 1)), nS, H', ⟨by have := HK1.out; omega⟩, by repeat (first | exact Drawn0.refl _ | apply Drawn0.step)⟩
         · rw [if_neg c10] at H
           have c10b0 : decide ((bt a0 x3_1) ≤ 57) = false := decide_eq_false c10
           clear c10; obtain rfl := Option.some.inj H
           have p4 : 0 ≤ (x3_1 : Int) := of_decide_eq_true nQ
           have q4 : x3_1 < (a0.size : Int) := of_decide_eq_true nQ
           have hx4 := bt_at a0 x3_1
           replace p4 := eq_true p4; replace q4 := eq_true q4; go_wp2; go_ret
           exact ⟨by first | rfl | (simp; done) | (simp [*]; done), by repeat (first | exact Drawn0.refl _ | apply Drawn0.step)⟩
       · rw [if_neg c9] at H
         have c9b0 : decide (48 ≤ (bt a0 x3_1)) = false := decide_eq_false c9
         clear c9; obtain rfl := Option.some.inj H
         have p4 : 0 ≤ (x3_1 : Int) := of_decide_eq_true nQ
         have q4 : x3_1 < (a0.size : Int) := of_decide_eq_true nQ
         have hx4 := bt_at a0 x3_1
         replace p4 := eq_true p4; replace q4 := eq_true q4; go_wp2; go_ret
         exact ⟨by first | rfl | (simp; done) | (simp [*]; done), by repeat (first | exact Drawn0.refl _ | apply Drawn0.step)⟩
   · rw [if_neg c2] at H
     have c2b0 : decide (x3_1 < (a0.size : Int)) = false := decide_eq_false c2
     clear c2
     obtain ⟨t304, A110, H⟩ := Option.bind_eq_some_iff.mp H
     have A11 := aM A110
     clear A110; obtain rfl := Option.some.inj H
     go_wp2_with (first | ((with_reducible refine gate_callee (f := 47) rfl ?_); refine goesL_ (some 32) rfl rfl Tryd.func47 (by kernel_rfl) rfl #[.int .i64 (a0.size : Int), .int .i64 1, .int .i64 12] rfl (by (try simp only [List.map_toArray, List.map_cons, List.map_nil]); first | done | rfl | (simp only [List.length_drop, List.length_take]; rfl)) ?_; (with_reducible refine (spec_l01In.calls (a0.size : Int) 1 12 t304 _ A11.out).mono ?_); rintro e w' ⟨rfl, ⟨nd, rfl⟩⟩; refine ⟨_, rfl, ?_⟩))
     go_ret
     exact ⟨by first | rfl | (simp; done) | (simp [*]; done), by repeat (first | exact Drawn0.refl _ | apply Drawn0.step)⟩
end Go.Proofs.YtdpjoblnjjkbfaaDoor.P
