/- Contracts of functions, each with its plain Lean function. -/
import Derived.Test.YtdpjoblnjjkbfaaDoorNe
import Derived.Test.YtdpjoblnjjkbfaaDoorNb
import Derived.Test.YtdpjoblnjjkbfaaDoorPx0
namespace Go.Proofs.YtdpjoblnjjkbfaaDoor.P
open Go.RowKit Go.Proofs.YtdpjoblnjjkbfaaDoorW.PrintWords Go.Proofs.YtdpjoblnjjkbfaaDoorW.PrintLast Go.Proofs.YtdpjoblnjjkbfaaDoorW.PrintMore
attribute [local go_sem] max2_int min2_int max_two min_two max_three min_three max_four min_four   -- for this text's walks alone
set_option linter.unusedVariables false
set_option linter.unusedSimpArgs false
/-! ### impl_nameOk: function 68 -/
theorem impl_nameOk.mono_l : ∀ k, (∀ y0 y1, LeO (impl_nameOk.j0 k y0 y1) (impl_nameOk.j0 (k + 1) y0 y1)) ∧ (∀ y0 y1, LeO (impl_nameOk.l0 k y0 y1) (impl_nameOk.l0 (k + 1) y0 y1))
 | 0 => ⟨fun _ _ r h => by simp [impl_nameOk.j0] at h, fun _ _ r h => by simp [impl_nameOk.l0] at h⟩
 | k + 1 => by
  obtain ⟨ih0, ih1⟩ := impl_nameOk.mono_l k
  refine ⟨?_, ?_⟩
  all_goals intros
  all_goals first | unfold impl_nameOk.j0 | unfold impl_nameOk.l0
  all_goals
   repeat' first
   | (with_reducible exact ih0 _ _)
   | (with_reducible exact ih1 _ _)
   | (with_reducible exact LeO.refl _)
   | (with_reducible exact LeO.none _)
   | (with_reducible refine LeO.ite ?_ ?_)
   | (with_reducible refine LeO.bind ?_ (fun _ => ?_))
   | exact ih0 _ _
   | exact ih1 _ _
   | exact LeO.none _
   | refine LeO.ite ?_ ?_
   | refine LeO.bind ?_ (fun _ => ?_)
theorem impl_nameOk.mono : ∀ a0 k, LeO (impl_nameOk.f k a0) (impl_nameOk.f (k + 1) a0) := by
 intro a0 k
 obtain ⟨ih0, ih1⟩ := impl_nameOk.mono_l k
 unfold impl_nameOk.f
 repeat' first
  | (with_reducible exact ih0 _ _)
  | (with_reducible exact ih1 _ _)
  | (with_reducible exact LeO.refl _)
  | (with_reducible exact LeO.none _)
  | (with_reducible refine LeO.ite ?_ ?_)
  | (with_reducible refine LeO.bind ?_ (fun _ => ?_))
  | exact ih0 _ _
  | exact ih1 _ _
  | exact LeO.none _
  | refine LeO.ite ?_ ?_
  | refine LeO.bind ?_ (fun _ => ?_)
set_option maxHeartbeats 8000000 in
set_option maxRecDepth 100000 in
theorem impl_nameOk.calls (k : Nat) (a0 : ByteArray) (r : Bool) (w : World) (h : impl_nameOk.f k a0 = some r) :
 Calls Tryd.prog 68 #[.string a0] w fun e w' => e = .returned (.bool r) ∧ Drawn0 w w' := by
 have H : (if (a0.size : Int) < 1 then (impl_nameOk.j0 k a0 true) else (impl_nameOk.j0 k a0 (decide ((a0.size : Int) > 12)))) = some r := h
 clear h
 have HC2 := aM H
 clear H
 go_enter Tryd.func68, Tryd.ntmps68
 go_upto_region 1 with (fail)
 go_cut [11] (fun v11 wc => ∃ (kq : Nat) (x11_1 : Bool), v11 = .bool x11_1 ∧ Aside0 (impl_nameOk.j0 kq a0 x11_1 = some r) ∧ Aside0 (kq ≤ k) ∧ Drawn0 w wc)
 case first =>
  have H := HC2.out; clear HC2
  by_cases c3 : (a0.size : Int) < 1
  · rw [if_pos c3] at H
    have c3b0 : decide ((a0.size : Int) < 1) = true := decide_eq_true c3
    have c3b1 : decide (a0.size < 1) = true := decide_eq_true (by omega)
    clear c3
    (first | rw [c3b0] | (simp only [i64_w, i32_w]; rw [c3b0]) | skip)
    have H' := aM H
    clear H; go_wp2
    go_meet
    case rel => exact ⟨_, (true), nS, H', ⟨by first | omega | exact Nat.le_refl _⟩, by repeat (first | exact Drawn0.refl _ | apply Drawn0.step)⟩
  · rw [if_neg c3] at H
    have c3b0 : decide ((a0.size : Int) < 1) = false := decide_eq_false c3
    have c3b1 : decide (a0.size < 1) = false := decide_eq_false (by omega)
    clear c3
    (first | rw [c3b0] | (simp only [i64_w, i32_w]; rw [c3b0]) | skip)
    have H' := aM H
    clear H; go_wp2
    go_meet
    case rel => exact ⟨_, (decide ((a0.size : Int) > 12)), nS, H', ⟨by first | omega | exact Nat.le_refl _⟩, by repeat (first | exact Drawn0.refl _ | apply Drawn0.step)⟩
 case rest =>
  clear HC2; try clear p2; try clear c3; try clear c3b0; try clear c3b1
  obtain ⟨kq, x11_1, rfl, HA, HJ1, ⟨mc1, rfl⟩⟩ := hcut
  cases kq with
  | zero => exact absurd HA.out (by simp [impl_nameOk.j0])
  | succ kj1 =>
   have H := HA.out; clear HA
   simp only [impl_nameOk.j0] at H
   by_cases c4 : x11_1 = true
   · subst c4
     rw [if_pos rfl] at H; obtain rfl := Option.some.inj H; go_wp2; go_ret
     exact ⟨by first | rfl | (simp; done) | (simp [*]; done), by repeat (first | exact Drawn0.refl _ | apply Drawn0.step)⟩
   · replace c4 := Bool.eq_false_iff.mpr c4
     subst c4
     rw [if_neg nN] at H
     have H' := aM H
     clear H; go_wp2
     go_loopg [3] kj1 (fun kq v3 w' => ∃ (x3_2 : Int), v3 = .int .i64 x3_2 ∧ Aside0 (impl_nameOk.l0 kq a0 x3_2 = some r) ∧ Aside0 (kq ≤ kj1) ∧ Drawn0 w w')
     case atStart => exact ⟨(0), nS, H', ⟨Nat.le_refl _⟩, by repeat (first | exact Drawn0.refl _ | apply Drawn0.step)⟩
     case round =>
      clear H'
      try clear c1; try clear p2; try clear c3; try clear c3b0; try clear c3b1; try clear c4; try clear p2
      obtain ⟨x3_2, rfl, HA, HK2, ⟨m2, rfl⟩⟩ := hrel
      cases gk with
      | zero => exact absurd HA.out (by simp [impl_nameOk.l0])
      | succ k2 =>
       have H := HA.out; clear HA
       simp only [impl_nameOk.l0] at H
       by_cases c5 : x3_2 < (a0.size : Int)
       · rw [if_pos c5] at H
         have c5b0 : decide (x3_2 < (a0.size : Int)) = true := decide_eq_true c5
         clear c5
         by_cases c6 : 0 ≤ x3_2
         rotate_left
         · (rw [if_neg c6] at H; exact absurd H (by simp))
         rw [if_pos c6] at H
         have c6b0 : decide (0 ≤ x3_2) = true := decide_eq_true c6
         clear c6
         by_cases c8 : (bt a0 x3_2) < 97
         · rw [if_pos c8] at H
           have c8b0 : decide ((bt a0 x3_2) < 97) = true := decide_eq_true c8
           clear c8
           by_cases c10 : (bt a0 x3_2) < 48
           · rw [if_pos c10] at H
             have c10b0 : decide ((bt a0 x3_2) < 48) = true := decide_eq_true c10
             clear c10; obtain rfl := Option.some.inj H
             have p7 : 0 ≤ (x3_2 : Int) := of_decide_eq_true nQ
             have q7 : x3_2 < (a0.size : Int) := of_decide_eq_true nQ
             have hx7 := bt_at a0 x3_2
             replace p7 := eq_true p7; replace q7 := eq_true q7
             have p9 : 0 ≤ (x3_2 : Int) := of_decide_eq_true nQ
             have q9 : x3_2 < (a0.size : Int) := of_decide_eq_true nQ
             have hx9 := bt_at a0 x3_2
             replace p9 := eq_true p9; replace q9 := eq_true q9; go_wp2; go_ret
             exact ⟨by first | rfl | (simp; done) | (simp [*]; done), by repeat (first | exact Drawn0.refl _ | apply Drawn0.step)⟩
           · rw [if_neg c10] at H
             have c10b0 : decide ((bt a0 x3_2) < 48) = false := decide_eq_false c10
             clear c10
             by_cases c12 : (bt a0 x3_2) > 57
             · rw [if_pos c12] at H
               have c12b0 : decide (57 < (bt a0 x3_2)) = true := decide_eq_true c12
               clear c12; obtain rfl := Option.some.inj H
               have p7 : 0 ≤ (x3_2 : Int) := of_decide_eq_true nQ
               have q7 : x3_2 < (a0.size : Int) := of_decide_eq_true nQ
               have hx7 := bt_at a0 x3_2
               replace p7 := eq_true p7; replace q7 := eq_true q7
               have p9 : 0 ≤ (x3_2 : Int) := of_decide_eq_true nQ
               have q9 : x3_2 < (a0.size : Int) := of_decide_eq_true nQ
               have hx9 := bt_at a0 x3_2
               replace p9 := eq_true p9; replace q9 := eq_true q9
               have p11 : 0 ≤ (x3_2 : Int) := of_decide_eq_true nQ
               have q11 : x3_2 < (a0.size : Int) := of_decide_eq_true nQ
               have hx11 := bt_at a0 x3_2
               replace p11 := eq_true p11; replace q11 := eq_true q11; go_wp2; go_ret
               exact ⟨by first | rfl | (simp; done) | (simp [*]; done), by repeat (first | exact Drawn0.refl _ | apply Drawn0.step)⟩
             · rw [if_neg c12] at H
               have c12b0 : decide (57 < (bt a0 x3_2)) = false := decide_eq_false c12
               clear c12
               have H' := aM H
               clear H
               have p7 : 0 ≤ (x3_2 : Int) := of_decide_eq_true nQ
               have q7 : x3_2 < (a0.size : Int) := of_decide_eq_true nQ
               have hx7 := bt_at a0 x3_2
               replace p7 := eq_true p7; replace q7 := eq_true q7
               have p9 : 0 ≤ (x3_2 : Int) := of_decide_eq_true nQ
               have q9 : x3_2 < (a0.size : Int) := of_decide_eq_true nQ
               have hx9 := bt_at a0 x3_2
               replace p9 := eq_true p9; replace q9 := eq_true q9
               have p11 : 0 ≤ (x3_2 : Int) := of_decide_eq_true nQ
               have q11 : x3_2 < (a0.size : Int) := of_decide_eq_true nQ
               have hx11 := bt_at a0 x3_2
               replace p11 := eq_true p11; replace q11 := eq_true q11; go_wp2
               go_roundg k2
               case measure => have := HJ1.out; have := HK2.out; omega
               case rel => exact ⟨(wrap64 (x3_2 + 1)), nS, H', ⟨by have := HJ1.out; have := HK2.out; omega⟩, by repeat (first | exact Drawn0.refl _ | apply Drawn0.step)⟩
         · rw [if_neg c8] at H
           have c8b0 : decide ((bt a0 x3_2) < 97) = false := decide_eq_false c8
           clear c8
           by_cases c14 : (bt a0 x3_2) > 122
           · rw [if_pos c14] at H
             have c14b0 : decide (122 < (bt a0 x3_2)) = true := decide_eq_true c14
             clear c14
             by_cases c16 : (bt a0 x3_2) < 48
             · rw [if_pos c16] at H
               have c16b0 : decide ((bt a0 x3_2) < 48) = true := decide_eq_true c16
               clear c16; obtain rfl := Option.some.inj H
               have p7 : 0 ≤ (x3_2 : Int) := of_decide_eq_true nQ
               have q7 : x3_2 < (a0.size : Int) := of_decide_eq_true nQ
               have hx7 := bt_at a0 x3_2
               replace p7 := eq_true p7; replace q7 := eq_true q7
               have p13 : 0 ≤ (x3_2 : Int) := of_decide_eq_true nQ
               have q13 : x3_2 < (a0.size : Int) := of_decide_eq_true nQ
               have hx13 := bt_at a0 x3_2
               replace p13 := eq_true p13; replace q13 := eq_true q13
               have p15 : 0 ≤ (x3_2 : Int) := of_decide_eq_true nQ
               have q15 : x3_2 < (a0.size : Int) := of_decide_eq_true nQ
               have hx15 := bt_at a0 x3_2
               replace p15 := eq_true p15; replace q15 := eq_true q15; go_wp2; go_ret
               exact ⟨by first | rfl | (simp; done) | (simp [*]; done), by repeat (first | exact Drawn0.refl _ | apply Drawn0.step)⟩
             · rw [if_neg c16] at H
               have c16b0 : decide ((bt a0 x3_2) < 48) = false := decide_eq_false c16
               clear c16
               by_cases c18 : (bt a0 x3_2) > 57
               · rw [if_pos c18] at H
                 have c18b0 : decide (57 < (bt a0 x3_2)) = true := decide_eq_true c18
                 clear c18; obtain rfl := Option.some.inj H
                 have p7 : 0 ≤ (x3_2 : Int) := of_decide_eq_true nQ
                 have q7 : x3_2 < (a0.size : Int) := of_decide_eq_true nQ
                 have hx7 := bt_at a0 x3_2
                 replace p7 := eq_true p7; replace q7 := eq_true q7
                 have p13 : 0 ≤ (x3_2 : Int) := of_decide_eq_true nQ
                 have q13 : x3_2 < (a0.size : Int) := of_decide_eq_true nQ
                 have hx13 := bt_at a0 x3_2
                 replace p13 := eq_true p13; replace q13 := eq_true q13
                 have p15 : 0 ≤ (x3_2 : Int) := of_decide_eq_true nQ
                 have q15 : x3_2 < (a0.size : Int) := of_decide_eq_true nQ
                 have hx15 := bt_at a0 x3_2
                 replace p15 := eq_true p15; replace q15 := eq_true q15
                 have p17 : 0 ≤ (x3_2 : Int) := of_decide_eq_true nQ
                 have q17 : x3_2 < (a0.size : Int) := of_decide_eq_true nQ
                 have hx17 := bt_at a0 x3_2
                 replace p17 := eq_true p17; replace q17 := eq_true q17; go_wp2; go_ret
                 exact ⟨by first | rfl | (simp; done) | (simp [*]; done), by repeat (first | exact Drawn0.refl _ | apply Drawn0.step)⟩
               · rw [if_neg c18] at H
                 have c18b0 : decide (57 < (bt a0 x3_2)) = false := decide_eq_false c18
                 clear c18
                 have H' := aM H
                 clear H
                 have p7 : 0 ≤ (x3_2 : Int) := of_decide_eq_true nQ
                 have q7 : x3_2 < (a0.size : Int) := of_decide_eq_true nQ
                 have hx7 := bt_at a0 x3_2
                 replace p7 := eq_true p7; replace q7 := eq_true q7
                 have p13 : 0 ≤ (x3_2 : Int) := of_decide_eq_true nQ
                 have q13 : x3_2 < (a0.size : Int) := of_decide_eq_true nQ
                 have hx13 := bt_at a0 x3_2
                 replace p13 := eq_true p13; replace q13 := eq_true q13
                 have p15 : 0 ≤ (x3_2 : Int) := of_decide_eq_true nQ
                 have q15 : x3_2 < (a0.size : Int) := of_decide_eq_true nQ
                 have hx15 := bt_at a0 x3_2
                 replace p15 := eq_true p15; replace q15 := eq_true q15
                 have p17 : 0 ≤ (x3_2 : Int) := of_decide_eq_true nQ
                 have q17 : x3_2 < (a0.size : Int) := of_decide_eq_true nQ
                 have hx17 := bt_at a0 x3_2
                 replace p17 := eq_true p17; replace q17 := eq_true q17; go_wp2
                 go_roundg k2
                 case measure => have := HJ1.out; have := HK2.out; omega
                 case rel => exact ⟨(wrap64 (x3_2 + 1)), nS, H', ⟨by have := HJ1.out; have := HK2.out; omega⟩, by repeat (first | exact Drawn0.refl _ | apply Drawn0.step)⟩
           · rw [if_neg c14] at H
             have c14b0 : decide (122 < (bt a0 x3_2)) = false := decide_eq_false c14
             clear c14
             have H' := aM H
             clear H
             have p7 : 0 ≤ (x3_2 : Int) := of_decide_eq_true nQ
             have q7 : x3_2 < (a0.size : Int) := of_decide_eq_true nQ
             have hx7 := bt_at a0 x3_2
             replace p7 := eq_true p7; replace q7 := eq_true q7
             have p13 : 0 ≤ (x3_2 : Int) := of_decide_eq_true nQ
             have q13 : x3_2 < (a0.size : Int) := of_decide_eq_true nQ
             have hx13 := bt_at a0 x3_2
             replace p13 := eq_true p13; replace q13 := eq_true q13; go_wp2
             go_roundg k2
             case measure => have := HJ1.out; have := HK2.out; omega
             case rel => exact ⟨(wrap64 (x3_2 + 1)), nS, H', ⟨by have := HJ1.out; have := HK2.out; omega⟩, by repeat (first | exact Drawn0.refl _ | apply Drawn0.step)⟩
       · rw [if_neg c5] at H
         have c5b0 : decide (x3_2 < (a0.size : Int)) = false := decide_eq_false c5
         clear c5; obtain rfl := Option.some.inj H; go_wp2; go_ret
         exact ⟨by first | rfl | (simp; done) | (simp [*]; done), by repeat (first | exact Drawn0.refl _ | apply Drawn0.step)⟩
end Go.Proofs.YtdpjoblnjjkbfaaDoor.P
