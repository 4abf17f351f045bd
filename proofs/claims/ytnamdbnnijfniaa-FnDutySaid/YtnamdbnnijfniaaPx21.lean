/- Contracts of the functions of the program, each one with its plain Lean function; written by a program of the session out of the translation. -/
import Derived.Test.YtnamdbnnijfniaaNb
import Derived.Test.YtnamdbnnijfniaaPx0
import Derived.Test.YtnamdbnnijfniaaPx1
import Derived.Test.YtnamdbnnijfniaaPx7
namespace Go.Proofs.Ytnamdbnnijfniaa.P
open Go.RowKit Go.Proofs.YtnamdbnnijfniaaW.PrintWords Go.Proofs.YtnamdbnnijfniaaW.PrintLast Go.Proofs.YtnamdbnnijfniaaW.PrintMore
attribute [local go_sem] max2_int min2_int max_two min_two max_three min_three max_four min_four   -- for this text's walks alone
set_option linter.unusedVariables false
set_option linter.unusedSimpArgs false
/-! ### spec_Stretched: function 20 -/
theorem spec_Stretched.mono_l : ∀ k, (∀ y0 y1 y2 y3, LeO (spec_Stretched.j0 k y0 y1 y2 y3) (spec_Stretched.j0 (k + 1) y0 y1 y2 y3)) ∧ (∀ y0 y1 y2 y3 y4, LeO (spec_Stretched.l0 k y0 y1 y2 y3 y4) (spec_Stretched.l0 (k + 1) y0 y1 y2 y3 y4)) ∧ (∀ y0 y1 y2 y3 y4 y5 y6, LeO (spec_Stretched.l1 k y0 y1 y2 y3 y4 y5 y6) (spec_Stretched.l1 (k + 1) y0 y1 y2 y3 y4 y5 y6)) ∧ (∀ y0 y1 y2 y3 y4 y5 y6 y7, LeO (spec_Stretched.j3 k y0 y1 y2 y3 y4 y5 y6 y7) (spec_Stretched.j3 (k + 1) y0 y1 y2 y3 y4 y5 y6 y7))
 | 0 => ⟨fun _ _ _ _ r h => by simp [spec_Stretched.j0] at h, fun _ _ _ _ _ r h => by simp [spec_Stretched.l0] at h, fun _ _ _ _ _ _ _ r h => by simp [spec_Stretched.l1] at h, fun _ _ _ _ _ _ _ _ r h => by simp [spec_Stretched.j3] at h⟩
 | k + 1 => by
  obtain ⟨ih0, ih1, ih2, ih3⟩ := spec_Stretched.mono_l k
  refine ⟨?_, ?_, ?_, ?_⟩
  · intro y0 y1 y2 y3
    unfold spec_Stretched.j0
    repeat' first
    | (with_reducible exact ih0 _ _ _ _)
    | (with_reducible exact ih1 _ _ _ _ _)
    | (with_reducible exact ih2 _ _ _ _ _ _ _)
    | (with_reducible exact ih3 _ _ _ _ _ _ _ _)
    | (with_reducible exact spec_l17Duty.mono _ _ _)
    | (with_reducible exact LeO.refl _)
    | (with_reducible exact LeO.none _)
    | (with_reducible refine LeO.ite ?_ ?_)
    | (with_reducible refine LeO.bind ?_ (fun _ => ?_))
    | exact ih0 _ _ _ _
    | exact ih1 _ _ _ _ _
    | exact ih2 _ _ _ _ _ _ _
    | exact ih3 _ _ _ _ _ _ _ _
    | exact spec_l17Duty.mono _ _ _
    | exact LeO.none _
    | refine LeO.ite ?_ ?_
    | refine LeO.bind ?_ (fun _ => ?_)
  · intro y0 y1 y2 y3 y4
    unfold spec_Stretched.l0
    repeat' first
    | (with_reducible exact ih0 _ _ _ _)
    | (with_reducible exact ih1 _ _ _ _ _)
    | (with_reducible exact ih2 _ _ _ _ _ _ _)
    | (with_reducible exact ih3 _ _ _ _ _ _ _ _)
    | (with_reducible exact spec_l17Duty.mono _ _ _)
    | (with_reducible exact LeO.refl _)
    | (with_reducible exact LeO.none _)
    | (with_reducible refine LeO.ite ?_ ?_)
    | (with_reducible refine LeO.bind ?_ (fun _ => ?_))
    | exact ih0 _ _ _ _
    | exact ih1 _ _ _ _ _
    | exact ih2 _ _ _ _ _ _ _
    | exact ih3 _ _ _ _ _ _ _ _
    | exact spec_l17Duty.mono _ _ _
    | exact LeO.none _
    | refine LeO.ite ?_ ?_
    | refine LeO.bind ?_ (fun _ => ?_)
  · intro y0 y1 y2 y3 y4 y5 y6
    unfold spec_Stretched.l1
    repeat' first
    | (with_reducible exact ih0 _ _ _ _)
    | (with_reducible exact ih1 _ _ _ _ _)
    | (with_reducible exact ih2 _ _ _ _ _ _ _)
    | (with_reducible exact ih3 _ _ _ _ _ _ _ _)
    | (with_reducible exact spec_l17Duty.mono _ _ _)
    | (with_reducible exact LeO.refl _)
    | (with_reducible exact LeO.none _)
    | (with_reducible refine LeO.ite ?_ ?_)
    | (with_reducible refine LeO.bind ?_ (fun _ => ?_))
    | exact ih0 _ _ _ _
    | exact ih1 _ _ _ _ _
    | exact ih2 _ _ _ _ _ _ _
    | exact ih3 _ _ _ _ _ _ _ _
    | exact spec_l17Duty.mono _ _ _
    | exact LeO.none _
    | refine LeO.ite ?_ ?_
    | refine LeO.bind ?_ (fun _ => ?_)
  · intro y0 y1 y2 y3 y4 y5 y6 y7
    unfold spec_Stretched.j3
    repeat' first
    | (with_reducible exact ih0 _ _ _ _)
    | (with_reducible exact ih1 _ _ _ _ _)
    | (with_reducible exact ih2 _ _ _ _ _ _ _)
    | (with_reducible exact ih3 _ _ _ _ _ _ _ _)
    | (with_reducible exact spec_l17Duty.mono _ _ _)
    | (with_reducible exact LeO.refl _)
    | (with_reducible exact LeO.none _)
    | (with_reducible refine LeO.ite ?_ ?_)
    | (with_reducible refine LeO.bind ?_ (fun _ => ?_))
    | exact ih0 _ _ _ _
    | exact ih1 _ _ _ _ _
    | exact ih2 _ _ _ _ _ _ _
    | exact ih3 _ _ _ _ _ _ _ _
    | exact spec_l17Duty.mono _ _ _
    | exact LeO.none _
    | refine LeO.ite ?_ ?_
    | refine LeO.bind ?_ (fun _ => ?_)
theorem spec_Stretched.mono : ∀ a0 a1 a2 k, LeO (spec_Stretched.f k a0 a1 a2) (spec_Stretched.f (k + 1) a0 a1 a2) := by
 intro a0 a1 a2 k
 obtain ⟨ih0, ih1, ih2, ih3⟩ := spec_Stretched.mono_l k
 unfold spec_Stretched.f
 repeat' first
  | (with_reducible exact ih0 _ _ _ _)
  | (with_reducible exact ih1 _ _ _ _ _)
  | (with_reducible exact ih2 _ _ _ _ _ _ _)
  | (with_reducible exact ih3 _ _ _ _ _ _ _ _)
  | (with_reducible exact spec_l17Duty.mono _ _ _)
  | (with_reducible exact LeO.refl _)
  | (with_reducible exact LeO.none _)
  | (with_reducible refine LeO.ite ?_ ?_)
  | (with_reducible refine LeO.bind ?_ (fun _ => ?_))
  | exact ih0 _ _ _ _
  | exact ih1 _ _ _ _ _
  | exact ih2 _ _ _ _ _ _ _
  | exact ih3 _ _ _ _ _ _ _ _
  | exact spec_l17Duty.mono _ _ _
  | exact LeO.none _
  | refine LeO.ite ?_ ?_
  | refine LeO.bind ?_ (fun _ => ?_)
set_option maxHeartbeats 8000000 in
set_option maxRecDepth 100000 in
theorem spec_Stretched.calls (k : Nat) (A0 : Option Addr) (c0 : Nat) (l0 : List (S52)) (A1 : Option Addr) (c1 : Nat) (l1 : List Int) (a2 : Int) (r : Int) (w : World) (hr0 : Kd.C k52 w A0 l0.length l0) (hc0 : l0.length ≤ c0) (hr1 : Kd.C (Kd.int .i64) w A1 l1.length l1) (hc1 : l1.length ≤ c1) (h : spec_Stretched.f k l0 l1 a2 = some r) :
 Calls Try.prog 20 #[.slice A0 l0.length c0, .slice A1 l1.length c1, .int .i64 a2] w fun e w' => e = .returned (.int .i64 r) ∧ Below w.heap.size w w' := by
 have HR0 := Aside0.mk hr0
 have HC0 := Aside0.mk hc0
 clear hr0 hc0
 have HR1 := Aside0.mk hr1
 have HC1 := Aside0.mk hc1
 clear hr1 hc1
 have HB := Aside0.mk (Below.refl w.heap.size w)
 have H : ((spec_l17Duty.f k l0 l1).bind fun t218 => (if t218 = true then ((spec_l01In.f a2 1 1440).bind fun t219 => (spec_Stretched.j0 k l0 l1 a2 (!t219))) else (spec_Stretched.j0 k l0 l1 a2 true))) = some r := h
 clear h
 have HC4 := Aside0.mk H
 clear H
 go_enter Try.func20, Try.ntmps20
 go_upto_region 1 with (fail)
 repeat (go_quiet (fail); go_upto_region 1 with (fail))
 go_cut [19] (fun v19 wc => ∃ (kq : Nat) (x19_3 : Bool), v19 = .bool x19_3 ∧ Aside0 (spec_Stretched.j0 kq l0 l1 a2 x19_3 = some r) ∧ Aside0 (kq ≤ k) ∧ Aside0 (Below w.heap.size w wc))
 case first =>
  have H := HC4.out; clear HC4
  replace H := Option.bind_eq_some_iff.mp H
  obtain ⟨t218, A50, H⟩ := H
  replace H : (if t218 = true then ((spec_l01In.f a2 1 1440).bind fun t219 => (spec_Stretched.j0 k l0 l1 a2 (!t219))) else (spec_Stretched.j0 k l0 l1 a2 true)) = some r := H
  have A5 := Aside0.mk A50
  clear A50
  by_cases c6 : t218 = true
  · subst c6
    have H1 : ((spec_l01In.f a2 1 1440).bind fun t219 => (spec_Stretched.j0 k l0 l1 a2 (!t219))) = some r := by rw [if_pos rfl] at H; exact H
    clear H; have H := H1; clear H1
    replace H := Option.bind_eq_some_iff.mp H
    obtain ⟨t219, A70, H⟩ := H
    replace H : (spec_Stretched.j0 k l0 l1 a2 (!t219)) = some r := H
    have A7 := Aside0.mk A70
    clear A70
    have H' := Aside0.mk H
    clear H
    go_wp2_with (first | (go_at_call 34; (with_reducible refine (spec_l17Duty.calls k _ _ l0 _ _ l1 true _ ?side1 ?side2 ?side3 ?side4 A5.out).mono ?_); (case side1 => repeat (first | exact (Kd.C_below HR0.out HB.out) | (with_reducible refine Kd.C_alloc ?_ _) | (with_reducible refine Kd.C_drewN ?_ _) | (with_reducible refine Kd.C_drew ?_))); (case side2 => exact HC0.out); (case side3 => repeat (first | exact (Kd.C_below HR1.out HB.out) | (with_reducible refine Kd.C_alloc ?_ _) | (with_reducible refine Kd.C_drewN ?_ _) | (with_reducible refine Kd.C_drew ?_))); (case side4 => exact HC1.out); rintro e w8 ⟨rfl, hb⟩; have n0_ := Aside0.mk (below_step (nH HB.out) hb); clear HB; have HB := n0_; clear n0_; (try clear hb); (try clear hb2); (try clear hk); (try clear hi)) | (go_at_call 32; (with_reducible refine (spec_l01In.calls a2 1 1440 t219 _ A7.out).mono ?_); rintro e w' ⟨rfl, ⟨nd, rfl⟩⟩; (try first | exact ⟨rfl, _, World.drewN_drewN _ _ _⟩ | exact ⟨rfl, _, Eq.trans (World.drewN_drewN _ _ _) (congrArg (World.drewN _) (Nat.add_assoc _ _ _))⟩)))
    repeat (go_quiet (first | (go_at_call 34; (with_reducible refine (spec_l17Duty.calls k _ _ l0 _ _ l1 true _ ?side1 ?side2 ?side3 ?side4 A5.out).mono ?_); (case side1 => repeat (first | exact (Kd.C_below HR0.out HB.out) | (with_reducible refine Kd.C_alloc ?_ _) | (with_reducible refine Kd.C_drewN ?_ _) | (with_reducible refine Kd.C_drew ?_))); (case side2 => exact HC0.out); (case side3 => repeat (first | exact (Kd.C_below HR1.out HB.out) | (with_reducible refine Kd.C_alloc ?_ _) | (with_reducible refine Kd.C_drewN ?_ _) | (with_reducible refine Kd.C_drew ?_))); (case side4 => exact HC1.out); rintro e w8 ⟨rfl, hb⟩; have n0_ := Aside0.mk (below_step (nH HB.out) hb); clear HB; have HB := n0_; clear n0_; (try clear hb); (try clear hb2); (try clear hk); (try clear hi)) | (go_at_call 32; (with_reducible refine (spec_l01In.calls a2 1 1440 t219 _ A7.out).mono ?_); rintro e w' ⟨rfl, ⟨nd, rfl⟩⟩; (try first | exact ⟨rfl, _, World.drewN_drewN _ _ _⟩ | exact ⟨rfl, _, Eq.trans (World.drewN_drewN _ _ _) (congrArg (World.drewN _) (Nat.add_assoc _ _ _))⟩))); try go_wp2_with (first | (go_at_call 34; (with_reducible refine (spec_l17Duty.calls k _ _ l0 _ _ l1 true _ ?side1 ?side2 ?side3 ?side4 A5.out).mono ?_); (case side1 => repeat (first | exact (Kd.C_below HR0.out HB.out) | (with_reducible refine Kd.C_alloc ?_ _) | (with_reducible refine Kd.C_drewN ?_ _) | (with_reducible refine Kd.C_drew ?_))); (case side2 => exact HC0.out); (case side3 => repeat (first | exact (Kd.C_below HR1.out HB.out) | (with_reducible refine Kd.C_alloc ?_ _) | (with_reducible refine Kd.C_drewN ?_ _) | (with_reducible refine Kd.C_drew ?_))); (case side4 => exact HC1.out); rintro e w8 ⟨rfl, hb⟩; have n0_ := Aside0.mk (below_step (nH HB.out) hb); clear HB; have HB := n0_; clear n0_; (try clear hb); (try clear hb2); (try clear hk); (try clear hi)) | (go_at_call 32; (with_reducible refine (spec_l01In.calls a2 1 1440 t219 _ A7.out).mono ?_); rintro e w' ⟨rfl, ⟨nd, rfl⟩⟩; (try first | exact ⟨rfl, _, World.drewN_drewN _ _ _⟩ | exact ⟨rfl, _, Eq.trans (World.drewN_drewN _ _ _) (congrArg (World.drewN _) (Nat.add_assoc _ _ _))⟩))))
    go_meet
    case rel => exact ⟨_, (!t219), nS, H', ⟨by first | omega | exact Nat.le_refl _⟩, ⟨nH HB.out⟩⟩
  · replace c6 := Bool.eq_false_iff.mpr c6
    subst c6
    have H1 : (spec_Stretched.j0 k l0 l1 a2 true) = some r := by rw [if_neg (show ¬ (false = true) by decide)] at H; exact H
    clear H; have H := H1; clear H1
    have H' := Aside0.mk H
    clear H
    go_wp2_with (first | (go_at_call 34; (with_reducible refine (spec_l17Duty.calls k _ _ l0 _ _ l1 false _ ?side1 ?side2 ?side3 ?side4 A5.out).mono ?_); (case side1 => repeat (first | exact (Kd.C_below HR0.out HB.out) | (with_reducible refine Kd.C_alloc ?_ _) | (with_reducible refine Kd.C_drewN ?_ _) | (with_reducible refine Kd.C_drew ?_))); (case side2 => exact HC0.out); (case side3 => repeat (first | exact (Kd.C_below HR1.out HB.out) | (with_reducible refine Kd.C_alloc ?_ _) | (with_reducible refine Kd.C_drewN ?_ _) | (with_reducible refine Kd.C_drew ?_))); (case side4 => exact HC1.out); rintro e w9 ⟨rfl, hb⟩; have n0_ := Aside0.mk (below_step (nH HB.out) hb); clear HB; have HB := n0_; clear n0_; (try clear hb); (try clear hb2); (try clear hk); (try clear hi)))
    repeat (go_quiet (first | (go_at_call 34; (with_reducible refine (spec_l17Duty.calls k _ _ l0 _ _ l1 false _ ?side1 ?side2 ?side3 ?side4 A5.out).mono ?_); (case side1 => repeat (first | exact (Kd.C_below HR0.out HB.out) | (with_reducible refine Kd.C_alloc ?_ _) | (with_reducible refine Kd.C_drewN ?_ _) | (with_reducible refine Kd.C_drew ?_))); (case side2 => exact HC0.out); (case side3 => repeat (first | exact (Kd.C_below HR1.out HB.out) | (with_reducible refine Kd.C_alloc ?_ _) | (with_reducible refine Kd.C_drewN ?_ _) | (with_reducible refine Kd.C_drew ?_))); (case side4 => exact HC1.out); rintro e w9 ⟨rfl, hb⟩; have n0_ := Aside0.mk (below_step (nH HB.out) hb); clear HB; have HB := n0_; clear n0_; (try clear hb); (try clear hb2); (try clear hk); (try clear hi))); try go_wp2_with (first | (go_at_call 34; (with_reducible refine (spec_l17Duty.calls k _ _ l0 _ _ l1 false _ ?side1 ?side2 ?side3 ?side4 A5.out).mono ?_); (case side1 => repeat (first | exact (Kd.C_below HR0.out HB.out) | (with_reducible refine Kd.C_alloc ?_ _) | (with_reducible refine Kd.C_drewN ?_ _) | (with_reducible refine Kd.C_drew ?_))); (case side2 => exact HC0.out); (case side3 => repeat (first | exact (Kd.C_below HR1.out HB.out) | (with_reducible refine Kd.C_alloc ?_ _) | (with_reducible refine Kd.C_drewN ?_ _) | (with_reducible refine Kd.C_drew ?_))); (case side4 => exact HC1.out); rintro e w9 ⟨rfl, hb⟩; have n0_ := Aside0.mk (below_step (nH HB.out) hb); clear HB; have HB := n0_; clear n0_; (try clear hb); (try clear hb2); (try clear hk); (try clear hi))))
    go_meet
    case rel => exact ⟨_, (true), nS, H', ⟨by first | omega | exact Nat.le_refl _⟩, ⟨nH HB.out⟩⟩
 case rest =>
  clear HC4; try clear c1; try clear c2; try clear p2; try clear c6
  obtain ⟨kq, x19_3, rfl, HA, HJ3, HB⟩ := hcut
  cases kq with
  | zero => exact absurd HA.out (by simp [spec_Stretched.j0])
  | succ kj3 =>
   have H := HA.out; clear HA
   simp only [spec_Stretched.j0] at H
   by_cases c10 : x19_3 = true
   · subst c10
     have H1 : (some (-1)) = some r := by rw [if_pos rfl] at H; exact H
     clear H; have H := H1; clear H1; obtain rfl := Option.some.inj H; go_wp2
     repeat (go_quiet (fail); try go_wp2)
     go_ret
     exact ⟨by first | rfl | (simp [errW_none, errW_some] <;> rfl) | (simp [*, errW_none, errW_some] <;> first | rfl | (simp [wrap64]; done)), nH HB.out⟩
   · replace c10 := Bool.eq_false_iff.mpr c10
     subst c10
     have H1 : (spec_Stretched.l0 kj3 l0 l1 a2 0 0) = some r := by rw [if_neg (show ¬ (false = true) by decide)] at H; exact H
     clear H; have H := H1; clear H1
     have H' := Aside0.mk H
     clear H; go_wp2
     repeat (go_quiet (fail); try go_wp2)
     go_loopg [7, 8] kj3 (fun kq v7 v8 w' => ∃ (x7_2 : Int) (x8_2 : Int), v7 = .int .i64 x7_2 ∧ v8 = .int .i64 x8_2 ∧ Aside0 (spec_Stretched.l0 kq l0 l1 a2 x7_2 x8_2 = some r) ∧ Aside0 (kq ≤ kj3) ∧ Aside0 (Below w.heap.size w w'))
     case atStart => exact ⟨(0), (0), nS, nS, H', ⟨Nat.le_refl _⟩, ⟨nH HB.out⟩⟩
     case round =>
      clear H'
      try clear c1; try clear c2; try clear p2; try clear c6; try clear p6; try clear c10; try clear p2
      obtain ⟨x7_2, x8_2, rfl, rfl, HA, HK2, HB⟩ := hrel
      cases gk with
      | zero => exact absurd HA.out (by simp [spec_Stretched.l0])
      | succ k2 =>
       have H := HA.out; clear HA
       simp only [spec_Stretched.l0] at H
       by_cases c11 : x8_2 < (l1.length : Int)
       · rw [if_pos c11] at H
         have c11b0 : decide (x8_2 < (l1.length : Int)) = true := decide_eq_true c11
         clear c11
         have H' := Aside0.mk H
         clear H; go_wp2
         repeat (go_quiet (fail); try go_wp2)
         go_loopg [7, 9, 10] k2 (fun kq v7 v9 v10 w' => ∃ (x7_3 : Int) (x9_3 : Int) (x10_3 : Int), v7 = .int .i64 x7_3 ∧ v9 = .int .i64 x9_3 ∧ v10 = .int .i64 x10_3 ∧ Aside0 (spec_Stretched.l1 kq l0 l1 a2 x7_3 x8_2 x9_3 x10_3 = some r) ∧ Aside0 (kq ≤ k2) ∧ Aside0 (Below w.heap.size w w'))
         case atStart => exact ⟨(x7_2), (0), (x8_2), nS, nS, nS, H', ⟨Nat.le_refl _⟩, ⟨nH HB.out⟩⟩
         case round =>
          clear H'
          try clear c1; try clear c2; try clear p2; try clear c6; try clear p6; try clear c10; try clear c11; try clear c11b0; try clear p2; try clear p6
          obtain ⟨x7_3, x9_3, x10_3, rfl, rfl, rfl, HA, HK3, HB⟩ := hrel
          cases gk with
          | zero => exact absurd HA.out (by simp [spec_Stretched.l1])
          | succ k3 =>
           have H := HA.out; clear HA
           simp only [spec_Stretched.l1] at H
           by_cases c12 : x10_3 < (l1.length : Int)
           · rw [if_pos c12] at H
             have c12b0 : decide (x10_3 < (l1.length : Int)) = true := decide_eq_true c12
             clear c12
             have HC13 := Aside0.mk H
             clear H
             go_upto_region 11 with (fail)
             repeat (go_quiet (fail); go_upto_region 11 with (fail))
             go_cut [57] (fun v57 wc => ∃ (kq : Nat) (x57_12 : Bool), v57 = .bool x57_12 ∧ Aside0 (spec_Stretched.j3 kq l0 l1 a2 x7_3 x8_2 x9_3 x10_3 x57_12 = some r) ∧ Aside0 (kq ≤ k3) ∧ Aside0 (Below w.heap.size w wc))
             case first =>
              have H := HC13.out; clear HC13
              by_cases c14 : x10_3 > x8_2
              · rw [if_pos c14] at H
                have c14b0 : decide (x8_2 < x10_3) = true := decide_eq_true c14
                clear c14
                (first | rw [c14b0] | (simp only [i64_w, i32_w]; rw [c14b0]) | skip)
                by_cases c15 : 0 ≤ x10_3
                rotate_left
                · (rw [if_neg c15] at H; exact absurd H (by simp))
                rw [if_pos c15] at H
                have c15b0 : decide (0 ≤ x10_3) = true := decide_eq_true c15
                clear c15
                by_cases c16 : 0 ≤ (rd l1 x10_3)
                rotate_left
                · (rw [if_neg c16] at H; exact absurd H (by simp))
                rw [if_pos c16] at H
                have c16b0 : decide (0 ≤ (rd l1 x10_3)) = true := decide_eq_true c16
                clear c16
                by_cases c17 : (rd l1 x10_3) < (l0.length : Int)
                rotate_left
                · (rw [if_neg c17] at H; exact absurd H (by simp))
                rw [if_pos c17] at H
                have c17b0 : decide ((rd l1 x10_3) < (l0.length : Int)) = true := decide_eq_true c17
                clear c17
                obtain ⟨ji18, hji18⟩ : ∃ j_ : Int, (wrap64 (x10_3 - 1)) = j_ := ⟨_, rfl⟩
                replace H : (if 0 ≤ (ji18) then (if (ji18) < (l1.length : Int) then (if 0 ≤ (rd l1 (ji18)) then (if (rd l1 (ji18)) < (l0.length : Int) then (spec_Stretched.j3 k3 l0 l1 a2 x7_3 x8_2 x9_3 x10_3 (decide ((wrap64 (((rd_T52 l0 (rd l1 x10_3)).f2) - ((rd_T52 l0 (rd l1 (ji18))).f3))) ≥ a2))) else (none)) else (none)) else (none)) else (none)) = some r := by first | (rw [hji18] at H; exact H) | (simp only [hji18] at H ⊢; exact H)
                have hji18w : (IntKind.i64.wrap (x10_3 - 1)) = ji18 := (i64_w _).trans hji18
                by_cases c19 : 0 ≤ (ji18)
                rotate_left
                · (rw [if_neg c19] at H; exact absurd H (by simp))
                rw [if_pos c19] at H
                have c19b0 : decide (0 ≤ (ji18)) = true := decide_eq_true c19
                clear c19
                by_cases c20 : (ji18) < (l1.length : Int)
                rotate_left
                · (rw [if_neg c20] at H; exact absurd H (by simp))
                rw [if_pos c20] at H
                have c20b0 : decide ((ji18) < (l1.length : Int)) = true := decide_eq_true c20
                clear c20
                by_cases c21 : 0 ≤ (rd l1 (ji18))
                rotate_left
                · (rw [if_neg c21] at H; exact absurd H (by simp))
                rw [if_pos c21] at H
                have c21b0 : decide (0 ≤ (rd l1 (ji18))) = true := decide_eq_true c21
                clear c21
                by_cases c22 : (rd l1 (ji18)) < (l0.length : Int)
                rotate_left
                · (rw [if_neg c22] at H; exact absurd H (by simp))
                rw [if_pos c22] at H
                have c22b0 : decide ((rd l1 (ji18)) < (l0.length : Int)) = true := decide_eq_true c22
                clear c22
                have H' := Aside0.mk H
                clear H
                have p220 : 0 ≤ (x10_3 : Int) := of_decide_eq_true nQ
                have q220 : x10_3 < (l1.length : Int) := of_decide_eq_true nQ
                obtain ⟨ad220, e220, hx220_0⟩ := Kd.at_int HR1.out x10_3 p220 q220
                cases e220
                replace hx220_0 := (HB.out.cell (World.block_lt_of_cell? w _ hx220_0)).trans hx220_0
                replace p220 := eq_true p220; replace q220 := eq_true q220
                have p221 : 0 ≤ ((rd l1 x10_3) : Int) := of_decide_eq_true nQ
                have q221 : (rd l1 x10_3) < (l0.length : Int) := of_decide_eq_true nQ
                obtain ⟨ad221, e221, hx221_0, hx221_1, hx221_2, hx221_3, hx221_4⟩ := at_T52 HR0.out (rd l1 x10_3) p221 q221
                cases e221
                replace hx221_0 := (HB.out.cell (World.block_lt_of_cell? w _ hx221_0)).trans hx221_0
                replace hx221_1 := (HB.out.cell (World.block_lt_of_cell? w _ hx221_1)).trans hx221_1
                replace hx221_2 := (HB.out.cell (World.block_lt_of_cell? w _ hx221_2)).trans hx221_2
                replace hx221_3 := (HB.out.cell (World.block_lt_of_cell? w _ hx221_3)).trans hx221_3
                replace hx221_4 := (HB.out.cell (World.block_lt_of_cell? w _ hx221_4)).trans hx221_4
                replace p221 := eq_true p221; replace q221 := eq_true q221
                have p222 : 0 ≤ ((ji18) : Int) := of_decide_eq_true nQ
                have q222 : (ji18) < (l1.length : Int) := of_decide_eq_true nQ
                obtain ⟨ad222, e222, hx222_0⟩ := Kd.at_int HR1.out (ji18) p222 q222
                obtain rfl : ad220 = ad222 := (by injection e222)
                replace hx222_0 := (HB.out.cell (World.block_lt_of_cell? w _ hx222_0)).trans hx222_0
                replace p222 := eq_true p222; replace q222 := eq_true q222
                have p223 : 0 ≤ ((rd l1 (ji18)) : Int) := of_decide_eq_true nQ
                have q223 : (rd l1 (ji18)) < (l0.length : Int) := of_decide_eq_true nQ
                obtain ⟨ad223, e223, hx223_0, hx223_1, hx223_2, hx223_3, hx223_4⟩ := at_T52 HR0.out (rd l1 (ji18)) p223 q223
                obtain rfl : ad221 = ad223 := (by injection e223)
                replace hx223_0 := (HB.out.cell (World.block_lt_of_cell? w _ hx223_0)).trans hx223_0
                replace hx223_1 := (HB.out.cell (World.block_lt_of_cell? w _ hx223_1)).trans hx223_1
                replace hx223_2 := (HB.out.cell (World.block_lt_of_cell? w _ hx223_2)).trans hx223_2
                replace hx223_3 := (HB.out.cell (World.block_lt_of_cell? w _ hx223_3)).trans hx223_3
                replace hx223_4 := (HB.out.cell (World.block_lt_of_cell? w _ hx223_4)).trans hx223_4
                replace p223 := eq_true p223; replace q223 := eq_true q223; go_wp2
                repeat (go_quiet (fail); try go_wp2)
                go_meet
                case rel => exact ⟨_, (decide ((wrap64 (((rd_T52 l0 (rd l1 x10_3)).f2) - ((rd_T52 l0 (rd l1 (ji18))).f3))) ≥ a2)), (by first | rfl | (simp; done) | (simp only [← hji18] <;> (first | rfl | simp)) | (simp [*]; done)), H', ⟨by have := HJ3.out; have := HK2.out; have := HK3.out; first | omega | exact Nat.le_refl _⟩, ⟨nH HB.out⟩⟩
              · rw [if_neg c14] at H
                have c14b0 : decide (x8_2 < x10_3) = false := decide_eq_false c14
                clear c14
                (first | rw [c14b0] | (simp only [i64_w, i32_w]; rw [c14b0]) | skip)
                have H' := Aside0.mk H
                clear H; go_wp2
                repeat (go_quiet (fail); try go_wp2)
                go_meet
                case rel => exact ⟨_, (false), nS, H', ⟨by have := HJ3.out; have := HK2.out; have := HK3.out; first | omega | exact Nat.le_refl _⟩, ⟨nH HB.out⟩⟩
             case rest =>
              clear HC13; try clear c1; try clear c2; try clear p2; try clear q2; try clear hx2; try clear c6; try clear p6; try clear c10; try clear c11; try clear c11b0; try clear c12; try clear c12b0; try clear c14; try clear c14b0; try clear c15; try clear c15b0; try clear c16; try clear c16b0; try clear c17; try clear c17b0; try clear c19; try clear c19b0; try clear c20; try clear c20b0; try clear c21; try clear c21b0; try clear c22; try clear c22b0; try clear p22; try clear q22; try clear hx22; try clear hx220_0; try clear hx221_0; try clear hx221_1; try clear hx221_2; try clear hx221_3; try clear hx221_4
              try clear hx222_0; try clear hx223_0; try clear hx223_1; try clear hx223_2; try clear hx223_3; try clear hx223_4; try clear p2; try clear p220; try clear p221; try clear p222; try clear p223; try clear p6; try clear q220; try clear q221; try clear q222; try clear q223
              obtain ⟨kq, x57_12, rfl, HA, HJ12, HB⟩ := hcut
              cases kq with
              | zero => exact absurd HA.out (by simp [spec_Stretched.j3])
              | succ kj12 =>
               have H := HA.out; clear HA
               simp only [spec_Stretched.j3] at H
               by_cases c23 : x57_12 = true
               · subst c23
                 have H1 : (spec_Stretched.l0 kj12 l0 l1 a2 x7_3 (wrap64 (x8_2 + 1))) = some r := by rw [if_pos rfl] at H; exact H
                 clear H; have H := H1; clear H1
                 have H' := Aside0.mk H
                 clear H; go_wp2
                 repeat (go_quiet (fail); try go_wp2)
                 go_roundg kj12
                 case measure => have := HJ3.out; have := HK2.out; have := HK3.out; have := HJ12.out; omega
                 case rel => exact ⟨(x7_3), (wrap64 (x8_2 + 1)), nS, nS, H', ⟨by have := HJ3.out; have := HK2.out; have := HK3.out; have := HJ12.out; omega⟩, ⟨nH HB.out⟩⟩
               · replace c23 := Bool.eq_false_iff.mpr c23
                 subst c23
                 have H1 : (if 0 ≤ x10_3 then (if x10_3 < (l1.length : Int) then (if 0 ≤ (rd l1 x10_3) then (if (rd l1 x10_3) < (l0.length : Int) then (if (wrap64 ((wrap64 (x9_3 + ((rd_T52 l0 (rd l1 x10_3)).f3))) - ((rd_T52 l0 (rd l1 x10_3)).f2))) > x7_3 then (spec_Stretched.l1 kj12 l0 l1 a2 (wrap64 ((wrap64 (x9_3 + ((rd_T52 l0 (rd l1 x10_3)).f3))) - ((rd_T52 l0 (rd l1 x10_3)).f2))) x8_2 (wrap64 ((wrap64 (x9_3 + ((rd_T52 l0 (rd l1 x10_3)).f3))) - ((rd_T52 l0 (rd l1 x10_3)).f2))) (wrap64 (x10_3 + 1))) else (spec_Stretched.l1 kj12 l0 l1 a2 x7_3 x8_2 (wrap64 ((wrap64 (x9_3 + ((rd_T52 l0 (rd l1 x10_3)).f3))) - ((rd_T52 l0 (rd l1 x10_3)).f2))) (wrap64 (x10_3 + 1)))) else (none)) else (none)) else (none)) else (none)) = some r := by rw [if_neg (show ¬ (false = true) by decide)] at H; exact H
                 clear H; have H := H1; clear H1
                 by_cases c24 : 0 ≤ x10_3
                 rotate_left
                 · (rw [if_neg c24] at H; exact absurd H (by simp))
                 rw [if_pos c24] at H
                 have c24b0 : decide (0 ≤ x10_3) = true := decide_eq_true c24
                 clear c24
                 by_cases c25 : x10_3 < (l1.length : Int)
                 rotate_left
                 · (rw [if_neg c25] at H; exact absurd H (by simp))
                 rw [if_pos c25] at H
                 have c25b0 : decide (x10_3 < (l1.length : Int)) = true := decide_eq_true c25
                 clear c25
                 by_cases c26 : 0 ≤ (rd l1 x10_3)
                 rotate_left
                 · (rw [if_neg c26] at H; exact absurd H (by simp))
                 rw [if_pos c26] at H
                 have c26b0 : decide (0 ≤ (rd l1 x10_3)) = true := decide_eq_true c26
                 clear c26
                 by_cases c27 : (rd l1 x10_3) < (l0.length : Int)
                 rotate_left
                 · (rw [if_neg c27] at H; exact absurd H (by simp))
                 rw [if_pos c27] at H
                 have c27b0 : decide ((rd l1 x10_3) < (l0.length : Int)) = true := decide_eq_true c27
                 clear c27
                 by_cases c28 : (wrap64 ((wrap64 (x9_3 + ((rd_T52 l0 (rd l1 x10_3)).f3))) - ((rd_T52 l0 (rd l1 x10_3)).f2))) > x7_3
                 · rw [if_pos c28] at H
                   have c28b0 : decide (x7_3 < (wrap64 ((wrap64 (x9_3 + ((rd_T52 l0 (rd l1 x10_3)).f3))) - ((rd_T52 l0 (rd l1 x10_3)).f2)))) = true := decide_eq_true c28
                   clear c28
                   have H' := Aside0.mk H
                   clear H
                   have p224 : 0 ≤ (x10_3 : Int) := of_decide_eq_true nQ
                   have q224 : x10_3 < (l1.length : Int) := of_decide_eq_true nQ
                   obtain ⟨ad224, e224, hx224_0⟩ := Kd.at_int HR1.out x10_3 p224 q224
                   cases e224
                   replace hx224_0 := (HB.out.cell (World.block_lt_of_cell? w _ hx224_0)).trans hx224_0
                   replace p224 := eq_true p224; replace q224 := eq_true q224
                   have p225 : 0 ≤ ((rd l1 x10_3) : Int) := of_decide_eq_true nQ
                   have q225 : (rd l1 x10_3) < (l0.length : Int) := of_decide_eq_true nQ
                   obtain ⟨ad225, e225, hx225_0, hx225_1, hx225_2, hx225_3, hx225_4⟩ := at_T52 HR0.out (rd l1 x10_3) p225 q225
                   cases e225
                   replace hx225_0 := (HB.out.cell (World.block_lt_of_cell? w _ hx225_0)).trans hx225_0
                   replace hx225_1 := (HB.out.cell (World.block_lt_of_cell? w _ hx225_1)).trans hx225_1
                   replace hx225_2 := (HB.out.cell (World.block_lt_of_cell? w _ hx225_2)).trans hx225_2
                   replace hx225_3 := (HB.out.cell (World.block_lt_of_cell? w _ hx225_3)).trans hx225_3
                   replace hx225_4 := (HB.out.cell (World.block_lt_of_cell? w _ hx225_4)).trans hx225_4
                   replace p225 := eq_true p225; replace q225 := eq_true q225
                   have p226 : 0 ≤ (x10_3 : Int) := of_decide_eq_true nQ
                   have q226 : x10_3 < (l1.length : Int) := of_decide_eq_true nQ
                   obtain ⟨ad226, e226, hx226_0⟩ := Kd.at_int HR1.out x10_3 p226 q226
                   obtain rfl : ad224 = ad226 := (by injection e226)
                   replace hx226_0 := (HB.out.cell (World.block_lt_of_cell? w _ hx226_0)).trans hx226_0
                   replace p226 := eq_true p226; replace q226 := eq_true q226
                   have p227 : 0 ≤ ((rd l1 x10_3) : Int) := of_decide_eq_true nQ
                   have q227 : (rd l1 x10_3) < (l0.length : Int) := of_decide_eq_true nQ
                   obtain ⟨ad227, e227, hx227_0, hx227_1, hx227_2, hx227_3, hx227_4⟩ := at_T52 HR0.out (rd l1 x10_3) p227 q227
                   obtain rfl : ad225 = ad227 := (by injection e227)
                   replace hx227_0 := (HB.out.cell (World.block_lt_of_cell? w _ hx227_0)).trans hx227_0
                   replace hx227_1 := (HB.out.cell (World.block_lt_of_cell? w _ hx227_1)).trans hx227_1
                   replace hx227_2 := (HB.out.cell (World.block_lt_of_cell? w _ hx227_2)).trans hx227_2
                   replace hx227_3 := (HB.out.cell (World.block_lt_of_cell? w _ hx227_3)).trans hx227_3
                   replace hx227_4 := (HB.out.cell (World.block_lt_of_cell? w _ hx227_4)).trans hx227_4
                   replace p227 := eq_true p227; replace q227 := eq_true q227; go_wp2
                   repeat (go_quiet (fail); try go_wp2)
                   go_roundg kj12
                   case measure => have := HJ3.out; have := HK2.out; have := HK3.out; have := HJ12.out; omega
                   case rel => exact ⟨(wrap64 ((wrap64 (x9_3 + ((rd_T52 l0 (rd l1 x10_3)).f3))) - ((rd_T52 l0 (rd l1 x10_3)).f2))), (wrap64 ((wrap64 (x9_3 + ((rd_T52 l0 (rd l1 x10_3)).f3))) - ((rd_T52 l0 (rd l1 x10_3)).f2))), (wrap64 (x10_3 + 1)), nS, nS, nS, H', ⟨by have := HJ3.out; have := HK2.out; have := HK3.out; have := HJ12.out; omega⟩, ⟨nH HB.out⟩⟩
                 · rw [if_neg c28] at H
                   have c28b0 : decide (x7_3 < (wrap64 ((wrap64 (x9_3 + ((rd_T52 l0 (rd l1 x10_3)).f3))) - ((rd_T52 l0 (rd l1 x10_3)).f2)))) = false := decide_eq_false c28
                   clear c28
                   have H' := Aside0.mk H
                   clear H
                   have p224 : 0 ≤ (x10_3 : Int) := of_decide_eq_true nQ
                   have q224 : x10_3 < (l1.length : Int) := of_decide_eq_true nQ
                   obtain ⟨ad224, e224, hx224_0⟩ := Kd.at_int HR1.out x10_3 p224 q224
                   cases e224
                   replace hx224_0 := (HB.out.cell (World.block_lt_of_cell? w _ hx224_0)).trans hx224_0
                   replace p224 := eq_true p224; replace q224 := eq_true q224
                   have p225 : 0 ≤ ((rd l1 x10_3) : Int) := of_decide_eq_true nQ
                   have q225 : (rd l1 x10_3) < (l0.length : Int) := of_decide_eq_true nQ
                   obtain ⟨ad225, e225, hx225_0, hx225_1, hx225_2, hx225_3, hx225_4⟩ := at_T52 HR0.out (rd l1 x10_3) p225 q225
                   cases e225
                   replace hx225_0 := (HB.out.cell (World.block_lt_of_cell? w _ hx225_0)).trans hx225_0
                   replace hx225_1 := (HB.out.cell (World.block_lt_of_cell? w _ hx225_1)).trans hx225_1
                   replace hx225_2 := (HB.out.cell (World.block_lt_of_cell? w _ hx225_2)).trans hx225_2
                   replace hx225_3 := (HB.out.cell (World.block_lt_of_cell? w _ hx225_3)).trans hx225_3
                   replace hx225_4 := (HB.out.cell (World.block_lt_of_cell? w _ hx225_4)).trans hx225_4
                   replace p225 := eq_true p225; replace q225 := eq_true q225
                   have p226 : 0 ≤ (x10_3 : Int) := of_decide_eq_true nQ
                   have q226 : x10_3 < (l1.length : Int) := of_decide_eq_true nQ
                   obtain ⟨ad226, e226, hx226_0⟩ := Kd.at_int HR1.out x10_3 p226 q226
                   obtain rfl : ad224 = ad226 := (by injection e226)
                   replace hx226_0 := (HB.out.cell (World.block_lt_of_cell? w _ hx226_0)).trans hx226_0
                   replace p226 := eq_true p226; replace q226 := eq_true q226
                   have p227 : 0 ≤ ((rd l1 x10_3) : Int) := of_decide_eq_true nQ
                   have q227 : (rd l1 x10_3) < (l0.length : Int) := of_decide_eq_true nQ
                   obtain ⟨ad227, e227, hx227_0, hx227_1, hx227_2, hx227_3, hx227_4⟩ := at_T52 HR0.out (rd l1 x10_3) p227 q227
                   obtain rfl : ad225 = ad227 := (by injection e227)
                   replace hx227_0 := (HB.out.cell (World.block_lt_of_cell? w _ hx227_0)).trans hx227_0
                   replace hx227_1 := (HB.out.cell (World.block_lt_of_cell? w _ hx227_1)).trans hx227_1
                   replace hx227_2 := (HB.out.cell (World.block_lt_of_cell? w _ hx227_2)).trans hx227_2
                   replace hx227_3 := (HB.out.cell (World.block_lt_of_cell? w _ hx227_3)).trans hx227_3
                   replace hx227_4 := (HB.out.cell (World.block_lt_of_cell? w _ hx227_4)).trans hx227_4
                   replace p227 := eq_true p227; replace q227 := eq_true q227; go_wp2
                   repeat (go_quiet (fail); try go_wp2)
                   go_roundg kj12
                   case measure => have := HJ3.out; have := HK2.out; have := HK3.out; have := HJ12.out; omega
                   case rel => exact ⟨(x7_3), (wrap64 ((wrap64 (x9_3 + ((rd_T52 l0 (rd l1 x10_3)).f3))) - ((rd_T52 l0 (rd l1 x10_3)).f2))), (wrap64 (x10_3 + 1)), nS, nS, nS, H', ⟨by have := HJ3.out; have := HK2.out; have := HK3.out; have := HJ12.out; omega⟩, ⟨nH HB.out⟩⟩
           · rw [if_neg c12] at H
             have c12b0 : decide (x10_3 < (l1.length : Int)) = false := decide_eq_false c12
             clear c12
             have H' := Aside0.mk H
             clear H; go_wp2
             repeat (go_quiet (fail); try go_wp2)
             go_roundg k3
             case measure => have := HJ3.out; have := HK2.out; have := HK3.out; omega
             case rel => exact ⟨(x7_3), (wrap64 (x8_2 + 1)), nS, nS, H', ⟨by have := HJ3.out; have := HK2.out; have := HK3.out; omega⟩, ⟨nH HB.out⟩⟩
       · rw [if_neg c11] at H
         have c11b0 : decide (x8_2 < (l1.length : Int)) = false := decide_eq_false c11
         clear c11; obtain rfl := Option.some.inj H; go_wp2
         repeat (go_quiet (fail); try go_wp2)
         go_ret
         exact ⟨by first | rfl | (simp [errW_none, errW_some] <;> rfl) | (simp [*, errW_none, errW_some] <;> first | rfl | (simp [wrap64]; done)), nH HB.out⟩
end Go.Proofs.Ytnamdbnnijfniaa.P
