/- Contracts of functions, each with its plain Lean function. -/
import Derived.Test.YtdpjoblnjjkbfaaDoorNe
import Derived.Test.YtdpjoblnjjkbfaaDoorNc
import Derived.Test.YtdpjoblnjjkbfaaDoorS2
import Derived.Test.YtdpjoblnjjkbfaaDoorF8
import Derived.Test.YtdpjoblnjjkbfaaDoorPx0
import Derived.Test.YtdpjoblnjjkbfaaDoorPx7
import Derived.Test.YtdpjoblnjjkbfaaDoorPx9
import Derived.Test.YtdpjoblnjjkbfaaDoorPx10
import Derived.Test.YtdpjoblnjjkbfaaDoorPx18
import Derived.Test.YtdpjoblnjjkbfaaDoorPx20
import Derived.Test.YtdpjoblnjjkbfaaDoorPx22
import Derived.Test.YtdpjoblnjjkbfaaDoorPx29
import Derived.Test.YtdpjoblnjjkbfaaDoorPx30
namespace Go.Proofs.YtdpjoblnjjkbfaaDoor.P
open Go.RowKit Go.Proofs.YtdpjoblnjjkbfaaDoorW.PrintWords Go.Proofs.YtdpjoblnjjkbfaaDoorW.PrintLast Go.Proofs.YtdpjoblnjjkbfaaDoorW.PrintMore
attribute [local go_sem] max2_int min2_int max_two min_two max_three min_three max_four min_four   -- for this text's walks alone
set_option linter.unusedVariables false
set_option linter.unusedSimpArgs false
/-! ### laws_FnJourney: function 4 -/
theorem laws_FnJourney.mono_l : ∀ k, (∀ y0 y1 y2 y3 y4 y5 y6 y7 y8, LeO (laws_FnJourney.j0 k y0 y1 y2 y3 y4 y5 y6 y7 y8) (laws_FnJourney.j0 (k + 1) y0 y1 y2 y3 y4 y5 y6 y7 y8)) ∧ (∀ y0 y1 y2 y3 y4 y5 y6 y7, LeO (laws_FnJourney.j1 k y0 y1 y2 y3 y4 y5 y6 y7) (laws_FnJourney.j1 (k + 1) y0 y1 y2 y3 y4 y5 y6 y7)) ∧ (∀ y0 y1 y2 y3 y4 y5 y6 y7, LeO (laws_FnJourney.j2 k y0 y1 y2 y3 y4 y5 y6 y7) (laws_FnJourney.j2 (k + 1) y0 y1 y2 y3 y4 y5 y6 y7)) ∧ (∀ y0 y1 y2 y3 y4 y5 y6 y7, LeO (laws_FnJourney.j3 k y0 y1 y2 y3 y4 y5 y6 y7) (laws_FnJourney.j3 (k + 1) y0 y1 y2 y3 y4 y5 y6 y7)) ∧ (∀ y0 y1 y2 y3 y4 y5 y6 y7, LeO (laws_FnJourney.l0 k y0 y1 y2 y3 y4 y5 y6 y7) (laws_FnJourney.l0 (k + 1) y0 y1 y2 y3 y4 y5 y6 y7)) ∧ (∀ y0 y1 y2 y3 y4 y5 y6 y7 y8 y9, LeO (laws_FnJourney.l1 k y0 y1 y2 y3 y4 y5 y6 y7 y8 y9) (laws_FnJourney.l1 (k + 1) y0 y1 y2 y3 y4 y5 y6 y7 y8 y9)) ∧ (∀ y0 y1 y2 y3 y4 y5 y6 y7 y8 y9 y10, LeO (laws_FnJourney.l2 k y0 y1 y2 y3 y4 y5 y6 y7 y8 y9 y10) (laws_FnJourney.l2 (k + 1) y0 y1 y2 y3 y4 y5 y6 y7 y8 y9 y10))
 | 0 => ⟨fun _ _ _ _ _ _ _ _ _ r h => by simp [laws_FnJourney.j0] at h, fun _ _ _ _ _ _ _ _ r h => by simp [laws_FnJourney.j1] at h, fun _ _ _ _ _ _ _ _ r h => by simp [laws_FnJourney.j2] at h, fun _ _ _ _ _ _ _ _ r h => by simp [laws_FnJourney.j3] at h, fun _ _ _ _ _ _ _ _ r h => by simp [laws_FnJourney.l0] at h, fun _ _ _ _ _ _ _ _ _ _ r h => by simp [laws_FnJourney.l1] at h, fun _ _ _ _ _ _ _ _ _ _ _ r h => by simp [laws_FnJourney.l2] at h⟩
 | k + 1 => by
  obtain ⟨ih0, ih1, ih2, ih3, ih4, ih5, ih6⟩ := laws_FnJourney.mono_l k
  refine ⟨?_, ?_, ?_, ?_, ?_, ?_, ?_⟩
  all_goals intros
  all_goals first | unfold laws_FnJourney.j0 | unfold laws_FnJourney.j1 | unfold laws_FnJourney.j2 | unfold laws_FnJourney.j3 | unfold laws_FnJourney.l0 | unfold laws_FnJourney.l1 | unfold laws_FnJourney.l2
  all_goals
   repeat' first
   | (with_reducible exact ih0 _ _ _ _ _ _ _ _ _)
   | (with_reducible exact ih1 _ _ _ _ _ _ _ _)
   | (with_reducible exact ih2 _ _ _ _ _ _ _ _)
   | (with_reducible exact ih3 _ _ _ _ _ _ _ _)
   | (with_reducible exact ih4 _ _ _ _ _ _ _ _)
   | (with_reducible exact ih5 _ _ _ _ _ _ _ _ _ _)
   | (with_reducible exact ih6 _ _ _ _ _ _ _ _ _ _ _)
   | (with_reducible exact impl_Journey.mono _ _ _ _ _ _ _)
   | (with_reducible exact impl_JourneyText.mono _ _ _ _)
   | (with_reducible exact impl_LegsOk.mono _ _ _ _)
   | (with_reducible exact impl_Soonest.mono _ _ _ _ _ _ _)
   | (with_reducible exact spec_DrawRightQuestion.mono _ _)
   | (with_reducible exact spec_LegsOk.mono _ _ _ _)
   | (with_reducible exact spec_Soonest.mono _ _ _ _ _ _ _)
   | (with_reducible exact LeO.refl _)
   | (with_reducible exact LeO.none _)
   | (with_reducible refine LeO.ite ?_ ?_)
   | (with_reducible refine LeO.bind ?_ (fun _ => ?_))
   | exact ih0 _ _ _ _ _ _ _ _ _
   | exact ih1 _ _ _ _ _ _ _ _
   | exact ih2 _ _ _ _ _ _ _ _
   | exact ih3 _ _ _ _ _ _ _ _
   | exact ih4 _ _ _ _ _ _ _ _
   | exact ih5 _ _ _ _ _ _ _ _ _ _
   | exact ih6 _ _ _ _ _ _ _ _ _ _ _
   | exact impl_Journey.mono _ _ _ _ _ _ _
   | exact impl_JourneyText.mono _ _ _ _
   | exact impl_LegsOk.mono _ _ _ _
   | exact impl_Soonest.mono _ _ _ _ _ _ _
   | exact spec_DrawRightQuestion.mono _ _
   | exact spec_LegsOk.mono _ _ _ _
   | exact spec_Soonest.mono _ _ _ _ _ _ _
   | exact LeO.none _
   | refine LeO.ite ?_ ?_
   | refine LeO.bind ?_ (fun _ => ?_)
theorem laws_FnJourney.mono : ∀ a0 k, LeO (laws_FnJourney.f k a0) (laws_FnJourney.f (k + 1) a0) := by
 intro a0 k
 obtain ⟨ih0, ih1, ih2, ih3, ih4, ih5, ih6⟩ := laws_FnJourney.mono_l k
 unfold laws_FnJourney.f
 repeat' first
  | (with_reducible exact ih0 _ _ _ _ _ _ _ _ _)
  | (with_reducible exact ih1 _ _ _ _ _ _ _ _)
  | (with_reducible exact ih2 _ _ _ _ _ _ _ _)
  | (with_reducible exact ih3 _ _ _ _ _ _ _ _)
  | (with_reducible exact ih4 _ _ _ _ _ _ _ _)
  | (with_reducible exact ih5 _ _ _ _ _ _ _ _ _ _)
  | (with_reducible exact ih6 _ _ _ _ _ _ _ _ _ _ _)
  | (with_reducible exact impl_Journey.mono _ _ _ _ _ _ _)
  | (with_reducible exact impl_JourneyText.mono _ _ _ _)
  | (with_reducible exact impl_LegsOk.mono _ _ _ _)
  | (with_reducible exact impl_Soonest.mono _ _ _ _ _ _ _)
  | (with_reducible exact spec_DrawRightQuestion.mono _ _)
  | (with_reducible exact spec_LegsOk.mono _ _ _ _)
  | (with_reducible exact spec_Soonest.mono _ _ _ _ _ _ _)
  | (with_reducible exact LeO.refl _)
  | (with_reducible exact LeO.none _)
  | (with_reducible refine LeO.ite ?_ ?_)
  | (with_reducible refine LeO.bind ?_ (fun _ => ?_))
  | exact ih0 _ _ _ _ _ _ _ _ _
  | exact ih1 _ _ _ _ _ _ _ _
  | exact ih2 _ _ _ _ _ _ _ _
  | exact ih3 _ _ _ _ _ _ _ _
  | exact ih4 _ _ _ _ _ _ _ _
  | exact ih5 _ _ _ _ _ _ _ _ _ _
  | exact ih6 _ _ _ _ _ _ _ _ _ _ _
  | exact impl_Journey.mono _ _ _ _ _ _ _
  | exact impl_JourneyText.mono _ _ _ _
  | exact impl_LegsOk.mono _ _ _ _
  | exact impl_Soonest.mono _ _ _ _ _ _ _
  | exact spec_DrawRightQuestion.mono _ _
  | exact spec_LegsOk.mono _ _ _ _
  | exact spec_Soonest.mono _ _ _ _ _ _ _
  | exact LeO.none _
  | refine LeO.ite ?_ ?_
  | refine LeO.bind ?_ (fun _ => ?_)
def laws_FnJourney.T13 : Bool × List (List Nat × List Nat) := (true, [([], []), ([], []), ([1], [1]), ([2], [2]), ([3], [3]), ([0, 4], [0, 4]), ([5], [5]), ([6], [6]), ([], []), ([8], [8]), ([9], [9]), ([10], [10]), ([7, 11], [7, 11]), ([12], [12]), ([], []), ([14, 13, 0, 1, 2, 3, 4, 5, 6, 7, 8, 9, 10, 11, 12, 13, 14], [13, 14])])
def laws_FnJourney.B13 : List Nat := [0, 0, 2, 6, 14, 31, 63, 127, 0, 256, 768, 1792, 4095, 8191, 0, 32767]
theorem laws_FnJourney.tab13 : rtab .any (opsOf Tryd.f4 13) = laws_FnJourney.T13 := by kernel_rfl
theorem laws_FnJourney.bits13 : waitsOk laws_FnJourney.T13.2 laws_FnJourney.B13 = true := by kernel_rfl
def laws_FnJourney.T14 : Bool × List (List Nat × List Nat) := (true, [([], []), ([], []), ([], []), ([2], [2]), ([3], [3]), ([1, 4], [1, 4]), ([5], [5]), ([6], [6]), ([0, 7], [0, 7]), ([8], [8]), ([9], [9]), ([], []), ([], []), ([12], [12]), ([13], [13]), ([11, 14], [11, 14]), ([15], [15]), ([16], [16]), ([10, 17], [10, 17]), ([18], [18]), ([], []), ([20, 19, 0, 1, 2, 3, 4, 5, 6, 7, 8, 9, 10, 11, 12, 13, 14, 15, 16, 17, 18, 19, 20], [19, 20])])
def laws_FnJourney.B14 : List Nat := [0, 0, 0, 4, 12, 30, 62, 126, 255, 511, 1023, 0, 0, 4096, 12288, 30720, 63488, 129024, 262143, 524287, 0, 2097151]
theorem laws_FnJourney.tab14 : rtab .any (opsOf Tryd.f4 14) = laws_FnJourney.T14 := by kernel_rfl
theorem laws_FnJourney.bits14 : waitsOk laws_FnJourney.T14.2 laws_FnJourney.B14 = true := by kernel_rfl
set_option maxHeartbeats 8000000 in
set_option maxRecDepth 100000 in
theorem laws_FnJourney.calls (k : Nat) (A0 : Option Addr) (c0 : Nat) (l0 : List Int) (r : Bool) (w : World) (hr0 : Kd.C (Kd.int .u8) w A0 l0.length l0) (hc0 : l0.length ≤ c0) (ht : Aside0 (r = true)) (hT : Tb w) (h : laws_FnJourney.f k l0 = some r) :
 Calls Tryd.prog 4 #[.slice A0 l0.length c0] w fun e w' => e = .returned (.bool r) ∧ Below w.heap.size w w' := by
 have HTB := aM hT
 clear hT; have hu43 := Tryd.underlying43
 have HR0 := aM hr0
 have HC0 := aM hc0
 clear hr0 hc0
 have HB := aM (Below.refl w.heap.size w)
 have H : ((laws_big.f l0).bind fun t378 => (if t378 = true then (some true) else ((spec_DrawRightQuestion.f k l0).bind fun bt379 => ((laws_at.f l0 5).bind fun t386 => ((impl_Soonest.f k bt379.1 bt379.2.1 bt379.2.2.1 bt379.2.2.2.1 bt379.2.2.2.2 (wrap64 (1 + (Int.tmod t386 5)))).bind fun t387 => ((impl_Journey.f k bt379.1 bt379.2.1 bt379.2.2.1 bt379.2.2.2.1 bt379.2.2.2.2 (wrap64 (1 + (Int.tmod t386 5)))).bind fun t388 => ((spec_Soonest.f k bt379.1 bt379.2.1 bt379.2.2.1 bt379.2.2.2.1 bt379.2.2.2.2 (wrap64 (1 + (Int.tmod t386 5)))).bind fun t391 => (if t387 = t391 then (if t387 < 0 then (laws_FnJourney.j0 k bt379.1 bt379.2.1 bt379.2.2.1 bt379.2.2.2.1 bt379.2.2.2.2 (wrap64 (1 + (Int.tmod t386 5))) t387 t388 true) else (laws_FnJourney.j0 k bt379.1 bt379.2.1 bt379.2.2.1 bt379.2.2.2.1 bt379.2.2.2.2 (wrap64 (1 + (Int.tmod t386 5))) t387 t388 (bt379.2.1 == bt379.2.2.1))) else (some false))))))))) = some r := h
 clear h
 obtain ⟨t378, A20, H⟩ := Option.bind_eq_some_iff.mp H
 have A2 := aM A20
 clear A20
 by_cases c3 : t378 = true
 · subst c3
   rw [if_pos rfl] at H; obtain rfl := Option.some.inj H
   go_enter Tryd.func4, Tryd.ntmps4
   go_wp2_with (first | ((with_reducible refine gate_callee (f := 13) rfl ?_); refine goesL_ (some 18) rfl rfl Tryd.func13 (by kernel_rfl) rfl #[.slice A0 l0.length c0] rfl nM ?_; (with_reducible refine (laws_big.calls _ _ l0 true _ ?side1 ?side2 A2.out).mono ?_); (case side1 => repeat (first | exact HR0.out | (with_reducible refine Kd.C_alloc ?_ _) | (with_reducible refine Kd.C_drewN ?_ _) | (with_reducible refine Kd.C_drew ?_))); (case side2 => exact HC0.out); rintro e w' ⟨rfl, ⟨nd, rfl⟩⟩; refine ⟨_, rfl, ?_⟩))
   go_ret
   exact ⟨by first | rfl | (simp [errW_none, errW_some] <;> rfl) | (simp [*, errW_none, errW_some] <;> first | rfl | (simp [wrap64]; done)), nH HB.out⟩
 · replace c3 := Bool.eq_false_iff.mpr c3
   subst c3
   rw [if_neg nN] at H
   replace H := Option.bind_eq_some_iff.mp H
   obtain ⟨⟨t379, t380, t381, t382, t383⟩, A40, H⟩ := H
   replace H : ((laws_at.f l0 5).bind fun t386 => ((impl_Soonest.f k t379 t380 t381 t382 t383 (wrap64 (1 + (Int.tmod t386 5)))).bind fun t387 => ((impl_Journey.f k t379 t380 t381 t382 t383 (wrap64 (1 + (Int.tmod t386 5)))).bind fun t388 => ((spec_Soonest.f k t379 t380 t381 t382 t383 (wrap64 (1 + (Int.tmod t386 5)))).bind fun t391 => (if t387 = t391 then (if t387 < 0 then (laws_FnJourney.j0 k t379 t380 t381 t382 t383 (wrap64 (1 + (Int.tmod t386 5))) t387 t388 true) else (laws_FnJourney.j0 k t379 t380 t381 t382 t383 (wrap64 (1 + (Int.tmod t386 5))) t387 t388 (t380 == t381))) else (some false)))))) = some r := H
   have A4 := aM A40
   clear A40
   obtain ⟨t386, A50, H⟩ := Option.bind_eq_some_iff.mp H
   have A5 := aM A50
   clear A50
   obtain ⟨t387, A60, H⟩ := Option.bind_eq_some_iff.mp H
   have A6 := aM A60
   clear A60
   obtain ⟨t388, A70, H⟩ := Option.bind_eq_some_iff.mp H
   have A7 := aM A70
   clear A70
   obtain ⟨t391, A80, H⟩ := Option.bind_eq_some_iff.mp H
   have A8 := aM A80
   clear A80
   by_cases c9 : t387 = t391
   · rw [if_pos c9] at H
     have c9b0 : (t387 == t391) = true := beq_iff_eq.mpr c9
     have c9b1 : (t387 != t391) = false := bne_eq_false_iff_eq.mpr c9
     clear c9
     have HC10 := aM H
     clear H
     go_enter Tryd.func4, Tryd.ntmps4
     go_upto_region 9 with (first | ((with_reducible refine gate_callee (f := 13) rfl ?_); refine goesL_ (some 18) rfl rfl Tryd.func13 (by kernel_rfl) rfl #[.slice A0 l0.length c0] rfl nM ?_; (with_reducible refine (laws_big.calls _ _ l0 false _ ?side1 ?side2 A2.out).mono ?_); (case side1 => repeat (first | exact HR0.out | (with_reducible refine Kd.C_alloc ?_ _) | (with_reducible refine Kd.C_drewN ?_ _) | (with_reducible refine Kd.C_drew ?_))); (case side2 => exact HC0.out); rintro e w' ⟨rfl, ⟨nd, rfl⟩⟩; refine ⟨_, rfl, ?_⟩) | ((with_reducible refine gate_callee (f := 14) rfl ?_); refine goesL_ (some 21) rfl rfl Tryd.func14 (by kernel_rfl) rfl #[.slice A0 l0.length c0] rfl nM ?_; (with_reducible refine (spec_DrawRightQuestion.calls k _ _ l0 t379 t380 t381 t382 t383 _ ?side1 ?side2 A4.out).mono ?_); (case side1 => repeat (first | exact HR0.out | (with_reducible refine Kd.C_alloc ?_ _) | (with_reducible refine Kd.C_drewN ?_ _) | (with_reducible refine Kd.C_drew ?_))); (case side2 => exact HC0.out); rintro e w11 ⟨v384, rfl, ho0, hb⟩; refine ⟨_, rfl, ?_⟩; have n_ := aA (Kd.S_lower ho0 (below_size (nH HB.out))) <| aM (below_step (nH HB.out) hb); clear HB; obtain ⟨HO385, HB⟩ := n_; (try clear hb); (try clear hb2); (try clear hk); (try clear hi); (try clear ho0)) | ((with_reducible refine gate_callee (f := 15) rfl ?_); refine goesL_ (some 28) rfl rfl Tryd.func15 (by kernel_rfl) rfl #[.slice A0 l0.length c0, .int .i64 5] rfl nM ?_; (with_reducible refine (laws_at.calls _ _ l0 5 t386 _ ?side1 ?side2 A5.out).mono ?_); (case side1 => exact nD HR0.out HB.out); (case side2 => exact HC0.out); rintro e w' ⟨rfl, ⟨nd, rfl⟩⟩; refine ⟨_, rfl, ?_⟩; obtain ⟨Ao12, co12, eo12⟩ := Kd.S_slice HO385.out; subst eo12) | ((with_reducible refine gate_callee (f := 16) rfl ?_); refine goesL_ (some 37) rfl rfl Tryd.func16 (by kernel_rfl) rfl #[.slice Ao12 t379.length co12, .int .i64 t380, .int .i64 t381, .int .i64 t382, .int .i64 t383, .int .i64 (wrap64 (1 + (Int.tmod t386 5)))] rfl nM ?_; (with_reducible refine (impl_Soonest.calls k _ _ t379 t380 t381 t382 t383 (wrap64 (1 + (Int.tmod t386 5))) t387 _ ?side1 ?side2 A6.out).mono ?_); (case side1 => repeat (first | exact (Kd.S_reads' HO385.out).2.2 | (with_reducible refine Kd.C_alloc ?_ _) | (with_reducible refine Kd.C_drewN ?_ _) | (with_reducible refine Kd.C_drew ?_))); (case side2 => exact (Kd.S_reads' HO385.out).2.1); rintro e w13 ⟨rfl, hb⟩; refine ⟨_, rfl, ?_⟩; have n_ := aA (Kd.S_below (by (with_reducible repeat (first | apply Kd.S_alloc | apply Kd.S_drewN | apply Kd.S_drew)); exact HO385.out) hb) <| aM (below_step (nH HB.out) hb); clear HO385 HB; obtain ⟨HO385, HB⟩ := n_; (try clear hb); (try clear hb2); (try clear hk); (try clear hi)) | ((with_reducible refine gate_callee (f := 17) rfl ?_); refine goesL_ (some 44) rfl rfl Tryd.func17 (by kernel_rfl) rfl #[.slice Ao12 t379.length co12, .int .i64 t380, .int .i64 t381, .int .i64 t382, .int .i64 t383, .int .i64 (wrap64 (1 + (Int.tmod t386 5)))] rfl nM ?_; (with_reducible refine (impl_Journey.calls k _ _ t379 t380 t381 t382 t383 (wrap64 (1 + (Int.tmod t386 5))) t388 _ ?side1 ?side2 A7.out).mono ?_); (case side1 => repeat (first | exact (Kd.S_reads' HO385.out).2.2 | (with_reducible refine Kd.C_alloc ?_ _) | (with_reducible refine Kd.C_drewN ?_ _) | (with_reducible refine Kd.C_drew ?_))); (case side2 => exact (Kd.S_reads' HO385.out).2.1); rintro e w14 ⟨v389, rfl, ho0, hb⟩; refine ⟨_, rfl, ?_⟩; have n_ := aA (Kd.S_below (by (with_reducible repeat (first | apply Kd.S_alloc | apply Kd.S_drewN | apply Kd.S_drew)); exact HO385.out) hb) <| aA (Kd.R_lower ho0 (below_size (nH HB.out))) <| aM (below_step (nH HB.out) hb); clear HO385 HB; obtain ⟨HO385, HO390, HB⟩ := n_; (try clear hb); (try clear hb2); (try clear hk); (try clear hi); (try clear ho0)) | ((with_reducible refine gate_callee (f := 18) rfl ?_); refine goesL_ (some 52) rfl rfl Tryd.func18 (by kernel_rfl) rfl #[.slice Ao12 t379.length co12, .int .i64 t380, .int .i64 t381, .int .i64 t382, .int .i64 t383, .int .i64 (wrap64 (1 + (Int.tmod t386 5)))] rfl nM ?_; (with_reducible refine (spec_Soonest.calls k _ _ t379 t380 t381 t382 t383 (wrap64 (1 + (Int.tmod t386 5))) t391 _ ?side1 ?side2 A8.out).mono ?_); (case side1 => repeat (first | exact (Kd.S_reads' HO385.out).2.2 | (with_reducible refine Kd.C_alloc ?_ _) | (with_reducible refine Kd.C_drewN ?_ _) | (with_reducible refine Kd.C_drew ?_))); (case side2 => exact (Kd.S_reads' HO385.out).2.1); rintro e w15 ⟨rfl, hb⟩; refine ⟨_, rfl, ?_⟩; have n_ := aA (Kd.S_below (by (with_reducible repeat (first | apply Kd.S_alloc | apply Kd.S_drewN | apply Kd.S_drew)); exact HO385.out) hb) <| aA (Kd.R_below (nR HO390.out) hb) <| aM (below_step (nH HB.out) hb); clear HO385 HO390 HB; obtain ⟨HO385, HO390, HB⟩ := n_; (try clear hb); (try clear hb2); (try clear hk); (try clear hi)))
     (try simp only [Act.put, List.setIfInBounds_toArray, List.set_cons_zero, List.set_cons_succ])
     go_cut [60] (fun v60 wc => ∃ (kq : Nat) (x60_9 : Bool), v60 = .bool x60_9 ∧ Aside0 (laws_FnJourney.j0 kq t379 t380 t381 t382 t383 (wrap64 (1 + (Int.tmod t386 5))) t387 t388 x60_9 = some r) ∧ Aside0 (kq ≤ k) ∧ Aside0 (Kd.S k46 46 wc w.heap.size (fun _ => True) (.slice Ao12 t379.length co12) t379) ∧ Aside0 (Kd.R k48 48 wc w.heap.size (fun _ => True) v389 t388) ∧ Aside0 (Below w.heap.size w wc))
     case first =>
      have H := HC10.out; clear HC10
      by_cases c16 : t387 < 0
      · rw [if_pos c16] at H
        have c16b0 : decide (t387 < 0) = true := decide_eq_true c16
        clear c16
        (first | rw [c16b0] | (simp only [i64_w, i32_w]; rw [c16b0]) | skip)
        have H' := aM H
        clear H; go_wp2
        go_meet
        case rel => exact ⟨_, (true), nS, H', ⟨by first | omega | exact Nat.le_refl _⟩, ⟨by (with_reducible repeat (first | apply Kd.S_alloc | apply Kd.S_drewN | apply Kd.S_drew)); exact HO385.out⟩, ⟨by exact nR HO390.out⟩, ⟨nH HB.out⟩⟩
      · rw [if_neg c16] at H
        have c16b0 : decide (t387 < 0) = false := decide_eq_false c16
        clear c16
        (first | rw [c16b0] | (simp only [i64_w, i32_w]; rw [c16b0]) | skip)
        have H' := aM H
        clear H; go_wp2
        go_meet
        case rel => exact ⟨_, ((t380 == t381)), nS, H', ⟨by first | omega | exact Nat.le_refl _⟩, ⟨by (with_reducible repeat (first | apply Kd.S_alloc | apply Kd.S_drewN | apply Kd.S_drew)); exact HO385.out⟩, ⟨by exact nR HO390.out⟩, ⟨nH HB.out⟩⟩
     case rest =>
      as_aux_lemma =>
      clear HC10; try clear c1; try clear p2; try clear c3; try clear c4; try clear p6; try clear c9; try clear c9b0; try clear c9b1; try clear c13; try clear c14; try clear c15; try clear c16; try clear c16b0
      obtain ⟨kq, x60_9, rfl, HA, HJ9, HO_3, HO_10, HB⟩ := hcut
      cases kq with
      | zero => exact absurd HA.out (by simp [laws_FnJourney.j0])
      | succ kj9 =>
       have H := HA.out; clear HA
       simp only [laws_FnJourney.j0] at H
       by_cases c17 : x60_9 = true
       · subst c17
         rw [if_pos rfl] at H
         by_cases c18 : (t388.length : Int) = 0
         · rw [if_pos c18] at H
           have c18b0 : ((t388.length : Int) == 0) = true := beq_iff_eq.mpr c18
           have c18b1 : ((t388.length : Int) != 0) = false := bne_eq_false_iff_eq.mpr c18
           clear c18
           by_cases c19 : t380 = t381
           · rw [if_pos c19] at H
             have c19b0 : (t380 == t381) = true := beq_iff_eq.mpr c19
             have c19b1 : (t380 != t381) = false := bne_eq_false_iff_eq.mpr c19
             clear c19; obtain rfl := Option.some.inj H
             obtain ⟨Ao20, co20, eo20⟩ := Kd.R_slice HO_10.out
             subst eo20
             go_wp2; go_ret
             exact ⟨by first | rfl | (simp [errW_none, errW_some] <;> rfl) | (simp [*, errW_none, errW_some] <;> first | rfl | (simp [wrap64]; done)), nH HB.out⟩
           · rw [if_neg c19] at H
             have c19b0 : (t380 == t381) = false := beq_eq_false_iff_ne.mpr c19
             have c19b1 : (t380 != t381) = true := bne_iff_ne.mpr c19
             obtain rfl := Option.some.inj H
             obtain ⟨Ao21, co21, eo21⟩ := Kd.R_slice HO_10.out
             subst eo21
             go_wp2; go_ret
             exact ⟨by first | rfl | (simp [errW_none, errW_some] <;> rfl) | (simp [*, errW_none, errW_some] <;> first | rfl | (simp [wrap64]; done)), nH HB.out⟩
         · rw [if_neg c18] at H
           have c18b0 : ((t388.length : Int) == 0) = false := beq_eq_false_iff_ne.mpr c18
           have c18b1 : ((t388.length : Int) != 0) = true := bne_iff_ne.mpr c18
           have c18b2 : ¬ (t388 = []) := fun h_ => c18 (by rw [h_]; rfl)
           exact absurd ((Option.some.inj H).trans ht.out) (by decide)
       · replace c17 := Bool.eq_false_iff.mpr c17
         subst c17
         rw [if_neg nN] at H
         have HC22 := aM H
         clear H
         go_upto_region 11 with (fail)
         go_cut [96] (fun v96 wc => ∃ (kq : Nat) (x96_21 : Bool), v96 = .bool x96_21 ∧ Aside0 (laws_FnJourney.j1 kq t379 t380 t381 t382 t383 t387 t388 x96_21 = some r) ∧ Aside0 (kq ≤ kj9) ∧ Aside0 (Kd.S k46 46 wc w.heap.size (fun _ => True) (.slice Ao12 t379.length co12) t379) ∧ Aside0 (Kd.R k48 48 wc w.heap.size (fun _ => True) v389 t388) ∧ Aside0 (Below w.heap.size w wc))
         case first =>
          have H := HC22.out; clear HC22
          by_cases c23 : (t388.length : Int) = 0
          · rw [if_pos c23] at H
            have c23b0 : ((t388.length : Int) == 0) = true := beq_iff_eq.mpr c23
            have c23b1 : ((t388.length : Int) != 0) = false := bne_eq_false_iff_eq.mpr c23
            clear c23
            (first | rw [c23b0] | (simp only [i64_w, i32_w]; rw [c23b0]) | skip)
            have H' := aM H
            clear H
            obtain ⟨Ao24, co24, eo24⟩ := Kd.R_slice HO_10.out
            subst eo24
            go_wp2
            go_meet
            case rel => exact ⟨_, (true), nS, H', ⟨by have := HJ9.out; first | omega | exact Nat.le_refl _⟩, ⟨by (with_reducible repeat (first | apply Kd.S_alloc | apply Kd.S_drewN | apply Kd.S_drew)); exact HO_3.out⟩, ⟨by exact nR HO_10.out⟩, ⟨nH HB.out⟩⟩
          · rw [if_neg c23] at H
            have c23b0 : ((t388.length : Int) == 0) = false := beq_eq_false_iff_ne.mpr c23
            have c23b1 : ((t388.length : Int) != 0) = true := bne_iff_ne.mpr c23
            have c23b2 : ¬ (t388 = []) := fun h_ => c23 (by rw [h_]; rfl)
            (first | rw [c23b0] | (simp only [i64_w, i32_w]; rw [c23b0]) | skip)
            by_cases c25 : (t388.length : Int) > (wrap64 (1 + (Int.tmod t386 5)))
            · rw [if_pos c25] at H
              have c25b0 : decide ((wrap64 (1 + (Int.tmod t386 5))) < (t388.length : Int)) = true := decide_eq_true c25
              clear c25
              have H' := aM H
              clear H
              obtain ⟨Ao26, co26, eo26⟩ := Kd.R_slice HO_10.out
              subst eo26
              go_wp2
              go_meet
              case rel => exact ⟨_, (true), nS, H', ⟨by have := HJ9.out; first | omega | exact Nat.le_refl _⟩, ⟨by (with_reducible repeat (first | apply Kd.S_alloc | apply Kd.S_drewN | apply Kd.S_drew)); exact HO_3.out⟩, ⟨by exact nR HO_10.out⟩, ⟨nH HB.out⟩⟩
            · rw [if_neg c25] at H
              have c25b0 : decide ((wrap64 (1 + (Int.tmod t386 5))) < (t388.length : Int)) = false := decide_eq_false c25
              clear c25
              obtain ⟨t392, A270, H⟩ := Option.bind_eq_some_iff.mp H
              have A27 := aM A270
              clear A270
              by_cases c28 : t392 = true
              · subst c28
                rw [if_pos rfl] at H
                obtain ⟨t393, A290, H⟩ := Option.bind_eq_some_iff.mp H
                have A29 := aM A290
                clear A290
                have H' := aM H
                clear H
                obtain ⟨Ao30, co30, eo30⟩ := Kd.R_slice HO_10.out
                subst eo30
                go_wp2_with (first | (go_at_call 19; (with_reducible refine (impl_LegsOk.calls kj9 _ _ t379 _ _ t388 t383 true _ ?side1 ?side2 ?side3 ?side4 A27.out).mono ?_); (case side1 => repeat (first | exact (Kd.S_reads' HO_3.out).2.2 | (with_reducible refine Kd.C_alloc ?_ _) | (with_reducible refine Kd.C_drewN ?_ _) | (with_reducible refine Kd.C_drew ?_))); (case side2 => exact (Kd.S_reads' HO_3.out).2.1); (case side3 => repeat (first | exact (Kd.R_reads' HO_10.out).2.2 | (with_reducible refine Kd.C_alloc ?_ _) | (with_reducible refine Kd.C_drewN ?_ _) | (with_reducible refine Kd.C_drew ?_))); (case side4 => exact (Kd.R_reads' HO_10.out).2.1); rintro e w31 ⟨rfl, hb⟩; have n_ := aA (Kd.S_below (by (with_reducible repeat (first | apply Kd.S_alloc | apply Kd.S_drewN | apply Kd.S_drew)); exact HO_3.out) hb) <| aA (Kd.R_below (nR HO_10.out) hb) <| aM (below_step (nH HB.out) hb); clear HO_3 HO_10 HB; obtain ⟨HO_3, HO_10, HB⟩ := n_; (try clear hb); (try clear hb2); (try clear hk); (try clear hi)) | (go_at_call 20; (with_reducible refine (spec_LegsOk.calls kj9 _ _ t379 _ _ t388 t383 t393 _ ?side1 ?side2 ?side3 ?side4 A29.out).mono ?_); (case side1 => repeat (first | exact (Kd.S_reads' HO_3.out).2.2 | (with_reducible refine Kd.C_alloc ?_ _) | (with_reducible refine Kd.C_drewN ?_ _) | (with_reducible refine Kd.C_drew ?_))); (case side2 => exact (Kd.S_reads' HO_3.out).2.1); (case side3 => repeat (first | exact (Kd.R_reads' HO_10.out).2.2 | (with_reducible refine Kd.C_alloc ?_ _) | (with_reducible refine Kd.C_drewN ?_ _) | (with_reducible refine Kd.C_drew ?_))); (case side4 => exact (Kd.R_reads' HO_10.out).2.1); rintro e w32 ⟨rfl, hb⟩; have n_ := aA (Kd.S_below (by (with_reducible repeat (first | apply Kd.S_alloc | apply Kd.S_drewN | apply Kd.S_drew)); exact HO_3.out) hb) <| aA (Kd.R_below (nR HO_10.out) hb) <| aM (below_step (nH HB.out) hb); clear HO_3 HO_10 HB; obtain ⟨HO_3, HO_10, HB⟩ := n_; (try clear hb); (try clear hb2); (try clear hk); (try clear hi)))
                go_meet
                case rel => exact ⟨_, (!t393), nS, H', ⟨by have := HJ9.out; first | omega | exact Nat.le_refl _⟩, ⟨by (with_reducible repeat (first | apply Kd.S_alloc | apply Kd.S_drewN | apply Kd.S_drew)); exact HO_3.out⟩, ⟨by exact nR HO_10.out⟩, ⟨nH HB.out⟩⟩
              · replace c28 := Bool.eq_false_iff.mpr c28
                subst c28
                rw [if_neg nN] at H
                have H' := aM H
                clear H
                obtain ⟨Ao33, co33, eo33⟩ := Kd.R_slice HO_10.out
                subst eo33
                go_wp2_with (first | (go_at_call 19; (with_reducible refine (impl_LegsOk.calls kj9 _ _ t379 _ _ t388 t383 false _ ?side1 ?side2 ?side3 ?side4 A27.out).mono ?_); (case side1 => repeat (first | exact (Kd.S_reads' HO_3.out).2.2 | (with_reducible refine Kd.C_alloc ?_ _) | (with_reducible refine Kd.C_drewN ?_ _) | (with_reducible refine Kd.C_drew ?_))); (case side2 => exact (Kd.S_reads' HO_3.out).2.1); (case side3 => repeat (first | exact (Kd.R_reads' HO_10.out).2.2 | (with_reducible refine Kd.C_alloc ?_ _) | (with_reducible refine Kd.C_drewN ?_ _) | (with_reducible refine Kd.C_drew ?_))); (case side4 => exact (Kd.R_reads' HO_10.out).2.1); rintro e w34 ⟨rfl, hb⟩; have n_ := aA (Kd.S_below (by (with_reducible repeat (first | apply Kd.S_alloc | apply Kd.S_drewN | apply Kd.S_drew)); exact HO_3.out) hb) <| aA (Kd.R_below (nR HO_10.out) hb) <| aM (below_step (nH HB.out) hb); clear HO_3 HO_10 HB; obtain ⟨HO_3, HO_10, HB⟩ := n_; (try clear hb); (try clear hb2); (try clear hk); (try clear hi)))
                go_meet
                case rel => exact ⟨_, (true), nS, H', ⟨by have := HJ9.out; first | omega | exact Nat.le_refl _⟩, ⟨by (with_reducible repeat (first | apply Kd.S_alloc | apply Kd.S_drewN | apply Kd.S_drew)); exact HO_3.out⟩, ⟨by exact nR HO_10.out⟩, ⟨nH HB.out⟩⟩
         case rest =>
          as_aux_lemma =>
          clear HC22; try clear c1; try clear c2; try clear p2; try clear c3; try clear c4; try clear p6; try clear c9; try clear c9b0; try clear c9b1; try clear c13; try clear c14; try clear c15; try clear c16; try clear c16b0; try clear c17; try clear c18; try clear c18b0; try clear c18b1; try clear c18b2; try clear c19; try clear c19b0; try clear c19b1; try clear c23; try clear c23b0; try clear c23b1; try clear c23b2; try clear c25; try clear c25b0; try clear c28; try clear p2; try clear p6
          obtain ⟨kq, x96_21, rfl, HA, HJ21, HO_3, HO_10, HB⟩ := hcut
          cases kq with
          | zero => exact absurd HA.out (by simp [laws_FnJourney.j1])
          | succ kj21 =>
           have H := HA.out; clear HA
           simp only [laws_FnJourney.j1] at H
           by_cases c35 : x96_21 = true
           · subst c35
             rw [if_pos rfl] at H
             exact absurd ((Option.some.inj H).trans ht.out) (by decide)
           · replace c35 := Bool.eq_false_iff.mpr c35
             subst c35
             rw [if_neg nN] at H
             by_cases c36 : 0 < (t388.length : Int)
             rotate_left
             · (rw [if_neg c36] at H; exact absurd H (by simp))
             rw [if_pos c36] at H
             have c36b0 : decide (0 < (t388.length : Int)) = true := decide_eq_true c36
             have c36b1 : decide (0 < t388.length) = true := decide_eq_true (by omega)
             clear c36
             by_cases c37 : 0 ≤ ((rd_T48 t388 0).f0)
             rotate_left
             · (rw [if_neg c37] at H; exact absurd H (by simp))
             rw [if_pos c37] at H
             have c37b0 : decide (0 ≤ ((rd_T48 t388 0).f0)) = true := decide_eq_true c37
             clear c37
             by_cases c38 : ((rd_T48 t388 0).f0) < (t379.length : Int)
             rotate_left
             · (rw [if_neg c38] at H; exact absurd H (by simp))
             rw [if_pos c38] at H
             have c38b0 : decide (((rd_T48 t388 0).f0) < (t379.length : Int)) = true := decide_eq_true c38
             clear c38
             by_cases c39 : 0 ≤ ((rd_T48 t388 0).f1)
             rotate_left
             · (rw [if_neg c39] at H; exact absurd H (by simp))
             rw [if_pos c39] at H
             have c39b0 : decide (0 ≤ ((rd_T48 t388 0).f1)) = true := decide_eq_true c39
             clear c39
             by_cases c40 : ((rd_T48 t388 0).f1) < (((rd_T46 t379 ((rd_T48 t388 0).f0)).f1).length : Int)
             rotate_left
             · (rw [if_neg c40] at H; exact absurd H (by simp))
             rw [if_pos c40] at H
             have c40b0 : decide (((rd_T48 t388 0).f1) < (((rd_T46 t379 ((rd_T48 t388 0).f0)).f1).length : Int)) = true := decide_eq_true c40
             clear c40
             obtain ⟨ji41, hji41⟩ : ∃ j_ : Int, (wrap64 ((t388.length : Int) - 1)) = j_ := ⟨_, rfl⟩
             replace H : (if 0 ≤ (ji41) then (if (ji41) < (t388.length : Int) then (if 0 ≤ ((rd_T48 t388 (ji41)).f0) then (if ((rd_T48 t388 (ji41)).f0) < (t379.length : Int) then (if 0 ≤ ((rd_T48 t388 (ji41)).f2) then (if ((rd_T48 t388 (ji41)).f2) < (((rd_T46 t379 ((rd_T48 t388 (ji41)).f0)).f1).length : Int) then (if ((rd_T43 ((rd_T46 t379 ((rd_T48 t388 0).f0)).f1) ((rd_T48 t388 0).f1)).f0) = t380 then (if ((rd_T43 ((rd_T46 t379 ((rd_T48 t388 0).f0)).f1) ((rd_T48 t388 0).f1)).f2) < t382 then (laws_FnJourney.j2 kj21 t379 t380 t381 t382 t383 t387 t388 true) else (if ((rd_T43 ((rd_T46 t379 ((rd_T48 t388 (ji41)).f0)).f1) ((rd_T48 t388 (ji41)).f2)).f0) = t381 then (laws_FnJourney.j2 kj21 t379 t380 t381 t382 t383 t387 t388 (((rd_T43 ((rd_T46 t379 ((rd_T48 t388 (ji41)).f0)).f1) ((rd_T48 t388 (ji41)).f2)).f1) != t387)) else (laws_FnJourney.j2 kj21 t379 t380 t381 t382 t383 t387 t388 true))) else (laws_FnJourney.j2 kj21 t379 t380 t381 t382 t383 t387 t388 true)) else (none)) else (none)) else (none)) else (none)) else (none)) else (none)) = some r := by first | (rw [hji41] at H; exact H) | (simp only [hji41] at H ⊢; exact H)
             have hji41w : (IntKind.i64.wrap ((t388.length : Int) - 1)) = ji41 := (i64_w _).trans hji41
             by_cases c42 : 0 ≤ (ji41)
             rotate_left
             · (rw [if_neg c42] at H; exact absurd H (by simp))
             rw [if_pos c42] at H
             have c42b0 : decide (0 ≤ (ji41)) = true := decide_eq_true c42
             clear c42
             by_cases c43 : (ji41) < (t388.length : Int)
             rotate_left
             · (rw [if_neg c43] at H; exact absurd H (by simp))
             rw [if_pos c43] at H
             have c43b0 : decide ((ji41) < (t388.length : Int)) = true := decide_eq_true c43
             clear c43
             by_cases c44 : 0 ≤ ((rd_T48 t388 (ji41)).f0)
             rotate_left
             · (rw [if_neg c44] at H; exact absurd H (by simp))
             rw [if_pos c44] at H
             have c44b0 : decide (0 ≤ ((rd_T48 t388 (ji41)).f0)) = true := decide_eq_true c44
             clear c44
             by_cases c45 : ((rd_T48 t388 (ji41)).f0) < (t379.length : Int)
             rotate_left
             · (rw [if_neg c45] at H; exact absurd H (by simp))
             rw [if_pos c45] at H
             have c45b0 : decide (((rd_T48 t388 (ji41)).f0) < (t379.length : Int)) = true := decide_eq_true c45
             clear c45
             by_cases c46 : 0 ≤ ((rd_T48 t388 (ji41)).f2)
             rotate_left
             · (rw [if_neg c46] at H; exact absurd H (by simp))
             rw [if_pos c46] at H
             have c46b0 : decide (0 ≤ ((rd_T48 t388 (ji41)).f2)) = true := decide_eq_true c46
             clear c46
             by_cases c47 : ((rd_T48 t388 (ji41)).f2) < (((rd_T46 t379 ((rd_T48 t388 (ji41)).f0)).f1).length : Int)
             rotate_left
             · (rw [if_neg c47] at H; exact absurd H (by simp))
             rw [if_pos c47] at H
             have c47b0 : decide (((rd_T48 t388 (ji41)).f2) < (((rd_T46 t379 ((rd_T48 t388 (ji41)).f0)).f1).length : Int)) = true := decide_eq_true c47
             clear c47
             have HC48 := aM H
             clear H
             try go_wp2
             have n_ := aA (Kd.S_drew HO_3.out) <| aA (Kd.R_drew HO_10.out) <| aM (below_drew1 HB.out); clear HO_3 HO_10 HB; obtain ⟨HO_3, HO_10, HB⟩ := n_
             obtain ⟨Ao50, co50, eo50⟩ := Kd.R_slice HO_10.out
             (first | subst eo50 | (injection eo50 with f1_ f2_ f3_; have f4_ := f1_.symm; have f5_ := f3_.symm; clear f1_ f2_ f3_; subst f4_; subst f5_))
             have p394 : 0 ≤ (0 : Int) := (by omega)
             have q394 : 0 < (t388.length : Int) := of_decide_eq_true nQ
             obtain ⟨ad394, e394, hx394_0, hx394_1, hx394_2⟩ := at_T48 (Kd.R_reads' HO_10.out).2.2 0 p394 q394
             cases e394
             have qi394 : (0 < t388.length) = True := eq_true (by omega)
             (try rw [show ((0 : Int)).toNat = 0 from rfl] at hx394_0)
             (try rw [show 0 * 3 = 0 from rfl] at hx394_0)
             (try rw [Addr.add_zero'] at hx394_0)
             (try rw [show ((0 : Int)).toNat = 0 from rfl] at hx394_1)
             (try rw [show 0 * 3 = 0 from rfl] at hx394_1)
             (try rw [Addr.add_zero'] at hx394_1)
             (try rw [show ((0 : Int)).toNat = 0 from rfl] at hx394_2)
             (try rw [show 0 * 3 = 0 from rfl] at hx394_2)
             (try rw [Addr.add_zero'] at hx394_2)
             replace p394 := eq_true p394; replace q394 := eq_true q394
             have p395 : 0 ≤ (((rd_T48 t388 0).f0) : Int) := of_decide_eq_true nQ
             have q395 : ((rd_T48 t388 0).f0) < (t379.length : Int) := of_decide_eq_true nQ
             obtain ⟨ad395, A395_1, c395_1, e395, hx395_0, hx395_1, hl395_1, hi395_1⟩ := at_T46 (Kd.S_reads' HO_3.out).2.2 ((rd_T48 t388 0).f0) p395 q395
             cases e395
             obtain ⟨ce395, hce395, hMe395, hcc395⟩ := Kd.S_get HO_3.out z46 ((rd_T48 t388 0).f0) p395 (by first | exact q395 | exact of_decide_eq_true nQ | (have e_ := (Kd.S_reads' HO_3.out).1; omega))
             obtain ⟨ve395_1, rfl, ge395_1⟩ := k46_openM hMe395
             have hv395_1 := hcc395 1 _ rfl
             rw [add_field _ _ 1 (by omega)] at hv395_1
             replace hv395_1 := Option.some.inj (hv395_1.symm.trans hx395_1)
             rw [hv395_1] at ge395_1
             have HL395_1 := aM (show Kd.R k43 43 _ _ _ _ ((rd_T46 t379 ((rd_T48 t388 0).f0)).f1) from ge395_1)
             clear hv395_1 ge395_1; clear hcc395 hce395
             have HR395_1 := aM hi395_1
             have HC395_1 := aM hl395_1
             clear hi395_1 hl395_1; replace p395 := eq_true p395; replace q395 := eq_true q395
             have p396 : 0 ≤ (0 : Int) := (by omega)
             have q396 : 0 < (t388.length : Int) := of_decide_eq_true nQ
             obtain ⟨ad396, e396, hx396_0, hx396_1, hx396_2⟩ := at_T48 (Kd.R_reads' HO_10.out).2.2 0 p396 q396
             obtain rfl : ad394 = ad396 := (by injection e396)
             have qi396 : (0 < t388.length) = True := eq_true (by omega)
             (try rw [show ((0 : Int)).toNat = 0 from rfl] at hx396_0)
             (try rw [show 0 * 3 = 0 from rfl] at hx396_0)
             (try rw [Addr.add_zero'] at hx396_0)
             (try rw [show ((0 : Int)).toNat = 0 from rfl] at hx396_1)
             (try rw [show 0 * 3 = 0 from rfl] at hx396_1)
             (try rw [Addr.add_zero'] at hx396_1)
             (try rw [show ((0 : Int)).toNat = 0 from rfl] at hx396_2)
             (try rw [show 0 * 3 = 0 from rfl] at hx396_2)
             (try rw [Addr.add_zero'] at hx396_2)
             replace p396 := eq_true p396; replace q396 := eq_true q396
             have p397 : 0 ≤ (((rd_T48 t388 0).f1) : Int) := of_decide_eq_true nQ
             have q397 : ((rd_T48 t388 0).f1) < (((rd_T46 t379 ((rd_T48 t388 0).f0)).f1).length : Int) := of_decide_eq_true nQ
             obtain ⟨ad397, e397, hx397_0, hx397_1, hx397_2⟩ := at_T43 (by repeat (first | (with_reducible exact HR395_1.out) | (with_reducible refine Kd.C_alloc ?_ _) | (with_reducible refine Kd.C_drewN ?_ _) | (with_reducible refine Kd.C_drew ?_) | exact HR395_1.out)) ((rd_T48 t388 0).f1) p397 q397
             cases e397; replace p397 := eq_true p397; replace q397 := eq_true q397
             refine start_ (n := 16) (S := fun w' => w'.cell? ad394 = some (.int .i64 ((rd_T48 t388 0).f0)) ∧ w'.cell? ⟨ad394.block, ad394.off + 1, none⟩ = some (.int .i64 ((rd_T48 t388 0).f1)) ∧ w'.cell? ⟨ad394.block, ad394.off + 2, none⟩ = some (.int .i64 ((rd_T48 t388 0).f2)) ∧ w'.cell? (ad395.add ((((rd_T48 t388 0).f0)).toNat * 2)) = some (.string ((rd_T46 t379 ((rd_T48 t388 0).f0)).f0)) ∧ w'.cell? ⟨(ad395.add ((((rd_T48 t388 0).f0)).toNat * 2)).block, (ad395.add ((((rd_T48 t388 0).f0)).toNat * 2)).off + 1, none⟩ = some (.slice (some ad397) ((rd_T46 t379 ((rd_T48 t388 0).f0)).f1).length c395_1) ∧ w'.cell? ad394 = some (.int .i64 ((rd_T48 t388 0).f0)) ∧ w'.cell? ⟨ad394.block, ad394.off + 1, none⟩ = some (.int .i64 ((rd_T48 t388 0).f1)) ∧ w'.cell? ⟨ad394.block, ad394.off + 2, none⟩ = some (.int .i64 ((rd_T48 t388 0).f2)) ∧ w'.cell? (ad397.add ((((rd_T48 t388 0).f1)).toNat * 3)) = some (.int .i64 ((rd_T43 ((rd_T46 t379 ((rd_T48 t388 0).f0)).f1) ((rd_T48 t388 0).f1)).f0)) ∧ w'.cell? ⟨(ad397.add ((((rd_T48 t388 0).f1)).toNat * 3)).block, (ad397.add ((((rd_T48 t388 0).f1)).toNat * 3)).off + 1, none⟩ = some (.int .i64 ((rd_T43 ((rd_T46 t379 ((rd_T48 t388 0).f0)).f1) ((rd_T48 t388 0).f1)).f1)) ∧ w'.cell? ⟨(ad397.add ((((rd_T48 t388 0).f1)).toNat * 3)).block, (ad397.add ((((rd_T48 t388 0).f1)).toNat * 3)).off + 2, none⟩ = some (.int .i64 ((rd_T43 ((rd_T46 t379 ((rd_T48 t388 0).f0)).f1) ((rd_T48 t388 0).f1)).f2))) (ds := []) #[F,F,F,F,F,F,F,F,F,F,F,F,F,F,F,F] (by kernel_rfl) rfl rfl ⟨hx394_0, hx394_1, hx394_2, hx395_0, hx395_1, hx396_0, hx396_1, hx396_2, hx397_0, hx397_1, hx397_2⟩ (fun hHeld => ?_); refine with_tabW laws_FnJourney.tab13 laws_FnJourney.bits13 (fun HT_ HW_ => ?_)
             generalize wc.drew = w49 at HO_3 HO_10 HB HL395_1 HR395_1 hx394_0 hx394_1 hx394_2 hx395_0 hx395_1 hx396_0 hx396_1 hx396_2 hx397_0 hx397_1 hx397_2 hHeld ⊢
             refine qU 0 (some 97) rfl rfl HT_.out ?_
             refine qU 1 (some 98) rfl rfl HT_.out ?_
             refine qU 2 (some 99) rfl rfl HT_.out ?_
             refine qU 3 (some 100) rfl rfl HT_.out ?_
             refine qU 8 (some 105) rfl rfl HT_.out ?_
             refine qU 9 (some 106) rfl rfl HT_.out ?_
             refine qU 10 (some 107) rfl rfl HT_.out ?_
             refine qT11 4 (some 101) rfl rfl HT_.out HW_.out hHeld ?_
             refine qU 5 (some 102) rfl rfl HT_.out ?_
             refine qU 6 (some 103) rfl rfl HT_.out ?_
             refine qT11 7 (some 104) rfl rfl HT_.out HW_.out hHeld ?_
             refine qT11 11 (some 108) rfl rfl HT_.out HW_.out hHeld ?_
             refine qU 12 (some 109) rfl rfl HT_.out ?_
             refine qT11 13 (some 110) rfl rfl HT_.out HW_.out hHeld ?_
             refine one_ (i := 14) (N := some 11) #[T,T,T,T,T,T,T,T,T,T,T,T,T,T,T,F] rfl rfl (one_of HT_.out (by kernel_rfl)) (by decide) (fun K hK => ?_)
             refine box_step ?hg (N := 11) ?hd (cs := #[.int .i64 0, .int .i64 0, .int .i64 0]) (t := 43) ?hr ?_; (case hd => rfl); (case hg => rfl); (case hr => first | (go_simp; done) | (go_simp; rfl))
             intro gb398 hg w51 hbox hb
             have HS0_ := (hb.cell (World.block_lt_of_cell? _ _ (hHeld.1))).trans (hHeld.1)
             have HS1_ := (hb.cell (World.block_lt_of_cell? _ _ (hHeld.2.1))).trans (hHeld.2.1)
             have HS2_ := (hb.cell (World.block_lt_of_cell? _ _ (hHeld.2.2.1))).trans (hHeld.2.2.1)
             have HS3_ := (hb.cell (World.block_lt_of_cell? _ _ (hHeld.2.2.2.1))).trans (hHeld.2.2.2.1)
             have HS4_ := (hb.cell (World.block_lt_of_cell? _ _ (hHeld.2.2.2.2.1))).trans (hHeld.2.2.2.2.1)
             have HS5_ := (hb.cell (World.block_lt_of_cell? _ _ (hHeld.2.2.2.2.2.1))).trans (hHeld.2.2.2.2.2.1)
             have HS6_ := (hb.cell (World.block_lt_of_cell? _ _ (hHeld.2.2.2.2.2.2.1))).trans (hHeld.2.2.2.2.2.2.1)
             have HS7_ := (hb.cell (World.block_lt_of_cell? _ _ (hHeld.2.2.2.2.2.2.2.1))).trans (hHeld.2.2.2.2.2.2.2.1)
             have HS8_ := (hb.cell (World.block_lt_of_cell? _ _ (hHeld.2.2.2.2.2.2.2.2.1))).trans (hHeld.2.2.2.2.2.2.2.2.1)
             have HS9_ := (hb.cell (World.block_lt_of_cell? _ _ (hHeld.2.2.2.2.2.2.2.2.2.1))).trans (hHeld.2.2.2.2.2.2.2.2.2.1)
             have HS10_ := (hb.cell (World.block_lt_of_cell? _ _ (hHeld.2.2.2.2.2.2.2.2.2.2))).trans (hHeld.2.2.2.2.2.2.2.2.2.2)
             have n_ := aA (Kd.S_below (Kd.S_elderB (by (with_reducible repeat (first | apply Kd.S_alloc | apply Kd.S_drewN | apply Kd.S_drew)); exact HO_3.out) gb398 (Nat.le_of_eq hg.symm)) hb) <| aA (Kd.R_below (nR HO_10.out) hb) <| aA (Kd.R_below (Kd.R_elderB (nR HL395_1.out) gb398 (Nat.le_of_eq hg.symm)) hb) <| aA (Kd.C_below (by repeat (first | (with_reducible exact HR395_1.out) | (with_reducible refine Kd.C_alloc ?_ _) | (with_reducible refine Kd.C_drewN ?_ _) | (with_reducible refine Kd.C_drew ?_) | exact HR395_1.out)) hb) <| aA (below_step (nH HB.out) hb) <| aA (hbox) <| aA (bS hg (nH HB.out)) <| aM (bS hg (nH HB.out)); clear HO_3 HO_10 HL395_1 HR395_1 HB; obtain ⟨HO_3, HO_10, HL395_1, HR395_1, HB, BK398, GW398, GE398⟩ := n_; clear hb hbox hg
             refine hK.out _ _ ⟨HS0_, HS1_, HS2_, HS3_, HS4_, HS5_, HS6_, HS7_, HS8_, HS9_, HS10_⟩ (fun hHeld => ?_)
             clear hK K
             refine norm_ (a' := ?_) ?_ ?_
             rotate_left
             · show Act.put _ (some 11) _ = _
               simp only [Act.put, List.setIfInBounds_toArray, List.set_cons_zero, List.set_cons_succ, i64_w, i32_w]
               rfl
             refine one_ (i := 15) (N := none) #[T,T,T,T,T,T,T,T,T,T,T,T,T,T,T,T] rfl rfl (one_of HT_.out (by kernel_rfl)) (by decide) (fun K hK => ?_)
             have hs52 : w51.cell? ⟨gb398, 0, none⟩ = some (.int .i64 0) := (blk_cell BK398.out 0).trans rfl
             have hfs52 := blk_frozen BK398.out 0
             have hs53 : w51.cell? ⟨gb398, 1, none⟩ = some (.int .i64 0) := (blk_cell BK398.out 1).trans rfl
             have hfs53 := blk_frozen BK398.out 1
             have hs54 : w51.cell? ⟨gb398, 2, none⟩ = some (.int .i64 0) := (blk_cell BK398.out 2).trans rfl
             have hfs54 := blk_frozen BK398.out 2
             refine skip_ (w1 := ?_) (by rfl) rfl ?_ ?_
             rotate_left
             · go_simp; rfl
             refine hK.out _ _ ⟨((cell_far (p := ⟨gb398, _, none⟩) (by (try dsimp only); first | exact Kd.own_blk (Kd.R_ne HO_10.out BK398.out (by decide)) | (rw [add_block]; exact Kd.own_blk (Kd.R_ne HO_10.out BK398.out (by decide))) | (show (Addr.add _ _).block ≠ _; rw [add_block]; exact Kd.own_blk (Kd.R_ne HO_10.out BK398.out (by decide))) | (dsimp only; exact Kd.own_blk (Kd.R_ne HO_10.out BK398.out (by decide)))) _).trans (((cell_far (p := ⟨gb398, _, none⟩) (by (try dsimp only); first | exact Kd.own_blk (Kd.R_ne HO_10.out BK398.out (by decide)) | (rw [add_block]; exact Kd.own_blk (Kd.R_ne HO_10.out BK398.out (by decide))) | (show (Addr.add _ _).block ≠ _; rw [add_block]; exact Kd.own_blk (Kd.R_ne HO_10.out BK398.out (by decide))) | (dsimp only; exact Kd.own_blk (Kd.R_ne HO_10.out BK398.out (by decide)))) _).trans (((cell_far (p := ⟨gb398, _, none⟩) (by (try dsimp only); first | exact Kd.own_blk (Kd.R_ne HO_10.out BK398.out (by decide)) | (rw [add_block]; exact Kd.own_blk (Kd.R_ne HO_10.out BK398.out (by decide))) | (show (Addr.add _ _).block ≠ _; rw [add_block]; exact Kd.own_blk (Kd.R_ne HO_10.out BK398.out (by decide))) | (dsimp only; exact Kd.own_blk (Kd.R_ne HO_10.out BK398.out (by decide)))) _).trans (hHeld.1)))))), ((cell_far (p := ⟨gb398, _, none⟩) (by (try dsimp only); first | exact Kd.own_blk (Kd.R_ne HO_10.out BK398.out (by decide)) | (rw [add_block]; exact Kd.own_blk (Kd.R_ne HO_10.out BK398.out (by decide))) | (show (Addr.add _ _).block ≠ _; rw [add_block]; exact Kd.own_blk (Kd.R_ne HO_10.out BK398.out (by decide))) | (dsimp only; exact Kd.own_blk (Kd.R_ne HO_10.out BK398.out (by decide)))) _).trans (((cell_far (p := ⟨gb398, _, none⟩) (by (try dsimp only); first | exact Kd.own_blk (Kd.R_ne HO_10.out BK398.out (by decide)) | (rw [add_block]; exact Kd.own_blk (Kd.R_ne HO_10.out BK398.out (by decide))) | (show (Addr.add _ _).block ≠ _; rw [add_block]; exact Kd.own_blk (Kd.R_ne HO_10.out BK398.out (by decide))) | (dsimp only; exact Kd.own_blk (Kd.R_ne HO_10.out BK398.out (by decide)))) _).trans (((cell_far (p := ⟨gb398, _, none⟩) (by (try dsimp only); first | exact Kd.own_blk (Kd.R_ne HO_10.out BK398.out (by decide)) | (rw [add_block]; exact Kd.own_blk (Kd.R_ne HO_10.out BK398.out (by decide))) | (show (Addr.add _ _).block ≠ _; rw [add_block]; exact Kd.own_blk (Kd.R_ne HO_10.out BK398.out (by decide))) | (dsimp only; exact Kd.own_blk (Kd.R_ne HO_10.out BK398.out (by decide)))) _).trans (hHeld.2.1)))))), ((cell_far (p := ⟨gb398, _, none⟩) (by (try dsimp only); first | exact Kd.own_blk (Kd.R_ne HO_10.out BK398.out (by decide)) | (rw [add_block]; exact Kd.own_blk (Kd.R_ne HO_10.out BK398.out (by decide))) | (show (Addr.add _ _).block ≠ _; rw [add_block]; exact Kd.own_blk (Kd.R_ne HO_10.out BK398.out (by decide))) | (dsimp only; exact Kd.own_blk (Kd.R_ne HO_10.out BK398.out (by decide)))) _).trans (((cell_far (p := ⟨gb398, _, none⟩) (by (try dsimp only); first | exact Kd.own_blk (Kd.R_ne HO_10.out BK398.out (by decide)) | (rw [add_block]; exact Kd.own_blk (Kd.R_ne HO_10.out BK398.out (by decide))) | (show (Addr.add _ _).block ≠ _; rw [add_block]; exact Kd.own_blk (Kd.R_ne HO_10.out BK398.out (by decide))) | (dsimp only; exact Kd.own_blk (Kd.R_ne HO_10.out BK398.out (by decide)))) _).trans (((cell_far (p := ⟨gb398, _, none⟩) (by (try dsimp only); first | exact Kd.own_blk (Kd.R_ne HO_10.out BK398.out (by decide)) | (rw [add_block]; exact Kd.own_blk (Kd.R_ne HO_10.out BK398.out (by decide))) | (show (Addr.add _ _).block ≠ _; rw [add_block]; exact Kd.own_blk (Kd.R_ne HO_10.out BK398.out (by decide))) | (dsimp only; exact Kd.own_blk (Kd.R_ne HO_10.out BK398.out (by decide)))) _).trans (hHeld.2.2.1)))))), ((cell_far (p := ⟨gb398, _, none⟩) (by (try dsimp only); first | exact Kd.own_blk (Kd.S_away HO_3.out (fun _ hk => hk.2)) | (rw [add_block]; exact Kd.own_blk (Kd.S_away HO_3.out (fun _ hk => hk.2))) | (show (Addr.add _ _).block ≠ _; rw [add_block]; exact Kd.own_blk (Kd.S_away HO_3.out (fun _ hk => hk.2))) | (dsimp only; exact Kd.own_blk (Kd.S_away HO_3.out (fun _ hk => hk.2)))) _).trans (((cell_far (p := ⟨gb398, _, none⟩) (by (try dsimp only); first | exact Kd.own_blk (Kd.S_away HO_3.out (fun _ hk => hk.2)) | (rw [add_block]; exact Kd.own_blk (Kd.S_away HO_3.out (fun _ hk => hk.2))) | (show (Addr.add _ _).block ≠ _; rw [add_block]; exact Kd.own_blk (Kd.S_away HO_3.out (fun _ hk => hk.2))) | (dsimp only; exact Kd.own_blk (Kd.S_away HO_3.out (fun _ hk => hk.2)))) _).trans (((cell_far (p := ⟨gb398, _, none⟩) (by (try dsimp only); first | exact Kd.own_blk (Kd.S_away HO_3.out (fun _ hk => hk.2)) | (rw [add_block]; exact Kd.own_blk (Kd.S_away HO_3.out (fun _ hk => hk.2))) | (show (Addr.add _ _).block ≠ _; rw [add_block]; exact Kd.own_blk (Kd.S_away HO_3.out (fun _ hk => hk.2))) | (dsimp only; exact Kd.own_blk (Kd.S_away HO_3.out (fun _ hk => hk.2)))) _).trans (hHeld.2.2.2.1)))))), ((cell_far (p := ⟨gb398, _, none⟩) (by (try dsimp only); first | exact Kd.own_blk (Kd.S_away HO_3.out (fun _ hk => hk.2)) | (rw [add_block]; exact Kd.own_blk (Kd.S_away HO_3.out (fun _ hk => hk.2))) | (show (Addr.add _ _).block ≠ _; rw [add_block]; exact Kd.own_blk (Kd.S_away HO_3.out (fun _ hk => hk.2))) | (dsimp only; exact Kd.own_blk (Kd.S_away HO_3.out (fun _ hk => hk.2)))) _).trans (((cell_far (p := ⟨gb398, _, none⟩) (by (try dsimp only); first | exact Kd.own_blk (Kd.S_away HO_3.out (fun _ hk => hk.2)) | (rw [add_block]; exact Kd.own_blk (Kd.S_away HO_3.out (fun _ hk => hk.2))) | (show (Addr.add _ _).block ≠ _; rw [add_block]; exact Kd.own_blk (Kd.S_away HO_3.out (fun _ hk => hk.2))) | (dsimp only; exact Kd.own_blk (Kd.S_away HO_3.out (fun _ hk => hk.2)))) _).trans (((cell_far (p := ⟨gb398, _, none⟩) (by (try dsimp only); first | exact Kd.own_blk (Kd.S_away HO_3.out (fun _ hk => hk.2)) | (rw [add_block]; exact Kd.own_blk (Kd.S_away HO_3.out (fun _ hk => hk.2))) | (show (Addr.add _ _).block ≠ _; rw [add_block]; exact Kd.own_blk (Kd.S_away HO_3.out (fun _ hk => hk.2))) | (dsimp only; exact Kd.own_blk (Kd.S_away HO_3.out (fun _ hk => hk.2)))) _).trans (hHeld.2.2.2.2.1)))))), ((cell_far (p := ⟨gb398, _, none⟩) (by (try dsimp only); first | exact Kd.own_blk (Kd.R_ne HO_10.out BK398.out (by decide)) | (rw [add_block]; exact Kd.own_blk (Kd.R_ne HO_10.out BK398.out (by decide))) | (show (Addr.add _ _).block ≠ _; rw [add_block]; exact Kd.own_blk (Kd.R_ne HO_10.out BK398.out (by decide))) | (dsimp only; exact Kd.own_blk (Kd.R_ne HO_10.out BK398.out (by decide)))) _).trans (((cell_far (p := ⟨gb398, _, none⟩) (by (try dsimp only); first | exact Kd.own_blk (Kd.R_ne HO_10.out BK398.out (by decide)) | (rw [add_block]; exact Kd.own_blk (Kd.R_ne HO_10.out BK398.out (by decide))) | (show (Addr.add _ _).block ≠ _; rw [add_block]; exact Kd.own_blk (Kd.R_ne HO_10.out BK398.out (by decide))) | (dsimp only; exact Kd.own_blk (Kd.R_ne HO_10.out BK398.out (by decide)))) _).trans (((cell_far (p := ⟨gb398, _, none⟩) (by (try dsimp only); first | exact Kd.own_blk (Kd.R_ne HO_10.out BK398.out (by decide)) | (rw [add_block]; exact Kd.own_blk (Kd.R_ne HO_10.out BK398.out (by decide))) | (show (Addr.add _ _).block ≠ _; rw [add_block]; exact Kd.own_blk (Kd.R_ne HO_10.out BK398.out (by decide))) | (dsimp only; exact Kd.own_blk (Kd.R_ne HO_10.out BK398.out (by decide)))) _).trans (hHeld.2.2.2.2.2.1)))))), ((cell_far (p := ⟨gb398, _, none⟩) (by (try dsimp only); first | exact Kd.own_blk (Kd.R_ne HO_10.out BK398.out (by decide)) | (rw [add_block]; exact Kd.own_blk (Kd.R_ne HO_10.out BK398.out (by decide))) | (show (Addr.add _ _).block ≠ _; rw [add_block]; exact Kd.own_blk (Kd.R_ne HO_10.out BK398.out (by decide))) | (dsimp only; exact Kd.own_blk (Kd.R_ne HO_10.out BK398.out (by decide)))) _).trans (((cell_far (p := ⟨gb398, _, none⟩) (by (try dsimp only); first | exact Kd.own_blk (Kd.R_ne HO_10.out BK398.out (by decide)) | (rw [add_block]; exact Kd.own_blk (Kd.R_ne HO_10.out BK398.out (by decide))) | (show (Addr.add _ _).block ≠ _; rw [add_block]; exact Kd.own_blk (Kd.R_ne HO_10.out BK398.out (by decide))) | (dsimp only; exact Kd.own_blk (Kd.R_ne HO_10.out BK398.out (by decide)))) _).trans (((cell_far (p := ⟨gb398, _, none⟩) (by (try dsimp only); first | exact Kd.own_blk (Kd.R_ne HO_10.out BK398.out (by decide)) | (rw [add_block]; exact Kd.own_blk (Kd.R_ne HO_10.out BK398.out (by decide))) | (show (Addr.add _ _).block ≠ _; rw [add_block]; exact Kd.own_blk (Kd.R_ne HO_10.out BK398.out (by decide))) | (dsimp only; exact Kd.own_blk (Kd.R_ne HO_10.out BK398.out (by decide)))) _).trans (hHeld.2.2.2.2.2.2.1)))))), ((cell_far (p := ⟨gb398, _, none⟩) (by (try dsimp only); first | exact Kd.own_blk (Kd.R_ne HO_10.out BK398.out (by decide)) | (rw [add_block]; exact Kd.own_blk (Kd.R_ne HO_10.out BK398.out (by decide))) | (show (Addr.add _ _).block ≠ _; rw [add_block]; exact Kd.own_blk (Kd.R_ne HO_10.out BK398.out (by decide))) | (dsimp only; exact Kd.own_blk (Kd.R_ne HO_10.out BK398.out (by decide)))) _).trans (((cell_far (p := ⟨gb398, _, none⟩) (by (try dsimp only); first | exact Kd.own_blk (Kd.R_ne HO_10.out BK398.out (by decide)) | (rw [add_block]; exact Kd.own_blk (Kd.R_ne HO_10.out BK398.out (by decide))) | (show (Addr.add _ _).block ≠ _; rw [add_block]; exact Kd.own_blk (Kd.R_ne HO_10.out BK398.out (by decide))) | (dsimp only; exact Kd.own_blk (Kd.R_ne HO_10.out BK398.out (by decide)))) _).trans (((cell_far (p := ⟨gb398, _, none⟩) (by (try dsimp only); first | exact Kd.own_blk (Kd.R_ne HO_10.out BK398.out (by decide)) | (rw [add_block]; exact Kd.own_blk (Kd.R_ne HO_10.out BK398.out (by decide))) | (show (Addr.add _ _).block ≠ _; rw [add_block]; exact Kd.own_blk (Kd.R_ne HO_10.out BK398.out (by decide))) | (dsimp only; exact Kd.own_blk (Kd.R_ne HO_10.out BK398.out (by decide)))) _).trans (hHeld.2.2.2.2.2.2.2.1)))))), ((cell_far (p := ⟨gb398, _, none⟩) (by (try dsimp only); first | exact Kd.own_blk (Kd.R_away HL395_1.out (fun _ hk => hk.2)) | (rw [add_block]; exact Kd.own_blk (Kd.R_away HL395_1.out (fun _ hk => hk.2))) | (show (Addr.add _ _).block ≠ _; rw [add_block]; exact Kd.own_blk (Kd.R_away HL395_1.out (fun _ hk => hk.2))) | (dsimp only; exact Kd.own_blk (Kd.R_away HL395_1.out (fun _ hk => hk.2)))) _).trans (((cell_far (p := ⟨gb398, _, none⟩) (by (try dsimp only); first | exact Kd.own_blk (Kd.R_away HL395_1.out (fun _ hk => hk.2)) | (rw [add_block]; exact Kd.own_blk (Kd.R_away HL395_1.out (fun _ hk => hk.2))) | (show (Addr.add _ _).block ≠ _; rw [add_block]; exact Kd.own_blk (Kd.R_away HL395_1.out (fun _ hk => hk.2))) | (dsimp only; exact Kd.own_blk (Kd.R_away HL395_1.out (fun _ hk => hk.2)))) _).trans (((cell_far (p := ⟨gb398, _, none⟩) (by (try dsimp only); first | exact Kd.own_blk (Kd.R_away HL395_1.out (fun _ hk => hk.2)) | (rw [add_block]; exact Kd.own_blk (Kd.R_away HL395_1.out (fun _ hk => hk.2))) | (show (Addr.add _ _).block ≠ _; rw [add_block]; exact Kd.own_blk (Kd.R_away HL395_1.out (fun _ hk => hk.2))) | (dsimp only; exact Kd.own_blk (Kd.R_away HL395_1.out (fun _ hk => hk.2)))) _).trans (hHeld.2.2.2.2.2.2.2.2.1)))))), ((cell_far (p := ⟨gb398, _, none⟩) (by (try dsimp only); first | exact Kd.own_blk (Kd.R_away HL395_1.out (fun _ hk => hk.2)) | (rw [add_block]; exact Kd.own_blk (Kd.R_away HL395_1.out (fun _ hk => hk.2))) | (show (Addr.add _ _).block ≠ _; rw [add_block]; exact Kd.own_blk (Kd.R_away HL395_1.out (fun _ hk => hk.2))) | (dsimp only; exact Kd.own_blk (Kd.R_away HL395_1.out (fun _ hk => hk.2)))) _).trans (((cell_far (p := ⟨gb398, _, none⟩) (by (try dsimp only); first | exact Kd.own_blk (Kd.R_away HL395_1.out (fun _ hk => hk.2)) | (rw [add_block]; exact Kd.own_blk (Kd.R_away HL395_1.out (fun _ hk => hk.2))) | (show (Addr.add _ _).block ≠ _; rw [add_block]; exact Kd.own_blk (Kd.R_away HL395_1.out (fun _ hk => hk.2))) | (dsimp only; exact Kd.own_blk (Kd.R_away HL395_1.out (fun _ hk => hk.2)))) _).trans (((cell_far (p := ⟨gb398, _, none⟩) (by (try dsimp only); first | exact Kd.own_blk (Kd.R_away HL395_1.out (fun _ hk => hk.2)) | (rw [add_block]; exact Kd.own_blk (Kd.R_away HL395_1.out (fun _ hk => hk.2))) | (show (Addr.add _ _).block ≠ _; rw [add_block]; exact Kd.own_blk (Kd.R_away HL395_1.out (fun _ hk => hk.2))) | (dsimp only; exact Kd.own_blk (Kd.R_away HL395_1.out (fun _ hk => hk.2)))) _).trans (hHeld.2.2.2.2.2.2.2.2.2.1)))))), ((cell_far (p := ⟨gb398, _, none⟩) (by (try dsimp only); first | exact Kd.own_blk (Kd.R_away HL395_1.out (fun _ hk => hk.2)) | (rw [add_block]; exact Kd.own_blk (Kd.R_away HL395_1.out (fun _ hk => hk.2))) | (show (Addr.add _ _).block ≠ _; rw [add_block]; exact Kd.own_blk (Kd.R_away HL395_1.out (fun _ hk => hk.2))) | (dsimp only; exact Kd.own_blk (Kd.R_away HL395_1.out (fun _ hk => hk.2)))) _).trans (((cell_far (p := ⟨gb398, _, none⟩) (by (try dsimp only); first | exact Kd.own_blk (Kd.R_away HL395_1.out (fun _ hk => hk.2)) | (rw [add_block]; exact Kd.own_blk (Kd.R_away HL395_1.out (fun _ hk => hk.2))) | (show (Addr.add _ _).block ≠ _; rw [add_block]; exact Kd.own_blk (Kd.R_away HL395_1.out (fun _ hk => hk.2))) | (dsimp only; exact Kd.own_blk (Kd.R_away HL395_1.out (fun _ hk => hk.2)))) _).trans (((cell_far (p := ⟨gb398, _, none⟩) (by (try dsimp only); first | exact Kd.own_blk (Kd.R_away HL395_1.out (fun _ hk => hk.2)) | (rw [add_block]; exact Kd.own_blk (Kd.R_away HL395_1.out (fun _ hk => hk.2))) | (show (Addr.add _ _).block ≠ _; rw [add_block]; exact Kd.own_blk (Kd.R_away HL395_1.out (fun _ hk => hk.2))) | (dsimp only; exact Kd.own_blk (Kd.R_away HL395_1.out (fun _ hk => hk.2)))) _).trans (hHeld.2.2.2.2.2.2.2.2.2.2))))))⟩ (fun hHeld => ?_)
             clear hK K
             refine done_ (done_of HT_.out (by kernel_rfl)) ?_
             try go_wp2
             have n0_ : Aside0 (Kd.S k46 46 (((w51.setCell ⟨gb398, 0, none⟩ (.int .i64 ((rd_T43 ((rd_T46 t379 ((rd_T48 t388 0).f0)).f1) ((rd_T48 t388 0).f1)).f0))).setCell ⟨gb398, 1, none⟩ (.int .i64 ((rd_T43 ((rd_T46 t379 ((rd_T48 t388 0).f0)).f1) ((rd_T48 t388 0).f1)).f1))).setCell ⟨gb398, 2, none⟩ (.int .i64 ((rd_T43 ((rd_T46 t379 ((rd_T48 t388 0).f0)).f1) ((rd_T48 t388 0).f1)).f2))) w.heap.size (fun k_ => k_ ≠ gb398) (.slice (some ad395) t379.length co12) t379) := ⟨by (with_reducible repeat (first | apply Kd.S_alloc | apply Kd.S_drewN | apply Kd.S_drew)); exact Kd.S_mono (Kd.S_far (p := ⟨gb398, 2, none⟩) (Kd.S_far (p := ⟨gb398, 1, none⟩) (Kd.S_far (p := ⟨gb398, 0, none⟩) (Kd.S_mono HO_3.out (fun k_ hk => (⟨hk, hk.2⟩ : _ ∧ k_ ≠ gb398))) (fun _ hk => hk.2) (.int .i64 ((rd_T43 ((rd_T46 t379 ((rd_T48 t388 0).f0)).f1) ((rd_T48 t388 0).f1)).f0))) (fun _ hk => hk.2) (.int .i64 ((rd_T43 ((rd_T46 t379 ((rd_T48 t388 0).f0)).f1) ((rd_T48 t388 0).f1)).f1))) (fun _ hk => hk.2) (.int .i64 ((rd_T43 ((rd_T46 t379 ((rd_T48 t388 0).f0)).f1) ((rd_T48 t388 0).f1)).f2))) (fun _ hk => hk.1.2)⟩
             have n1_ : Aside0 (Kd.R k48 48 (((w51.setCell ⟨gb398, 0, none⟩ (.int .i64 ((rd_T43 ((rd_T46 t379 ((rd_T48 t388 0).f0)).f1) ((rd_T48 t388 0).f1)).f0))).setCell ⟨gb398, 1, none⟩ (.int .i64 ((rd_T43 ((rd_T46 t379 ((rd_T48 t388 0).f0)).f1) ((rd_T48 t388 0).f1)).f1))).setCell ⟨gb398, 2, none⟩ (.int .i64 ((rd_T43 ((rd_T46 t379 ((rd_T48 t388 0).f0)).f1) ((rd_T48 t388 0).f1)).f2))) w.heap.size (fun _ => True) (.slice (some ad394) t388.length co50) t388) := ⟨by (with_reducible repeat (first | apply Kd.R_alloc | apply Kd.R_drewN | apply Kd.R_drew)); exact Kd.R_mono (Kd.R_far (p := ⟨gb398, 2, none⟩) (Kd.R_far (p := ⟨gb398, 1, none⟩) (Kd.R_far (p := ⟨gb398, 0, none⟩) (Kd.R_types HO_10.out BK398.out (by decide)) (fun _ hk => hk.2) (.int .i64 ((rd_T43 ((rd_T46 t379 ((rd_T48 t388 0).f0)).f1) ((rd_T48 t388 0).f1)).f0))) (fun _ hk => hk.2) (.int .i64 ((rd_T43 ((rd_T46 t379 ((rd_T48 t388 0).f0)).f1) ((rd_T48 t388 0).f1)).f1))) (fun _ hk => hk.2) (.int .i64 ((rd_T43 ((rd_T46 t379 ((rd_T48 t388 0).f0)).f1) ((rd_T48 t388 0).f1)).f2))) (fun _ hk => trivial)⟩
             have n2_ : Aside0 (Kd.R k43 43 (((w51.setCell ⟨gb398, 0, none⟩ (.int .i64 ((rd_T43 ((rd_T46 t379 ((rd_T48 t388 0).f0)).f1) ((rd_T48 t388 0).f1)).f0))).setCell ⟨gb398, 1, none⟩ (.int .i64 ((rd_T43 ((rd_T46 t379 ((rd_T48 t388 0).f0)).f1) ((rd_T48 t388 0).f1)).f1))).setCell ⟨gb398, 2, none⟩ (.int .i64 ((rd_T43 ((rd_T46 t379 ((rd_T48 t388 0).f0)).f1) ((rd_T48 t388 0).f1)).f2))) w.heap.size (fun k_ => some k_ ≠ (.slice (some ad395) t379.length co12 : Value).ownBlock ∧ k_ ≠ gb398) (.slice (some ad397) ((rd_T46 t379 ((rd_T48 t388 0).f0)).f1).length c395_1) ((rd_T46 t379 ((rd_T48 t388 0).f0)).f1)) := ⟨by (with_reducible repeat (first | apply Kd.R_alloc | apply Kd.R_drewN | apply Kd.R_drew)); exact Kd.R_mono (Kd.R_far (p := ⟨gb398, 2, none⟩) (Kd.R_far (p := ⟨gb398, 1, none⟩) (Kd.R_far (p := ⟨gb398, 0, none⟩) (Kd.R_mono HL395_1.out (fun k_ hk => (⟨hk, hk.2⟩ : _ ∧ k_ ≠ gb398))) (fun _ hk => hk.2) (.int .i64 ((rd_T43 ((rd_T46 t379 ((rd_T48 t388 0).f0)).f1) ((rd_T48 t388 0).f1)).f0))) (fun _ hk => hk.2) (.int .i64 ((rd_T43 ((rd_T46 t379 ((rd_T48 t388 0).f0)).f1) ((rd_T48 t388 0).f1)).f1))) (fun _ hk => hk.2) (.int .i64 ((rd_T43 ((rd_T46 t379 ((rd_T48 t388 0).f0)).f1) ((rd_T48 t388 0).f1)).f2))) (fun _ hk => ⟨hk.1.1.2, hk.1.2⟩)⟩
             have n3_ : Aside0 ((((w51.setCell ⟨gb398, 0, none⟩ (.int .i64 ((rd_T43 ((rd_T46 t379 ((rd_T48 t388 0).f0)).f1) ((rd_T48 t388 0).f1)).f0))).setCell ⟨gb398, 1, none⟩ (.int .i64 ((rd_T43 ((rd_T46 t379 ((rd_T48 t388 0).f0)).f1) ((rd_T48 t388 0).f1)).f1))).setCell ⟨gb398, 2, none⟩ (.int .i64 ((rd_T43 ((rd_T46 t379 ((rd_T48 t388 0).f0)).f1) ((rd_T48 t388 0).f1)).f2))).heap[gb398]? = some (.cells #[.int .i64 ((rd_T43 ((rd_T46 t379 ((rd_T48 t388 0).f0)).f1) ((rd_T48 t388 0).f1)).f0), .int .i64 ((rd_T43 ((rd_T46 t379 ((rd_T48 t388 0).f0)).f1) ((rd_T48 t388 0).f1)).f1), .int .i64 ((rd_T43 ((rd_T46 t379 ((rd_T48 t388 0).f0)).f1) ((rd_T48 t388 0).f1)).f2)] 43 (0, 0))) := ⟨by refine nE ?_; refine blk_put (cs := #[.int .i64 ((rd_T43 ((rd_T46 t379 ((rd_T48 t388 0).f0)).f1) ((rd_T48 t388 0).f1)).f0), .int .i64 ((rd_T43 ((rd_T46 t379 ((rd_T48 t388 0).f0)).f1) ((rd_T48 t388 0).f1)).f1), .int .i64 0]) ?_ 2 _ rfl; refine nE ?_; refine blk_put (cs := #[.int .i64 ((rd_T43 ((rd_T46 t379 ((rd_T48 t388 0).f0)).f1) ((rd_T48 t388 0).f1)).f0), .int .i64 0, .int .i64 0]) ?_ 1 _ rfl; refine nE ?_; refine blk_put (cs := #[.int .i64 0, .int .i64 0, .int .i64 0]) ?_ 0 _ rfl; exact nB BK398.out⟩
             have n4_ : Aside0 (Below w.heap.size w (((w51.setCell ⟨gb398, 0, none⟩ (.int .i64 ((rd_T43 ((rd_T46 t379 ((rd_T48 t388 0).f0)).f1) ((rd_T48 t388 0).f1)).f0))).setCell ⟨gb398, 1, none⟩ (.int .i64 ((rd_T43 ((rd_T46 t379 ((rd_T48 t388 0).f0)).f1) ((rd_T48 t388 0).f1)).f1))).setCell ⟨gb398, 2, none⟩ (.int .i64 ((rd_T43 ((rd_T46 t379 ((rd_T48 t388 0).f0)).f1) ((rd_T48 t388 0).f1)).f2)))) := ⟨nH1 HB.out GE398.out⟩
             (try clear HO_3); (try clear HO_10); (try clear HL395_1); (try clear BK398); (try clear HB)
             generalize (((w51.setCell ⟨gb398, 0, none⟩ (.int .i64 ((rd_T43 ((rd_T46 t379 ((rd_T48 t388 0).f0)).f1) ((rd_T48 t388 0).f1)).f0))).setCell ⟨gb398, 1, none⟩ (.int .i64 ((rd_T43 ((rd_T46 t379 ((rd_T48 t388 0).f0)).f1) ((rd_T48 t388 0).f1)).f1))).setCell ⟨gb398, 2, none⟩ (.int .i64 ((rd_T43 ((rd_T46 t379 ((rd_T48 t388 0).f0)).f1) ((rd_T48 t388 0).f1)).f2))) = w55 at n0_ n1_ n2_ n3_ n4_ ⊢
             have HO_3 := n0_; have HO_10 := n1_; have HL395_1 := n2_; have BK398 := n3_; have HB := n4_; clear n0_ n1_ n2_ n3_ n4_
             have n_ := aA (Kd.S_drew HO_3.out) <| aA (Kd.R_drew HO_10.out) <| aA (Kd.R_drew HL395_1.out) <| aA (blk_drew BK398.out) <| aM (below_drew1 HB.out); clear HO_3 HO_10 HL395_1 BK398 HB; obtain ⟨HO_3, HO_10, HL395_1, BK398, HB⟩ := n_
             have p399 : 0 ≤ ((ji41) : Int) := of_decide_eq_true nQ
             have q399 : (ji41) < (t388.length : Int) := of_decide_eq_true nQ
             obtain ⟨ad399, e399, hx399_0, hx399_1, hx399_2⟩ := at_T48 (Kd.R_reads' HO_10.out).2.2 (ji41) p399 q399
             obtain rfl : ad394 = ad399 := (by injection e399)
             replace p399 := eq_true p399; replace q399 := eq_true q399
             have p400 : 0 ≤ (((rd_T48 t388 (ji41)).f0) : Int) := of_decide_eq_true nQ
             have q400 : ((rd_T48 t388 (ji41)).f0) < (t379.length : Int) := of_decide_eq_true nQ
             obtain ⟨ad400, A400_1, c400_1, e400, hx400_0, hx400_1, hl400_1, hi400_1⟩ := at_T46 (Kd.S_reads' HO_3.out).2.2 ((rd_T48 t388 (ji41)).f0) p400 q400
             obtain rfl : ad395 = ad400 := (by injection e400)
             obtain ⟨ce400, hce400, hMe400, hcc400⟩ := Kd.S_get HO_3.out z46 ((rd_T48 t388 (ji41)).f0) p400 (by first | exact q400 | exact of_decide_eq_true nQ | (have e_ := (Kd.S_reads' HO_3.out).1; omega))
             obtain ⟨ve400_1, rfl, ge400_1⟩ := k46_openM hMe400
             have hv400_1 := hcc400 1 _ rfl
             rw [add_field _ _ 1 (by omega)] at hv400_1
             replace hv400_1 := Option.some.inj (hv400_1.symm.trans hx400_1)
             rw [hv400_1] at ge400_1
             have HL400_1 := aM (show Kd.R k43 43 _ _ _ _ ((rd_T46 t379 ((rd_T48 t388 (ji41)).f0)).f1) from ge400_1)
             clear hv400_1 ge400_1; clear hcc400 hce400
             have HR400_1 := aM hi400_1
             have HC400_1 := aM hl400_1
             clear hi400_1 hl400_1; replace p400 := eq_true p400; replace q400 := eq_true q400
             have p401 : 0 ≤ ((ji41) : Int) := of_decide_eq_true nQ
             have q401 : (ji41) < (t388.length : Int) := of_decide_eq_true nQ
             obtain ⟨ad401, e401, hx401_0, hx401_1, hx401_2⟩ := at_T48 (Kd.R_reads' HO_10.out).2.2 (ji41) p401 q401
             obtain rfl : ad394 = ad401 := (by injection e401)
             replace p401 := eq_true p401; replace q401 := eq_true q401
             have p402 : 0 ≤ (((rd_T48 t388 (ji41)).f2) : Int) := of_decide_eq_true nQ
             have q402 : ((rd_T48 t388 (ji41)).f2) < (((rd_T46 t379 ((rd_T48 t388 (ji41)).f0)).f1).length : Int) := of_decide_eq_true nQ
             obtain ⟨ad402, e402, hx402_0, hx402_1, hx402_2⟩ := at_T43 (by repeat (first | (with_reducible exact HR400_1.out) | (with_reducible refine Kd.C_alloc ?_ _) | (with_reducible refine Kd.C_drewN ?_ _) | (with_reducible refine Kd.C_drew ?_) | exact HR400_1.out)) ((rd_T48 t388 (ji41)).f2) p402 q402
             cases e402; replace p402 := eq_true p402; replace q402 := eq_true q402
             refine start_ (n := 22) (S := fun w' => w'.cell? (ad394.add (((ji41)).toNat * 3)) = some (.int .i64 ((rd_T48 t388 (ji41)).f0)) ∧ w'.cell? ⟨(ad394.add (((ji41)).toNat * 3)).block, (ad394.add (((ji41)).toNat * 3)).off + 1, none⟩ = some (.int .i64 ((rd_T48 t388 (ji41)).f1)) ∧ w'.cell? ⟨(ad394.add (((ji41)).toNat * 3)).block, (ad394.add (((ji41)).toNat * 3)).off + 2, none⟩ = some (.int .i64 ((rd_T48 t388 (ji41)).f2)) ∧ w'.cell? (ad395.add ((((rd_T48 t388 (ji41)).f0)).toNat * 2)) = some (.string ((rd_T46 t379 ((rd_T48 t388 (ji41)).f0)).f0)) ∧ w'.cell? ⟨(ad395.add ((((rd_T48 t388 (ji41)).f0)).toNat * 2)).block, (ad395.add ((((rd_T48 t388 (ji41)).f0)).toNat * 2)).off + 1, none⟩ = some (.slice (some ad402) ((rd_T46 t379 ((rd_T48 t388 (ji41)).f0)).f1).length c400_1) ∧ w'.cell? (ad394.add (((ji41)).toNat * 3)) = some (.int .i64 ((rd_T48 t388 (ji41)).f0)) ∧ w'.cell? ⟨(ad394.add (((ji41)).toNat * 3)).block, (ad394.add (((ji41)).toNat * 3)).off + 1, none⟩ = some (.int .i64 ((rd_T48 t388 (ji41)).f1)) ∧ w'.cell? ⟨(ad394.add (((ji41)).toNat * 3)).block, (ad394.add (((ji41)).toNat * 3)).off + 2, none⟩ = some (.int .i64 ((rd_T48 t388 (ji41)).f2)) ∧ w'.cell? (ad402.add ((((rd_T48 t388 (ji41)).f2)).toNat * 3)) = some (.int .i64 ((rd_T43 ((rd_T46 t379 ((rd_T48 t388 (ji41)).f0)).f1) ((rd_T48 t388 (ji41)).f2)).f0)) ∧ w'.cell? ⟨(ad402.add ((((rd_T48 t388 (ji41)).f2)).toNat * 3)).block, (ad402.add ((((rd_T48 t388 (ji41)).f2)).toNat * 3)).off + 1, none⟩ = some (.int .i64 ((rd_T43 ((rd_T46 t379 ((rd_T48 t388 (ji41)).f0)).f1) ((rd_T48 t388 (ji41)).f2)).f1)) ∧ w'.cell? ⟨(ad402.add ((((rd_T48 t388 (ji41)).f2)).toNat * 3)).block, (ad402.add ((((rd_T48 t388 (ji41)).f2)).toNat * 3)).off + 2, none⟩ = some (.int .i64 ((rd_T43 ((rd_T46 t379 ((rd_T48 t388 (ji41)).f0)).f1) ((rd_T48 t388 (ji41)).f2)).f2))) (ds := []) #[F,F,F,F,F,F,F,F,F,F,F,F,F,F,F,F,F,F,F,F,F,F] (by kernel_rfl) rfl rfl ⟨hx399_0, hx399_1, hx399_2, hx400_0, hx400_1, hx401_0, hx401_1, hx401_2, hx402_0, hx402_1, hx402_2⟩ (fun hHeld => ?_); refine with_tabW laws_FnJourney.tab14 laws_FnJourney.bits14 (fun HT_ HW_ => ?_)
             generalize w55.drew = w56 at HO_3 HO_10 HL395_1 BK398 HB HL400_1 HR400_1 hx399_0 hx399_1 hx399_2 hx400_0 hx400_1 hx401_0 hx401_1 hx401_2 hx402_0 hx402_1 hx402_2 hHeld ⊢
             refine qU 0 (some 111) rfl rfl HT_.out ?_
             refine qU 1 (some 112) rfl rfl HT_.out ?_
             refine qU 2 (some 113) rfl rfl HT_.out ?_
             refine qU 3 (some 114) rfl rfl HT_.out ?_
             refine qU 4 (some 115) rfl rfl HT_.out ?_
             refine qU 5 (some 116) rfl rfl HT_.out ?_
             refine qU 6 (some 117) rfl rfl HT_.out ?_
             refine qU 11 (some 122) rfl rfl HT_.out ?_
             refine qU 12 (some 123) rfl rfl HT_.out ?_
             refine qU 13 (some 124) rfl rfl HT_.out ?_
             refine qU 14 (some 125) rfl rfl HT_.out ?_
             refine qU 15 (some 126) rfl rfl HT_.out ?_
             refine qU 16 (some 127) rfl rfl HT_.out ?_
             refine qT11 7 (some 118) rfl rfl HT_.out HW_.out hHeld ?_
             refine qU 8 (some 119) rfl rfl HT_.out ?_
             refine qU 9 (some 120) rfl rfl HT_.out ?_
             refine qT11 10 (some 121) rfl rfl HT_.out HW_.out hHeld ?_
             refine qT11 17 (some 128) rfl rfl HT_.out HW_.out hHeld ?_
             refine qU 18 (some 129) rfl rfl HT_.out ?_
             refine qT11 19 (some 130) rfl rfl HT_.out HW_.out hHeld ?_
             refine one_ (i := 20) (N := some 12) #[T,T,T,T,T,T,T,T,T,T,T,T,T,T,T,T,T,T,T,T,T,F] rfl rfl (one_of HT_.out (by kernel_rfl)) (by decide) (fun K hK => ?_)
             refine box_step ?hg (N := 12) ?hd (cs := #[.int .i64 0, .int .i64 0, .int .i64 0]) (t := 43) ?hr ?_; (case hd => rfl); (case hg => rfl); (case hr => first | (go_simp; done) | (go_simp; rfl))
             intro gb403 hg w57 hbox hb
             have HS0_ := (hb.cell (World.block_lt_of_cell? _ _ (hHeld.1))).trans (hHeld.1)
             have HS1_ := (hb.cell (World.block_lt_of_cell? _ _ (hHeld.2.1))).trans (hHeld.2.1)
             have HS2_ := (hb.cell (World.block_lt_of_cell? _ _ (hHeld.2.2.1))).trans (hHeld.2.2.1)
             have HS3_ := (hb.cell (World.block_lt_of_cell? _ _ (hHeld.2.2.2.1))).trans (hHeld.2.2.2.1)
             have HS4_ := (hb.cell (World.block_lt_of_cell? _ _ (hHeld.2.2.2.2.1))).trans (hHeld.2.2.2.2.1)
             have HS5_ := (hb.cell (World.block_lt_of_cell? _ _ (hHeld.2.2.2.2.2.1))).trans (hHeld.2.2.2.2.2.1)
             have HS6_ := (hb.cell (World.block_lt_of_cell? _ _ (hHeld.2.2.2.2.2.2.1))).trans (hHeld.2.2.2.2.2.2.1)
             have HS7_ := (hb.cell (World.block_lt_of_cell? _ _ (hHeld.2.2.2.2.2.2.2.1))).trans (hHeld.2.2.2.2.2.2.2.1)
             have HS8_ := (hb.cell (World.block_lt_of_cell? _ _ (hHeld.2.2.2.2.2.2.2.2.1))).trans (hHeld.2.2.2.2.2.2.2.2.1)
             have HS9_ := (hb.cell (World.block_lt_of_cell? _ _ (hHeld.2.2.2.2.2.2.2.2.2.1))).trans (hHeld.2.2.2.2.2.2.2.2.2.1)
             have HS10_ := (hb.cell (World.block_lt_of_cell? _ _ (hHeld.2.2.2.2.2.2.2.2.2.2))).trans (hHeld.2.2.2.2.2.2.2.2.2.2)
             have n_ := aA (Kd.S_below (Kd.S_elderB (by (with_reducible repeat (first | apply Kd.S_alloc | apply Kd.S_drewN | apply Kd.S_drew)); exact HO_3.out) gb403 (Nat.le_of_eq hg.symm)) hb) <| aA (Kd.R_below (nR HO_10.out) hb) <| aA (Kd.R_below (Kd.R_elderB (nR HL395_1.out) gb403 (Nat.le_of_eq hg.symm)) hb) <| aA (Kd.R_below (Kd.R_elderB (nR HL400_1.out) gb403 (Nat.le_of_eq hg.symm)) hb) <| aA (nBB BK398.out hb) <| aA (Kd.C_below (by repeat (first | (with_reducible exact HR400_1.out) | (with_reducible refine Kd.C_alloc ?_ _) | (with_reducible refine Kd.C_drewN ?_ _) | (with_reducible refine Kd.C_drew ?_) | exact HR400_1.out)) hb) <| aA (below_step (nH1 HB.out GE398.out) hb) <| aA (hbox) <| aA (bS hg (nH1 HB.out GE398.out)) <| aA (bS hg (nH1 HB.out GE398.out)) <| aA (nBL BK398.out hg) <| aM (by rw [hg]; exact Nat.ne_of_gt (blk_lt (g := gb398) (o := .cells #[.int .i64 ((rd_T43 ((rd_T46 t379 ((rd_T48 t388 0).f0)).f1) ((rd_T48 t388 0).f1)).f0), .int .i64 ((rd_T43 ((rd_T46 t379 ((rd_T48 t388 0).f0)).f1) ((rd_T48 t388 0).f1)).f1), .int .i64 ((rd_T43 ((rd_T46 t379 ((rd_T48 t388 0).f0)).f1) ((rd_T48 t388 0).f1)).f2)] 43 (0, 0)) (nB BK398.out)) : gb403 ≠ gb398); clear HO_3 HO_10 HL395_1 HL400_1 BK398 HR400_1 HB; obtain ⟨HO_3, HO_10, HL395_1, HL400_1, BK398, HR400_1, HB, BK403, GW403, GE403, NB398_403, NB403_398⟩ := n_; clear hb hbox hg
             refine hK.out _ _ ⟨HS0_, HS1_, HS2_, HS3_, HS4_, HS5_, HS6_, HS7_, HS8_, HS9_, HS10_⟩ (fun hHeld => ?_)
             clear hK K
             refine norm_ (a' := ?_) ?_ ?_
             rotate_left
             · show Act.put _ (some 12) _ = _
               simp only [Act.put, List.setIfInBounds_toArray, List.set_cons_zero, List.set_cons_succ, i64_w, i32_w]
               rfl
             refine one_ (i := 21) (N := none) #[T,T,T,T,T,T,T,T,T,T,T,T,T,T,T,T,T,T,T,T,T,T] rfl rfl (one_of HT_.out (by kernel_rfl)) (by decide) (fun K hK => ?_)
             have hs58 : w57.cell? ⟨gb403, 0, none⟩ = some (.int .i64 0) := (blk_cell BK403.out 0).trans rfl
             have hfs58 := blk_frozen BK403.out 0
             have hns58_0 := NB398_403.out; have hms58_0 := NB403_398.out
             have hs59 : w57.cell? ⟨gb403, 1, none⟩ = some (.int .i64 0) := (blk_cell BK403.out 1).trans rfl
             have hfs59 := blk_frozen BK403.out 1
             have hns59_0 := NB398_403.out; have hms59_0 := NB403_398.out
             have hs60 : w57.cell? ⟨gb403, 2, none⟩ = some (.int .i64 0) := (blk_cell BK403.out 2).trans rfl
             have hfs60 := blk_frozen BK403.out 2
             have hns60_0 := NB398_403.out; have hms60_0 := NB403_398.out
             refine skip_ (w1 := ?_) (by rfl) rfl ?_ ?_
             rotate_left
             · go_simp; rfl
             refine hK.out _ _ ⟨((cell_far (p := ⟨gb403, _, none⟩) (by (try dsimp only); first | exact Kd.own_blk (Kd.R_ne HO_10.out BK403.out (by decide)) | (rw [add_block]; exact Kd.own_blk (Kd.R_ne HO_10.out BK403.out (by decide))) | (show (Addr.add _ _).block ≠ _; rw [add_block]; exact Kd.own_blk (Kd.R_ne HO_10.out BK403.out (by decide))) | (dsimp only; exact Kd.own_blk (Kd.R_ne HO_10.out BK403.out (by decide)))) _).trans (((cell_far (p := ⟨gb403, _, none⟩) (by (try dsimp only); first | exact Kd.own_blk (Kd.R_ne HO_10.out BK403.out (by decide)) | (rw [add_block]; exact Kd.own_blk (Kd.R_ne HO_10.out BK403.out (by decide))) | (show (Addr.add _ _).block ≠ _; rw [add_block]; exact Kd.own_blk (Kd.R_ne HO_10.out BK403.out (by decide))) | (dsimp only; exact Kd.own_blk (Kd.R_ne HO_10.out BK403.out (by decide)))) _).trans (((cell_far (p := ⟨gb403, _, none⟩) (by (try dsimp only); first | exact Kd.own_blk (Kd.R_ne HO_10.out BK403.out (by decide)) | (rw [add_block]; exact Kd.own_blk (Kd.R_ne HO_10.out BK403.out (by decide))) | (show (Addr.add _ _).block ≠ _; rw [add_block]; exact Kd.own_blk (Kd.R_ne HO_10.out BK403.out (by decide))) | (dsimp only; exact Kd.own_blk (Kd.R_ne HO_10.out BK403.out (by decide)))) _).trans (hHeld.1)))))), ((cell_far (p := ⟨gb403, _, none⟩) (by (try dsimp only); first | exact Kd.own_blk (Kd.R_ne HO_10.out BK403.out (by decide)) | (rw [add_block]; exact Kd.own_blk (Kd.R_ne HO_10.out BK403.out (by decide))) | (show (Addr.add _ _).block ≠ _; rw [add_block]; exact Kd.own_blk (Kd.R_ne HO_10.out BK403.out (by decide))) | (dsimp only; exact Kd.own_blk (Kd.R_ne HO_10.out BK403.out (by decide)))) _).trans (((cell_far (p := ⟨gb403, _, none⟩) (by (try dsimp only); first | exact Kd.own_blk (Kd.R_ne HO_10.out BK403.out (by decide)) | (rw [add_block]; exact Kd.own_blk (Kd.R_ne HO_10.out BK403.out (by decide))) | (show (Addr.add _ _).block ≠ _; rw [add_block]; exact Kd.own_blk (Kd.R_ne HO_10.out BK403.out (by decide))) | (dsimp only; exact Kd.own_blk (Kd.R_ne HO_10.out BK403.out (by decide)))) _).trans (((cell_far (p := ⟨gb403, _, none⟩) (by (try dsimp only); first | exact Kd.own_blk (Kd.R_ne HO_10.out BK403.out (by decide)) | (rw [add_block]; exact Kd.own_blk (Kd.R_ne HO_10.out BK403.out (by decide))) | (show (Addr.add _ _).block ≠ _; rw [add_block]; exact Kd.own_blk (Kd.R_ne HO_10.out BK403.out (by decide))) | (dsimp only; exact Kd.own_blk (Kd.R_ne HO_10.out BK403.out (by decide)))) _).trans (hHeld.2.1)))))), ((cell_far (p := ⟨gb403, _, none⟩) (by (try dsimp only); first | exact Kd.own_blk (Kd.R_ne HO_10.out BK403.out (by decide)) | (rw [add_block]; exact Kd.own_blk (Kd.R_ne HO_10.out BK403.out (by decide))) | (show (Addr.add _ _).block ≠ _; rw [add_block]; exact Kd.own_blk (Kd.R_ne HO_10.out BK403.out (by decide))) | (dsimp only; exact Kd.own_blk (Kd.R_ne HO_10.out BK403.out (by decide)))) _).trans (((cell_far (p := ⟨gb403, _, none⟩) (by (try dsimp only); first | exact Kd.own_blk (Kd.R_ne HO_10.out BK403.out (by decide)) | (rw [add_block]; exact Kd.own_blk (Kd.R_ne HO_10.out BK403.out (by decide))) | (show (Addr.add _ _).block ≠ _; rw [add_block]; exact Kd.own_blk (Kd.R_ne HO_10.out BK403.out (by decide))) | (dsimp only; exact Kd.own_blk (Kd.R_ne HO_10.out BK403.out (by decide)))) _).trans (((cell_far (p := ⟨gb403, _, none⟩) (by (try dsimp only); first | exact Kd.own_blk (Kd.R_ne HO_10.out BK403.out (by decide)) | (rw [add_block]; exact Kd.own_blk (Kd.R_ne HO_10.out BK403.out (by decide))) | (show (Addr.add _ _).block ≠ _; rw [add_block]; exact Kd.own_blk (Kd.R_ne HO_10.out BK403.out (by decide))) | (dsimp only; exact Kd.own_blk (Kd.R_ne HO_10.out BK403.out (by decide)))) _).trans (hHeld.2.2.1)))))), ((cell_far (p := ⟨gb403, _, none⟩) (by (try dsimp only); first | exact Kd.own_blk (Kd.S_away HO_3.out (fun _ hk => hk.2)) | (rw [add_block]; exact Kd.own_blk (Kd.S_away HO_3.out (fun _ hk => hk.2))) | (show (Addr.add _ _).block ≠ _; rw [add_block]; exact Kd.own_blk (Kd.S_away HO_3.out (fun _ hk => hk.2))) | (dsimp only; exact Kd.own_blk (Kd.S_away HO_3.out (fun _ hk => hk.2)))) _).trans (((cell_far (p := ⟨gb403, _, none⟩) (by (try dsimp only); first | exact Kd.own_blk (Kd.S_away HO_3.out (fun _ hk => hk.2)) | (rw [add_block]; exact Kd.own_blk (Kd.S_away HO_3.out (fun _ hk => hk.2))) | (show (Addr.add _ _).block ≠ _; rw [add_block]; exact Kd.own_blk (Kd.S_away HO_3.out (fun _ hk => hk.2))) | (dsimp only; exact Kd.own_blk (Kd.S_away HO_3.out (fun _ hk => hk.2)))) _).trans (((cell_far (p := ⟨gb403, _, none⟩) (by (try dsimp only); first | exact Kd.own_blk (Kd.S_away HO_3.out (fun _ hk => hk.2)) | (rw [add_block]; exact Kd.own_blk (Kd.S_away HO_3.out (fun _ hk => hk.2))) | (show (Addr.add _ _).block ≠ _; rw [add_block]; exact Kd.own_blk (Kd.S_away HO_3.out (fun _ hk => hk.2))) | (dsimp only; exact Kd.own_blk (Kd.S_away HO_3.out (fun _ hk => hk.2)))) _).trans (hHeld.2.2.2.1)))))), ((cell_far (p := ⟨gb403, _, none⟩) (by (try dsimp only); first | exact Kd.own_blk (Kd.S_away HO_3.out (fun _ hk => hk.2)) | (rw [add_block]; exact Kd.own_blk (Kd.S_away HO_3.out (fun _ hk => hk.2))) | (show (Addr.add _ _).block ≠ _; rw [add_block]; exact Kd.own_blk (Kd.S_away HO_3.out (fun _ hk => hk.2))) | (dsimp only; exact Kd.own_blk (Kd.S_away HO_3.out (fun _ hk => hk.2)))) _).trans (((cell_far (p := ⟨gb403, _, none⟩) (by (try dsimp only); first | exact Kd.own_blk (Kd.S_away HO_3.out (fun _ hk => hk.2)) | (rw [add_block]; exact Kd.own_blk (Kd.S_away HO_3.out (fun _ hk => hk.2))) | (show (Addr.add _ _).block ≠ _; rw [add_block]; exact Kd.own_blk (Kd.S_away HO_3.out (fun _ hk => hk.2))) | (dsimp only; exact Kd.own_blk (Kd.S_away HO_3.out (fun _ hk => hk.2)))) _).trans (((cell_far (p := ⟨gb403, _, none⟩) (by (try dsimp only); first | exact Kd.own_blk (Kd.S_away HO_3.out (fun _ hk => hk.2)) | (rw [add_block]; exact Kd.own_blk (Kd.S_away HO_3.out (fun _ hk => hk.2))) | (show (Addr.add _ _).block ≠ _; rw [add_block]; exact Kd.own_blk (Kd.S_away HO_3.out (fun _ hk => hk.2))) | (dsimp only; exact Kd.own_blk (Kd.S_away HO_3.out (fun _ hk => hk.2)))) _).trans (hHeld.2.2.2.2.1)))))), ((cell_far (p := ⟨gb403, _, none⟩) (by (try dsimp only); first | exact Kd.own_blk (Kd.R_ne HO_10.out BK403.out (by decide)) | (rw [add_block]; exact Kd.own_blk (Kd.R_ne HO_10.out BK403.out (by decide))) | (show (Addr.add _ _).block ≠ _; rw [add_block]; exact Kd.own_blk (Kd.R_ne HO_10.out BK403.out (by decide))) | (dsimp only; exact Kd.own_blk (Kd.R_ne HO_10.out BK403.out (by decide)))) _).trans (((cell_far (p := ⟨gb403, _, none⟩) (by (try dsimp only); first | exact Kd.own_blk (Kd.R_ne HO_10.out BK403.out (by decide)) | (rw [add_block]; exact Kd.own_blk (Kd.R_ne HO_10.out BK403.out (by decide))) | (show (Addr.add _ _).block ≠ _; rw [add_block]; exact Kd.own_blk (Kd.R_ne HO_10.out BK403.out (by decide))) | (dsimp only; exact Kd.own_blk (Kd.R_ne HO_10.out BK403.out (by decide)))) _).trans (((cell_far (p := ⟨gb403, _, none⟩) (by (try dsimp only); first | exact Kd.own_blk (Kd.R_ne HO_10.out BK403.out (by decide)) | (rw [add_block]; exact Kd.own_blk (Kd.R_ne HO_10.out BK403.out (by decide))) | (show (Addr.add _ _).block ≠ _; rw [add_block]; exact Kd.own_blk (Kd.R_ne HO_10.out BK403.out (by decide))) | (dsimp only; exact Kd.own_blk (Kd.R_ne HO_10.out BK403.out (by decide)))) _).trans (hHeld.2.2.2.2.2.1)))))), ((cell_far (p := ⟨gb403, _, none⟩) (by (try dsimp only); first | exact Kd.own_blk (Kd.R_ne HO_10.out BK403.out (by decide)) | (rw [add_block]; exact Kd.own_blk (Kd.R_ne HO_10.out BK403.out (by decide))) | (show (Addr.add _ _).block ≠ _; rw [add_block]; exact Kd.own_blk (Kd.R_ne HO_10.out BK403.out (by decide))) | (dsimp only; exact Kd.own_blk (Kd.R_ne HO_10.out BK403.out (by decide)))) _).trans (((cell_far (p := ⟨gb403, _, none⟩) (by (try dsimp only); first | exact Kd.own_blk (Kd.R_ne HO_10.out BK403.out (by decide)) | (rw [add_block]; exact Kd.own_blk (Kd.R_ne HO_10.out BK403.out (by decide))) | (show (Addr.add _ _).block ≠ _; rw [add_block]; exact Kd.own_blk (Kd.R_ne HO_10.out BK403.out (by decide))) | (dsimp only; exact Kd.own_blk (Kd.R_ne HO_10.out BK403.out (by decide)))) _).trans (((cell_far (p := ⟨gb403, _, none⟩) (by (try dsimp only); first | exact Kd.own_blk (Kd.R_ne HO_10.out BK403.out (by decide)) | (rw [add_block]; exact Kd.own_blk (Kd.R_ne HO_10.out BK403.out (by decide))) | (show (Addr.add _ _).block ≠ _; rw [add_block]; exact Kd.own_blk (Kd.R_ne HO_10.out BK403.out (by decide))) | (dsimp only; exact Kd.own_blk (Kd.R_ne HO_10.out BK403.out (by decide)))) _).trans (hHeld.2.2.2.2.2.2.1)))))), ((cell_far (p := ⟨gb403, _, none⟩) (by (try dsimp only); first | exact Kd.own_blk (Kd.R_ne HO_10.out BK403.out (by decide)) | (rw [add_block]; exact Kd.own_blk (Kd.R_ne HO_10.out BK403.out (by decide))) | (show (Addr.add _ _).block ≠ _; rw [add_block]; exact Kd.own_blk (Kd.R_ne HO_10.out BK403.out (by decide))) | (dsimp only; exact Kd.own_blk (Kd.R_ne HO_10.out BK403.out (by decide)))) _).trans (((cell_far (p := ⟨gb403, _, none⟩) (by (try dsimp only); first | exact Kd.own_blk (Kd.R_ne HO_10.out BK403.out (by decide)) | (rw [add_block]; exact Kd.own_blk (Kd.R_ne HO_10.out BK403.out (by decide))) | (show (Addr.add _ _).block ≠ _; rw [add_block]; exact Kd.own_blk (Kd.R_ne HO_10.out BK403.out (by decide))) | (dsimp only; exact Kd.own_blk (Kd.R_ne HO_10.out BK403.out (by decide)))) _).trans (((cell_far (p := ⟨gb403, _, none⟩) (by (try dsimp only); first | exact Kd.own_blk (Kd.R_ne HO_10.out BK403.out (by decide)) | (rw [add_block]; exact Kd.own_blk (Kd.R_ne HO_10.out BK403.out (by decide))) | (show (Addr.add _ _).block ≠ _; rw [add_block]; exact Kd.own_blk (Kd.R_ne HO_10.out BK403.out (by decide))) | (dsimp only; exact Kd.own_blk (Kd.R_ne HO_10.out BK403.out (by decide)))) _).trans (hHeld.2.2.2.2.2.2.2.1)))))), ((cell_far (p := ⟨gb403, _, none⟩) (by (try dsimp only); first | exact Kd.own_blk (Kd.R_away HL400_1.out (fun _ hk => hk.2)) | (rw [add_block]; exact Kd.own_blk (Kd.R_away HL400_1.out (fun _ hk => hk.2))) | (show (Addr.add _ _).block ≠ _; rw [add_block]; exact Kd.own_blk (Kd.R_away HL400_1.out (fun _ hk => hk.2))) | (dsimp only; exact Kd.own_blk (Kd.R_away HL400_1.out (fun _ hk => hk.2)))) _).trans (((cell_far (p := ⟨gb403, _, none⟩) (by (try dsimp only); first | exact Kd.own_blk (Kd.R_away HL400_1.out (fun _ hk => hk.2)) | (rw [add_block]; exact Kd.own_blk (Kd.R_away HL400_1.out (fun _ hk => hk.2))) | (show (Addr.add _ _).block ≠ _; rw [add_block]; exact Kd.own_blk (Kd.R_away HL400_1.out (fun _ hk => hk.2))) | (dsimp only; exact Kd.own_blk (Kd.R_away HL400_1.out (fun _ hk => hk.2)))) _).trans (((cell_far (p := ⟨gb403, _, none⟩) (by (try dsimp only); first | exact Kd.own_blk (Kd.R_away HL400_1.out (fun _ hk => hk.2)) | (rw [add_block]; exact Kd.own_blk (Kd.R_away HL400_1.out (fun _ hk => hk.2))) | (show (Addr.add _ _).block ≠ _; rw [add_block]; exact Kd.own_blk (Kd.R_away HL400_1.out (fun _ hk => hk.2))) | (dsimp only; exact Kd.own_blk (Kd.R_away HL400_1.out (fun _ hk => hk.2)))) _).trans (hHeld.2.2.2.2.2.2.2.2.1)))))), ((cell_far (p := ⟨gb403, _, none⟩) (by (try dsimp only); first | exact Kd.own_blk (Kd.R_away HL400_1.out (fun _ hk => hk.2)) | (rw [add_block]; exact Kd.own_blk (Kd.R_away HL400_1.out (fun _ hk => hk.2))) | (show (Addr.add _ _).block ≠ _; rw [add_block]; exact Kd.own_blk (Kd.R_away HL400_1.out (fun _ hk => hk.2))) | (dsimp only; exact Kd.own_blk (Kd.R_away HL400_1.out (fun _ hk => hk.2)))) _).trans (((cell_far (p := ⟨gb403, _, none⟩) (by (try dsimp only); first | exact Kd.own_blk (Kd.R_away HL400_1.out (fun _ hk => hk.2)) | (rw [add_block]; exact Kd.own_blk (Kd.R_away HL400_1.out (fun _ hk => hk.2))) | (show (Addr.add _ _).block ≠ _; rw [add_block]; exact Kd.own_blk (Kd.R_away HL400_1.out (fun _ hk => hk.2))) | (dsimp only; exact Kd.own_blk (Kd.R_away HL400_1.out (fun _ hk => hk.2)))) _).trans (((cell_far (p := ⟨gb403, _, none⟩) (by (try dsimp only); first | exact Kd.own_blk (Kd.R_away HL400_1.out (fun _ hk => hk.2)) | (rw [add_block]; exact Kd.own_blk (Kd.R_away HL400_1.out (fun _ hk => hk.2))) | (show (Addr.add _ _).block ≠ _; rw [add_block]; exact Kd.own_blk (Kd.R_away HL400_1.out (fun _ hk => hk.2))) | (dsimp only; exact Kd.own_blk (Kd.R_away HL400_1.out (fun _ hk => hk.2)))) _).trans (hHeld.2.2.2.2.2.2.2.2.2.1)))))), ((cell_far (p := ⟨gb403, _, none⟩) (by (try dsimp only); first | exact Kd.own_blk (Kd.R_away HL400_1.out (fun _ hk => hk.2)) | (rw [add_block]; exact Kd.own_blk (Kd.R_away HL400_1.out (fun _ hk => hk.2))) | (show (Addr.add _ _).block ≠ _; rw [add_block]; exact Kd.own_blk (Kd.R_away HL400_1.out (fun _ hk => hk.2))) | (dsimp only; exact Kd.own_blk (Kd.R_away HL400_1.out (fun _ hk => hk.2)))) _).trans (((cell_far (p := ⟨gb403, _, none⟩) (by (try dsimp only); first | exact Kd.own_blk (Kd.R_away HL400_1.out (fun _ hk => hk.2)) | (rw [add_block]; exact Kd.own_blk (Kd.R_away HL400_1.out (fun _ hk => hk.2))) | (show (Addr.add _ _).block ≠ _; rw [add_block]; exact Kd.own_blk (Kd.R_away HL400_1.out (fun _ hk => hk.2))) | (dsimp only; exact Kd.own_blk (Kd.R_away HL400_1.out (fun _ hk => hk.2)))) _).trans (((cell_far (p := ⟨gb403, _, none⟩) (by (try dsimp only); first | exact Kd.own_blk (Kd.R_away HL400_1.out (fun _ hk => hk.2)) | (rw [add_block]; exact Kd.own_blk (Kd.R_away HL400_1.out (fun _ hk => hk.2))) | (show (Addr.add _ _).block ≠ _; rw [add_block]; exact Kd.own_blk (Kd.R_away HL400_1.out (fun _ hk => hk.2))) | (dsimp only; exact Kd.own_blk (Kd.R_away HL400_1.out (fun _ hk => hk.2)))) _).trans (hHeld.2.2.2.2.2.2.2.2.2.2))))))⟩ (fun hHeld => ?_)
             clear hK K
             refine done_ (done_of HT_.out (by kernel_rfl)) ?_
             go_upto_region 15 with (fail)
             go_cut [152] (fun v152 wc => ∃ (kq : Nat) (x152_47 : Bool), v152 = .bool x152_47 ∧ Aside0 (laws_FnJourney.j2 kq t379 t380 t381 t382 t383 t387 t388 x152_47 = some r) ∧ Aside0 (kq ≤ kj21) ∧ Aside0 (Kd.S k46 46 wc w.heap.size (fun k_ => k_ ≠ gb398 ∧ k_ ≠ gb403) (.slice (some ad395) t379.length co12) t379) ∧ Aside0 (Kd.R k48 48 wc w.heap.size (fun _ => True) (.slice (some ad394) t388.length co50) t388) ∧ Aside0 (wc.heap[gb398]? = some (.cells #[.int .i64 ((rd_T43 ((rd_T46 t379 ((rd_T48 t388 0).f0)).f1) ((rd_T48 t388 0).f1)).f0), .int .i64 ((rd_T43 ((rd_T46 t379 ((rd_T48 t388 0).f0)).f1) ((rd_T48 t388 0).f1)).f1), .int .i64 ((rd_T43 ((rd_T46 t379 ((rd_T48 t388 0).f0)).f1) ((rd_T48 t388 0).f1)).f2)] 43 (0, 0))) ∧ Aside0 (wc.heap[gb403]? = some (.cells #[.int .i64 ((rd_T43 ((rd_T46 t379 ((rd_T48 t388 (ji41)).f0)).f1) ((rd_T48 t388 (ji41)).f2)).f0), .int .i64 ((rd_T43 ((rd_T46 t379 ((rd_T48 t388 (ji41)).f0)).f1) ((rd_T48 t388 (ji41)).f2)).f1), .int .i64 ((rd_T43 ((rd_T46 t379 ((rd_T48 t388 (ji41)).f0)).f1) ((rd_T48 t388 (ji41)).f2)).f2)] 43 (0, 0))) ∧ Aside0 (Kd.C k43 wc (some ad402) ((rd_T46 t379 ((rd_T48 t388 (ji41)).f0)).f1).length ((rd_T46 t379 ((rd_T48 t388 (ji41)).f0)).f1)) ∧ Aside0 (Below w.heap.size w wc))
             case first =>
              have H := HC48.out; clear HC48
              by_cases c61 : ((rd_T43 ((rd_T46 t379 ((rd_T48 t388 0).f0)).f1) ((rd_T48 t388 0).f1)).f0) = t380
              · rw [if_pos c61] at H
                have c61b0 : (((rd_T43 ((rd_T46 t379 ((rd_T48 t388 0).f0)).f1) ((rd_T48 t388 0).f1)).f0) == t380) = true := beq_iff_eq.mpr c61
                have c61b1 : (((rd_T43 ((rd_T46 t379 ((rd_T48 t388 0).f0)).f1) ((rd_T48 t388 0).f1)).f0) != t380) = false := bne_eq_false_iff_eq.mpr c61
                clear c61
                (first | rw [c61b0] | (simp only [i64_w, i32_w]; rw [c61b0]) | skip)
                by_cases c62 : ((rd_T43 ((rd_T46 t379 ((rd_T48 t388 0).f0)).f1) ((rd_T48 t388 0).f1)).f2) < t382
                · rw [if_pos c62] at H
                  have c62b0 : decide (((rd_T43 ((rd_T46 t379 ((rd_T48 t388 0).f0)).f1) ((rd_T48 t388 0).f1)).f2) < t382) = true := decide_eq_true c62
                  clear c62
                  have H' := aM H
                  clear H; have hnb63 := NB398_403.out; have hnc63 := NB403_398.out
                  obtain ⟨hcz64_0, hcz64_1, hcz64_2, hfz64_0, hfz64_1, hfz64_2⟩ := nK3 BK398.out
                  go_wp2
                  go_meet
                  case rel => exact ⟨_, (true), nS, H', ⟨by have := HJ9.out; have := HJ21.out; first | omega | exact Nat.le_refl _⟩, ⟨by (with_reducible repeat (first | apply Kd.S_alloc | apply Kd.S_drewN | apply Kd.S_drew)); exact Kd.S_mono (Kd.S_far (p := ⟨gb403, 2, none⟩) (Kd.S_far (p := ⟨gb403, 1, none⟩) (Kd.S_far (p := ⟨gb403, 0, none⟩) (Kd.S_mono HO_3.out (fun k_ hk => (⟨hk, hk.2⟩ : _ ∧ k_ ≠ gb403))) (fun _ hk => hk.2) (.int .i64 ((rd_T43 ((rd_T46 t379 ((rd_T48 t388 (ji41)).f0)).f1) ((rd_T48 t388 (ji41)).f2)).f0))) (fun _ hk => hk.2) (.int .i64 ((rd_T43 ((rd_T46 t379 ((rd_T48 t388 (ji41)).f0)).f1) ((rd_T48 t388 (ji41)).f2)).f1))) (fun _ hk => hk.2) (.int .i64 ((rd_T43 ((rd_T46 t379 ((rd_T48 t388 (ji41)).f0)).f1) ((rd_T48 t388 (ji41)).f2)).f2))) (fun _ hk => ⟨hk.1.1, hk.1.2⟩)⟩, ⟨by (with_reducible repeat (first | apply Kd.R_alloc | apply Kd.R_drewN | apply Kd.R_drew)); exact Kd.R_mono (Kd.R_far (p := ⟨gb403, 2, none⟩) (Kd.R_far (p := ⟨gb403, 1, none⟩) (Kd.R_far (p := ⟨gb403, 0, none⟩) (Kd.R_types HO_10.out BK403.out (by decide)) (fun _ hk => hk.2) (.int .i64 ((rd_T43 ((rd_T46 t379 ((rd_T48 t388 (ji41)).f0)).f1) ((rd_T48 t388 (ji41)).f2)).f0))) (fun _ hk => hk.2) (.int .i64 ((rd_T43 ((rd_T46 t379 ((rd_T48 t388 (ji41)).f0)).f1) ((rd_T48 t388 (ji41)).f2)).f1))) (fun _ hk => hk.2) (.int .i64 ((rd_T43 ((rd_T46 t379 ((rd_T48 t388 (ji41)).f0)).f1) ((rd_T48 t388 (ji41)).f2)).f2))) (fun _ hk => trivial)⟩, ⟨by refine nE ?_; refine blk_far ?_ NB398_403.out _; refine nE ?_; refine blk_far ?_ NB398_403.out _; refine nE ?_; refine blk_far ?_ NB398_403.out _; exact nB BK398.out⟩, ⟨by refine nE ?_; refine blk_put (cs := #[.int .i64 ((rd_T43 ((rd_T46 t379 ((rd_T48 t388 (ji41)).f0)).f1) ((rd_T48 t388 (ji41)).f2)).f0), .int .i64 ((rd_T43 ((rd_T46 t379 ((rd_T48 t388 (ji41)).f0)).f1) ((rd_T48 t388 (ji41)).f2)).f1), .int .i64 0]) ?_ 2 _ rfl; refine nE ?_; refine blk_put (cs := #[.int .i64 ((rd_T43 ((rd_T46 t379 ((rd_T48 t388 (ji41)).f0)).f1) ((rd_T48 t388 (ji41)).f2)).f0), .int .i64 0, .int .i64 0]) ?_ 1 _ rfl; refine nE ?_; refine blk_put (cs := #[.int .i64 0, .int .i64 0, .int .i64 0]) ?_ 0 _ rfl; exact nB BK403.out⟩, ⟨(Kd.R_reads' (by (with_reducible repeat (first | apply Kd.R_alloc | apply Kd.R_drewN | apply Kd.R_drew)); exact (Kd.R_mono (Kd.R_far (p := ⟨gb403, 2, none⟩) (Kd.R_far (p := ⟨gb403, 1, none⟩) (Kd.R_far (p := ⟨gb403, 0, none⟩) (Kd.R_mono HL400_1.out (fun k_ hk => (⟨hk, hk.2⟩ : _ ∧ k_ ≠ gb403))) (fun _ hk => hk.2) (.int .i64 ((rd_T43 ((rd_T46 t379 ((rd_T48 t388 (ji41)).f0)).f1) ((rd_T48 t388 (ji41)).f2)).f0))) (fun _ hk => hk.2) (.int .i64 ((rd_T43 ((rd_T46 t379 ((rd_T48 t388 (ji41)).f0)).f1) ((rd_T48 t388 (ji41)).f2)).f1))) (fun _ hk => hk.2) (.int .i64 ((rd_T43 ((rd_T46 t379 ((rd_T48 t388 (ji41)).f0)).f1) ((rd_T48 t388 (ji41)).f2)).f2))) (fun _ h_ => h_.1)))).2.2⟩, ⟨nH2 HB.out GE398.out GE403.out⟩⟩
                · rw [if_neg c62] at H
                  have c62b0 : decide (((rd_T43 ((rd_T46 t379 ((rd_T48 t388 0).f0)).f1) ((rd_T48 t388 0).f1)).f2) < t382) = false := decide_eq_false c62
                  clear c62
                  by_cases c65 : ((rd_T43 ((rd_T46 t379 ((rd_T48 t388 (ji41)).f0)).f1) ((rd_T48 t388 (ji41)).f2)).f0) = t381
                  · rw [if_pos c65] at H
                    have c65b0 : (((rd_T43 ((rd_T46 t379 ((rd_T48 t388 (ji41)).f0)).f1) ((rd_T48 t388 (ji41)).f2)).f0) == t381) = true := beq_iff_eq.mpr c65
                    have c65b1 : (((rd_T43 ((rd_T46 t379 ((rd_T48 t388 (ji41)).f0)).f1) ((rd_T48 t388 (ji41)).f2)).f0) != t381) = false := bne_eq_false_iff_eq.mpr c65
                    clear c65
                    have H' := aM H
                    clear H; have hnb66 := NB398_403.out; have hnc66 := NB403_398.out
                    obtain ⟨hcz67_0, hcz67_1, hcz67_2, hfz67_0, hfz67_1, hfz67_2⟩ := nK3 BK398.out
                    obtain ⟨hcz68_0, hcz68_1, hcz68_2, hfz68_0, hfz68_1, hfz68_2⟩ := nK3 BK403.out
                    go_wp2
                    go_meet
                    case rel => exact ⟨_, ((((rd_T43 ((rd_T46 t379 ((rd_T48 t388 (ji41)).f0)).f1) ((rd_T48 t388 (ji41)).f2)).f1) != t387)), (by first | rfl | (simp; done) | (simp only [← hji41] <;> (first | rfl | simp)) | (simp [*]; done)), H', ⟨by have := HJ9.out; have := HJ21.out; first | omega | exact Nat.le_refl _⟩, ⟨by (with_reducible repeat (first | apply Kd.S_alloc | apply Kd.S_drewN | apply Kd.S_drew)); exact Kd.S_mono (Kd.S_far (p := ⟨gb403, 2, none⟩) (Kd.S_far (p := ⟨gb403, 1, none⟩) (Kd.S_far (p := ⟨gb403, 0, none⟩) (Kd.S_mono HO_3.out (fun k_ hk => (⟨hk, hk.2⟩ : _ ∧ k_ ≠ gb403))) (fun _ hk => hk.2) (.int .i64 ((rd_T43 ((rd_T46 t379 ((rd_T48 t388 (ji41)).f0)).f1) ((rd_T48 t388 (ji41)).f2)).f0))) (fun _ hk => hk.2) (.int .i64 ((rd_T43 ((rd_T46 t379 ((rd_T48 t388 (ji41)).f0)).f1) ((rd_T48 t388 (ji41)).f2)).f1))) (fun _ hk => hk.2) (.int .i64 ((rd_T43 ((rd_T46 t379 ((rd_T48 t388 (ji41)).f0)).f1) ((rd_T48 t388 (ji41)).f2)).f2))) (fun _ hk => ⟨hk.1.1, hk.1.2⟩)⟩, ⟨by (with_reducible repeat (first | apply Kd.R_alloc | apply Kd.R_drewN | apply Kd.R_drew)); exact Kd.R_mono (Kd.R_far (p := ⟨gb403, 2, none⟩) (Kd.R_far (p := ⟨gb403, 1, none⟩) (Kd.R_far (p := ⟨gb403, 0, none⟩) (Kd.R_types HO_10.out BK403.out (by decide)) (fun _ hk => hk.2) (.int .i64 ((rd_T43 ((rd_T46 t379 ((rd_T48 t388 (ji41)).f0)).f1) ((rd_T48 t388 (ji41)).f2)).f0))) (fun _ hk => hk.2) (.int .i64 ((rd_T43 ((rd_T46 t379 ((rd_T48 t388 (ji41)).f0)).f1) ((rd_T48 t388 (ji41)).f2)).f1))) (fun _ hk => hk.2) (.int .i64 ((rd_T43 ((rd_T46 t379 ((rd_T48 t388 (ji41)).f0)).f1) ((rd_T48 t388 (ji41)).f2)).f2))) (fun _ hk => trivial)⟩, ⟨by refine nE ?_; refine blk_far ?_ NB398_403.out _; refine nE ?_; refine blk_far ?_ NB398_403.out _; refine nE ?_; refine blk_far ?_ NB398_403.out _; exact nB BK398.out⟩, ⟨by refine nE ?_; refine blk_put (cs := #[.int .i64 ((rd_T43 ((rd_T46 t379 ((rd_T48 t388 (ji41)).f0)).f1) ((rd_T48 t388 (ji41)).f2)).f0), .int .i64 ((rd_T43 ((rd_T46 t379 ((rd_T48 t388 (ji41)).f0)).f1) ((rd_T48 t388 (ji41)).f2)).f1), .int .i64 0]) ?_ 2 _ rfl; refine nE ?_; refine blk_put (cs := #[.int .i64 ((rd_T43 ((rd_T46 t379 ((rd_T48 t388 (ji41)).f0)).f1) ((rd_T48 t388 (ji41)).f2)).f0), .int .i64 0, .int .i64 0]) ?_ 1 _ rfl; refine nE ?_; refine blk_put (cs := #[.int .i64 0, .int .i64 0, .int .i64 0]) ?_ 0 _ rfl; exact nB BK403.out⟩, ⟨(Kd.R_reads' (by (with_reducible repeat (first | apply Kd.R_alloc | apply Kd.R_drewN | apply Kd.R_drew)); exact (Kd.R_mono (Kd.R_far (p := ⟨gb403, 2, none⟩) (Kd.R_far (p := ⟨gb403, 1, none⟩) (Kd.R_far (p := ⟨gb403, 0, none⟩) (Kd.R_mono HL400_1.out (fun k_ hk => (⟨hk, hk.2⟩ : _ ∧ k_ ≠ gb403))) (fun _ hk => hk.2) (.int .i64 ((rd_T43 ((rd_T46 t379 ((rd_T48 t388 (ji41)).f0)).f1) ((rd_T48 t388 (ji41)).f2)).f0))) (fun _ hk => hk.2) (.int .i64 ((rd_T43 ((rd_T46 t379 ((rd_T48 t388 (ji41)).f0)).f1) ((rd_T48 t388 (ji41)).f2)).f1))) (fun _ hk => hk.2) (.int .i64 ((rd_T43 ((rd_T46 t379 ((rd_T48 t388 (ji41)).f0)).f1) ((rd_T48 t388 (ji41)).f2)).f2))) (fun _ h_ => h_.1)))).2.2⟩, ⟨nH2 HB.out GE398.out GE403.out⟩⟩
                  · rw [if_neg c65] at H
                    have c65b0 : (((rd_T43 ((rd_T46 t379 ((rd_T48 t388 (ji41)).f0)).f1) ((rd_T48 t388 (ji41)).f2)).f0) == t381) = false := beq_eq_false_iff_ne.mpr c65
                    have c65b1 : (((rd_T43 ((rd_T46 t379 ((rd_T48 t388 (ji41)).f0)).f1) ((rd_T48 t388 (ji41)).f2)).f0) != t381) = true := bne_iff_ne.mpr c65
                    have H' := aM H
                    clear H; have hnb69 := NB398_403.out; have hnc69 := NB403_398.out
                    obtain ⟨hcz70_0, hcz70_1, hcz70_2, hfz70_0, hfz70_1, hfz70_2⟩ := nK3 BK398.out
                    obtain ⟨hcz71_0, hcz71_1, hcz71_2, hfz71_0, hfz71_1, hfz71_2⟩ := nK3 BK403.out
                    go_wp2
                    go_meet
                    case rel => exact ⟨_, (true), nS, H', ⟨by have := HJ9.out; have := HJ21.out; first | omega | exact Nat.le_refl _⟩, ⟨by (with_reducible repeat (first | apply Kd.S_alloc | apply Kd.S_drewN | apply Kd.S_drew)); exact Kd.S_mono (Kd.S_far (p := ⟨gb403, 2, none⟩) (Kd.S_far (p := ⟨gb403, 1, none⟩) (Kd.S_far (p := ⟨gb403, 0, none⟩) (Kd.S_mono HO_3.out (fun k_ hk => (⟨hk, hk.2⟩ : _ ∧ k_ ≠ gb403))) (fun _ hk => hk.2) (.int .i64 ((rd_T43 ((rd_T46 t379 ((rd_T48 t388 (ji41)).f0)).f1) ((rd_T48 t388 (ji41)).f2)).f0))) (fun _ hk => hk.2) (.int .i64 ((rd_T43 ((rd_T46 t379 ((rd_T48 t388 (ji41)).f0)).f1) ((rd_T48 t388 (ji41)).f2)).f1))) (fun _ hk => hk.2) (.int .i64 ((rd_T43 ((rd_T46 t379 ((rd_T48 t388 (ji41)).f0)).f1) ((rd_T48 t388 (ji41)).f2)).f2))) (fun _ hk => ⟨hk.1.1, hk.1.2⟩)⟩, ⟨by (with_reducible repeat (first | apply Kd.R_alloc | apply Kd.R_drewN | apply Kd.R_drew)); exact Kd.R_mono (Kd.R_far (p := ⟨gb403, 2, none⟩) (Kd.R_far (p := ⟨gb403, 1, none⟩) (Kd.R_far (p := ⟨gb403, 0, none⟩) (Kd.R_types HO_10.out BK403.out (by decide)) (fun _ hk => hk.2) (.int .i64 ((rd_T43 ((rd_T46 t379 ((rd_T48 t388 (ji41)).f0)).f1) ((rd_T48 t388 (ji41)).f2)).f0))) (fun _ hk => hk.2) (.int .i64 ((rd_T43 ((rd_T46 t379 ((rd_T48 t388 (ji41)).f0)).f1) ((rd_T48 t388 (ji41)).f2)).f1))) (fun _ hk => hk.2) (.int .i64 ((rd_T43 ((rd_T46 t379 ((rd_T48 t388 (ji41)).f0)).f1) ((rd_T48 t388 (ji41)).f2)).f2))) (fun _ hk => trivial)⟩, ⟨by refine nE ?_; refine blk_far ?_ NB398_403.out _; refine nE ?_; refine blk_far ?_ NB398_403.out _; refine nE ?_; refine blk_far ?_ NB398_403.out _; exact nB BK398.out⟩, ⟨by refine nE ?_; refine blk_put (cs := #[.int .i64 ((rd_T43 ((rd_T46 t379 ((rd_T48 t388 (ji41)).f0)).f1) ((rd_T48 t388 (ji41)).f2)).f0), .int .i64 ((rd_T43 ((rd_T46 t379 ((rd_T48 t388 (ji41)).f0)).f1) ((rd_T48 t388 (ji41)).f2)).f1), .int .i64 0]) ?_ 2 _ rfl; refine nE ?_; refine blk_put (cs := #[.int .i64 ((rd_T43 ((rd_T46 t379 ((rd_T48 t388 (ji41)).f0)).f1) ((rd_T48 t388 (ji41)).f2)).f0), .int .i64 0, .int .i64 0]) ?_ 1 _ rfl; refine nE ?_; refine blk_put (cs := #[.int .i64 0, .int .i64 0, .int .i64 0]) ?_ 0 _ rfl; exact nB BK403.out⟩, ⟨(Kd.R_reads' (by (with_reducible repeat (first | apply Kd.R_alloc | apply Kd.R_drewN | apply Kd.R_drew)); exact (Kd.R_mono (Kd.R_far (p := ⟨gb403, 2, none⟩) (Kd.R_far (p := ⟨gb403, 1, none⟩) (Kd.R_far (p := ⟨gb403, 0, none⟩) (Kd.R_mono HL400_1.out (fun k_ hk => (⟨hk, hk.2⟩ : _ ∧ k_ ≠ gb403))) (fun _ hk => hk.2) (.int .i64 ((rd_T43 ((rd_T46 t379 ((rd_T48 t388 (ji41)).f0)).f1) ((rd_T48 t388 (ji41)).f2)).f0))) (fun _ hk => hk.2) (.int .i64 ((rd_T43 ((rd_T46 t379 ((rd_T48 t388 (ji41)).f0)).f1) ((rd_T48 t388 (ji41)).f2)).f1))) (fun _ hk => hk.2) (.int .i64 ((rd_T43 ((rd_T46 t379 ((rd_T48 t388 (ji41)).f0)).f1) ((rd_T48 t388 (ji41)).f2)).f2))) (fun _ h_ => h_.1)))).2.2⟩, ⟨nH2 HB.out GE398.out GE403.out⟩⟩
              · rw [if_neg c61] at H
                have c61b0 : (((rd_T43 ((rd_T46 t379 ((rd_T48 t388 0).f0)).f1) ((rd_T48 t388 0).f1)).f0) == t380) = false := beq_eq_false_iff_ne.mpr c61
                have c61b1 : (((rd_T43 ((rd_T46 t379 ((rd_T48 t388 0).f0)).f1) ((rd_T48 t388 0).f1)).f0) != t380) = true := bne_iff_ne.mpr c61
                (first | rw [c61b0] | (simp only [i64_w, i32_w]; rw [c61b0]) | skip)
                have H' := aM H
                clear H; have hnb72 := NB398_403.out; have hnc72 := NB403_398.out
                obtain ⟨hcz73_0, hcz73_1, hcz73_2, hfz73_0, hfz73_1, hfz73_2⟩ := nK3 BK398.out
                go_wp2
                go_meet
                case rel => exact ⟨_, (true), nS, H', ⟨by have := HJ9.out; have := HJ21.out; first | omega | exact Nat.le_refl _⟩, ⟨by (with_reducible repeat (first | apply Kd.S_alloc | apply Kd.S_drewN | apply Kd.S_drew)); exact Kd.S_mono (Kd.S_far (p := ⟨gb403, 2, none⟩) (Kd.S_far (p := ⟨gb403, 1, none⟩) (Kd.S_far (p := ⟨gb403, 0, none⟩) (Kd.S_mono HO_3.out (fun k_ hk => (⟨hk, hk.2⟩ : _ ∧ k_ ≠ gb403))) (fun _ hk => hk.2) (.int .i64 ((rd_T43 ((rd_T46 t379 ((rd_T48 t388 (ji41)).f0)).f1) ((rd_T48 t388 (ji41)).f2)).f0))) (fun _ hk => hk.2) (.int .i64 ((rd_T43 ((rd_T46 t379 ((rd_T48 t388 (ji41)).f0)).f1) ((rd_T48 t388 (ji41)).f2)).f1))) (fun _ hk => hk.2) (.int .i64 ((rd_T43 ((rd_T46 t379 ((rd_T48 t388 (ji41)).f0)).f1) ((rd_T48 t388 (ji41)).f2)).f2))) (fun _ hk => ⟨hk.1.1, hk.1.2⟩)⟩, ⟨by (with_reducible repeat (first | apply Kd.R_alloc | apply Kd.R_drewN | apply Kd.R_drew)); exact Kd.R_mono (Kd.R_far (p := ⟨gb403, 2, none⟩) (Kd.R_far (p := ⟨gb403, 1, none⟩) (Kd.R_far (p := ⟨gb403, 0, none⟩) (Kd.R_types HO_10.out BK403.out (by decide)) (fun _ hk => hk.2) (.int .i64 ((rd_T43 ((rd_T46 t379 ((rd_T48 t388 (ji41)).f0)).f1) ((rd_T48 t388 (ji41)).f2)).f0))) (fun _ hk => hk.2) (.int .i64 ((rd_T43 ((rd_T46 t379 ((rd_T48 t388 (ji41)).f0)).f1) ((rd_T48 t388 (ji41)).f2)).f1))) (fun _ hk => hk.2) (.int .i64 ((rd_T43 ((rd_T46 t379 ((rd_T48 t388 (ji41)).f0)).f1) ((rd_T48 t388 (ji41)).f2)).f2))) (fun _ hk => trivial)⟩, ⟨by refine nE ?_; refine blk_far ?_ NB398_403.out _; refine nE ?_; refine blk_far ?_ NB398_403.out _; refine nE ?_; refine blk_far ?_ NB398_403.out _; exact nB BK398.out⟩, ⟨by refine nE ?_; refine blk_put (cs := #[.int .i64 ((rd_T43 ((rd_T46 t379 ((rd_T48 t388 (ji41)).f0)).f1) ((rd_T48 t388 (ji41)).f2)).f0), .int .i64 ((rd_T43 ((rd_T46 t379 ((rd_T48 t388 (ji41)).f0)).f1) ((rd_T48 t388 (ji41)).f2)).f1), .int .i64 0]) ?_ 2 _ rfl; refine nE ?_; refine blk_put (cs := #[.int .i64 ((rd_T43 ((rd_T46 t379 ((rd_T48 t388 (ji41)).f0)).f1) ((rd_T48 t388 (ji41)).f2)).f0), .int .i64 0, .int .i64 0]) ?_ 1 _ rfl; refine nE ?_; refine blk_put (cs := #[.int .i64 0, .int .i64 0, .int .i64 0]) ?_ 0 _ rfl; exact nB BK403.out⟩, ⟨(Kd.R_reads' (by (with_reducible repeat (first | apply Kd.R_alloc | apply Kd.R_drewN | apply Kd.R_drew)); exact (Kd.R_mono (Kd.R_far (p := ⟨gb403, 2, none⟩) (Kd.R_far (p := ⟨gb403, 1, none⟩) (Kd.R_far (p := ⟨gb403, 0, none⟩) (Kd.R_mono HL400_1.out (fun k_ hk => (⟨hk, hk.2⟩ : _ ∧ k_ ≠ gb403))) (fun _ hk => hk.2) (.int .i64 ((rd_T43 ((rd_T46 t379 ((rd_T48 t388 (ji41)).f0)).f1) ((rd_T48 t388 (ji41)).f2)).f0))) (fun _ hk => hk.2) (.int .i64 ((rd_T43 ((rd_T46 t379 ((rd_T48 t388 (ji41)).f0)).f1) ((rd_T48 t388 (ji41)).f2)).f1))) (fun _ hk => hk.2) (.int .i64 ((rd_T43 ((rd_T46 t379 ((rd_T48 t388 (ji41)).f0)).f1) ((rd_T48 t388 (ji41)).f2)).f2))) (fun _ h_ => h_.1)))).2.2⟩, ⟨nH2 HB.out GE398.out GE403.out⟩⟩
             case rest =>
              as_aux_lemma =>
              clear HC48; try clear p2; try clear c3; try clear p3; try clear q3; try clear hx3; try clear qi3; try clear c4; try clear p4; try clear q4; try clear hx4; try clear c6; try clear c7; try clear c39; try clear p39; try clear q39; try clear hx39; try clear qi39; try clear c40; try clear p40; try clear q40; try clear hx40; try clear c61; try clear c61b0; try clear c61b1; try clear c62; try clear c62b0; try clear c63; try clear c65; try clear c65b0; try clear c65b1; try clear c66; try clear c69; try clear c72; try clear hcz64_0; try clear hcz64_1; try clear hcz64_2; try clear hcz67_0; try clear hcz67_1
              try clear hcz67_2; try clear hcz68_0; try clear hcz68_1; try clear hcz68_2; try clear hcz70_0; try clear hcz70_1; try clear hcz70_2; try clear hcz71_0; try clear hcz71_1; try clear hcz71_2; try clear hcz73_0; try clear hcz73_1; try clear hcz73_2; try clear hfz64_0; try clear hfz64_1; try clear hfz64_2; try clear hfz67_0; try clear hfz67_1; try clear hfz67_2; try clear hfz68_0; try clear hfz68_1; try clear hfz68_2; try clear hfz70_0; try clear hfz70_1; try clear hfz70_2; try clear hfz71_0; try clear hfz71_1; try clear hfz71_2; try clear hfz73_0; try clear hfz73_1; try clear hfz73_2
              try clear hx394_0; try clear hx394_1; try clear hx394_2; try clear hx395_0; try clear hx395_1; try clear hx396_0; try clear hx396_1; try clear hx396_2; try clear hx397_0; try clear hx397_1; try clear hx397_2; try clear hx399_0; try clear hx399_1; try clear hx399_2; try clear hx400_0; try clear hx400_1; try clear hx401_0; try clear hx401_1; try clear hx401_2; try clear hx402_0; try clear hx402_1; try clear hx402_2; try clear p395; try clear p396; try clear p397; try clear p399; try clear p400; try clear p401; try clear p402; try clear q395; try clear q396; try clear q397; try clear q399
              try clear q400; try clear q401; try clear q402
              obtain ⟨kq, x152_47, rfl, HA, HJ47, HO_3, HO_10, BK398, BK403, HR400_1, HB⟩ := hcut
              cases kq with
              | zero => exact absurd HA.out (by simp [laws_FnJourney.j2])
              | succ kj47 =>
               have H := HA.out; clear HA
               simp only [laws_FnJourney.j2] at H
               by_cases c74 : x152_47 = true
               · subst c74
                 rw [if_pos rfl] at H
                 exact absurd ((Option.some.inj H).trans ht.out) (by decide)
               · replace c74 := Bool.eq_false_iff.mpr c74
                 subst c74
                 rw [if_neg nN] at H
                 have HC75 := aM H
                 clear H
                 go_upto_region 17 with (fail)
                 go_cut [168] (fun v168 wc => ∃ (kq : Nat) (x168_74 : Bool), v168 = .bool x168_74 ∧ Aside0 (laws_FnJourney.j3 kq t379 t380 t381 t382 t383 t387 t388 x168_74 = some r) ∧ Aside0 (kq ≤ kj47) ∧ Aside0 (Kd.S k46 46 wc w.heap.size (fun k_ => k_ ≠ gb398 ∧ k_ ≠ gb403) (.slice (some ad395) t379.length co12) t379) ∧ Aside0 (Kd.R k48 48 wc w.heap.size (fun _ => True) (.slice (some ad394) t388.length co50) t388) ∧ Aside0 (wc.heap[gb398]? = some (.cells #[.int .i64 ((rd_T43 ((rd_T46 t379 ((rd_T48 t388 0).f0)).f1) ((rd_T48 t388 0).f1)).f0), .int .i64 ((rd_T43 ((rd_T46 t379 ((rd_T48 t388 0).f0)).f1) ((rd_T48 t388 0).f1)).f1), .int .i64 ((rd_T43 ((rd_T46 t379 ((rd_T48 t388 0).f0)).f1) ((rd_T48 t388 0).f1)).f2)] 43 (0, 0))) ∧ Aside0 (wc.heap[gb403]? = some (.cells #[.int .i64 ((rd_T43 ((rd_T46 t379 ((rd_T48 t388 (ji41)).f0)).f1) ((rd_T48 t388 (ji41)).f2)).f0), .int .i64 ((rd_T43 ((rd_T46 t379 ((rd_T48 t388 (ji41)).f0)).f1) ((rd_T48 t388 (ji41)).f2)).f1), .int .i64 ((rd_T43 ((rd_T46 t379 ((rd_T48 t388 (ji41)).f0)).f1) ((rd_T48 t388 (ji41)).f2)).f2)] 43 (0, 0))) ∧ Aside0 (Kd.C k43 wc (some ad402) ((rd_T46 t379 ((rd_T48 t388 (ji41)).f0)).f1).length ((rd_T46 t379 ((rd_T48 t388 (ji41)).f0)).f1)) ∧ Aside0 (Below w.heap.size w wc))
                 case first =>
                  have H := HC75.out; clear HC75
                  by_cases c76 : (t388.length : Int) > 1
                  · rw [if_pos c76] at H
                    have c76b0 : decide (1 < (t388.length : Int)) = true := decide_eq_true c76
                    have c76b1 : decide (1 < t388.length) = true := decide_eq_true (by omega)
                    clear c76
                    (first | rw [c76b0] | (simp only [i64_w, i32_w]; rw [c76b0]) | skip)
                    obtain ⟨t404, A770, H⟩ := Option.bind_eq_some_iff.mp H
                    have A77 := aM A770
                    clear A770
                    have H' := aM H
                    clear H
                    go_wp2_with (first | (go_at_call 16; (with_reducible refine (impl_Soonest.calls kj47 _ _ t379 t380 t381 t382 t383 (ji41) t404 _ ?side1 ?side2 (hji41 ▸ A77.out)).mono ?_); (case side1 => repeat (first | exact (Kd.S_reads' HO_3.out).2.2 | (with_reducible refine Kd.C_alloc ?_ _) | (with_reducible refine Kd.C_drewN ?_ _) | (with_reducible refine Kd.C_drew ?_))); (case side2 => exact (Kd.S_reads' HO_3.out).2.1); rintro e w78 ⟨rfl, hb⟩; have n_ := aA (Kd.S_below (by (with_reducible repeat (first | apply Kd.S_alloc | apply Kd.S_drewN | apply Kd.S_drew)); exact HO_3.out) hb) <| aA (Kd.R_below (nR HO_10.out) hb) <| aA (nBB BK398.out hb) <| aA (nBB BK403.out hb) <| aA (Kd.C_below (by repeat (first | (with_reducible exact HR400_1.out) | (with_reducible refine Kd.C_alloc ?_ _) | (with_reducible refine Kd.C_drewN ?_ _) | (with_reducible refine Kd.C_drew ?_) | exact HR400_1.out)) hb) <| aM (below_step (nH2 HB.out GE398.out GE403.out) hb); clear HO_3 HO_10 BK398 BK403 HR400_1 HB; obtain ⟨HO_3, HO_10, BK398, BK403, HR400_1, HB⟩ := n_; (try clear hb); (try clear hb2); (try clear hk); (try clear hi)))
                    go_meet
                    case rel => exact ⟨_, ((t404 == t387)), nS, H', ⟨by have := HJ9.out; have := HJ21.out; have := HJ47.out; first | omega | exact Nat.le_refl _⟩, ⟨by (with_reducible repeat (first | apply Kd.S_alloc | apply Kd.S_drewN | apply Kd.S_drew)); exact HO_3.out⟩, ⟨by exact nR HO_10.out⟩, ⟨by exact nB BK398.out⟩, ⟨by exact nB BK403.out⟩, ⟨by repeat (first | (with_reducible exact HR400_1.out) | (with_reducible refine Kd.C_alloc ?_ _) | (with_reducible refine Kd.C_drewN ?_ _) | (with_reducible refine Kd.C_drew ?_) | exact HR400_1.out)⟩, ⟨nH2 HB.out GE398.out GE403.out⟩⟩
                  · rw [if_neg c76] at H
                    have c76b0 : decide (1 < (t388.length : Int)) = false := decide_eq_false c76
                    have c76b1 : decide (1 < t388.length) = false := decide_eq_false (by omega)
                    clear c76
                    (first | rw [c76b0] | (simp only [i64_w, i32_w]; rw [c76b0]) | skip)
                    have H' := aM H
                    clear H; go_wp2
                    go_meet
                    case rel => exact ⟨_, (false), nS, H', ⟨by have := HJ9.out; have := HJ21.out; have := HJ47.out; first | omega | exact Nat.le_refl _⟩, ⟨by (with_reducible repeat (first | apply Kd.S_alloc | apply Kd.S_drewN | apply Kd.S_drew)); exact HO_3.out⟩, ⟨by exact nR HO_10.out⟩, ⟨by exact nB BK398.out⟩, ⟨by exact nB BK403.out⟩, ⟨by repeat (first | (with_reducible exact HR400_1.out) | (with_reducible refine Kd.C_alloc ?_ _) | (with_reducible refine Kd.C_drewN ?_ _) | (with_reducible refine Kd.C_drew ?_) | exact HR400_1.out)⟩, ⟨nH2 HB.out GE398.out GE403.out⟩⟩
                 case rest =>
                  as_aux_lemma =>
                  clear HC75; try clear p2; try clear c3; try clear p3; try clear q3; try clear hx3; try clear qi3; try clear c4; try clear p4; try clear q4; try clear hx4; try clear c6; try clear p6; try clear c7; try clear c39; try clear p39; try clear q39; try clear hx39; try clear qi39; try clear c40; try clear p40; try clear q40; try clear hx40; try clear c61; try clear c61b0; try clear c61b1; try clear c62; try clear c62b0; try clear c63; try clear p64; try clear c65; try clear c65b0; try clear c65b1; try clear c66; try clear c69; try clear c72; try clear c74; try clear c76; try clear c76b0
                  try clear c76b1; try clear hcz64_0; try clear hcz64_1; try clear hcz64_2; try clear hcz67_0; try clear hcz67_1; try clear hcz67_2; try clear hcz68_0; try clear hcz68_1; try clear hcz68_2; try clear hcz70_0; try clear hcz70_1; try clear hcz70_2; try clear hcz71_0; try clear hcz71_1; try clear hcz71_2; try clear hcz73_0; try clear hcz73_1; try clear hcz73_2; try clear hfz64_0; try clear hfz64_1; try clear hfz64_2; try clear hfz67_0; try clear hfz67_1; try clear hfz67_2; try clear hfz68_0; try clear hfz68_1; try clear hfz68_2; try clear hfz70_0; try clear hfz70_1; try clear hfz70_2
                  try clear hfz71_0; try clear hfz71_1; try clear hfz71_2; try clear hfz73_0; try clear hfz73_1; try clear hfz73_2; try clear hx394_0; try clear hx394_1; try clear hx394_2; try clear hx395_0; try clear hx395_1; try clear hx396_0; try clear hx396_1; try clear hx396_2; try clear hx397_0; try clear hx397_1; try clear hx397_2; try clear hx399_0; try clear hx399_1; try clear hx399_2; try clear hx400_0; try clear hx400_1; try clear hx401_0; try clear hx401_1; try clear hx401_2; try clear hx402_0; try clear hx402_1; try clear hx402_2; try clear p2; try clear p3; try clear p39; try clear p395
                  try clear p396; try clear p397; try clear p399; try clear p4; try clear p40; try clear p400; try clear p401; try clear p402; try clear q3; try clear q39; try clear q395; try clear q396; try clear q397; try clear q399; try clear q4; try clear q40; try clear q400; try clear q401; try clear q402
                  obtain ⟨kq, x168_74, rfl, HA, HJ74, HO_3, HO_10, BK398, BK403, HR400_1, HB⟩ := hcut
                  cases kq with
                  | zero => exact absurd HA.out (by simp [laws_FnJourney.j3])
                  | succ kj74 =>
                   have H := HA.out; clear HA
                   simp only [laws_FnJourney.j3] at H
                   by_cases c79 : x168_74 = true
                   · subst c79
                     rw [if_pos rfl] at H
                     exact absurd ((Option.some.inj H).trans ht.out) (by decide)
                   · replace c79 := Bool.eq_false_iff.mpr c79
                     subst c79
                     rw [if_neg nN] at H
                     have H' := aM H
                     clear H; go_wp2
                     go_loopg [13] kj74 (fun kq v13 w' => ∃ (x13_5 : Int), v13 = .int .i64 x13_5 ∧ Aside0 (laws_FnJourney.l0 kq t379 t380 t381 t382 t383 t387 t388 x13_5 = some r) ∧ Aside0 (kq ≤ kj74) ∧ Aside0 (Kd.S k46 46 w' w.heap.size (fun k_ => k_ ≠ gb398 ∧ k_ ≠ gb403) (.slice (some ad395) t379.length co12) t379) ∧ Aside0 (Kd.R k48 48 w' w.heap.size (fun _ => True) (.slice (some ad394) t388.length co50) t388) ∧ Aside0 (w'.heap[gb398]? = some (.cells #[.int .i64 ((rd_T43 ((rd_T46 t379 ((rd_T48 t388 0).f0)).f1) ((rd_T48 t388 0).f1)).f0), .int .i64 ((rd_T43 ((rd_T46 t379 ((rd_T48 t388 0).f0)).f1) ((rd_T48 t388 0).f1)).f1), .int .i64 ((rd_T43 ((rd_T46 t379 ((rd_T48 t388 0).f0)).f1) ((rd_T48 t388 0).f1)).f2)] 43 (0, 0))) ∧ Aside0 (w'.heap[gb403]? = some (.cells #[.int .i64 ((rd_T43 ((rd_T46 t379 ((rd_T48 t388 (ji41)).f0)).f1) ((rd_T48 t388 (ji41)).f2)).f0), .int .i64 ((rd_T43 ((rd_T46 t379 ((rd_T48 t388 (ji41)).f0)).f1) ((rd_T48 t388 (ji41)).f2)).f1), .int .i64 ((rd_T43 ((rd_T46 t379 ((rd_T48 t388 (ji41)).f0)).f1) ((rd_T48 t388 (ji41)).f2)).f2)] 43 (0, 0))) ∧ Aside0 (Kd.C k43 w' (some ad402) ((rd_T46 t379 ((rd_T48 t388 (ji41)).f0)).f1).length ((rd_T46 t379 ((rd_T48 t388 (ji41)).f0)).f1)) ∧ Aside0 (Below w.heap.size w w'))
                     case atStart => exact ⟨(0), nS, H', ⟨Nat.le_refl _⟩, ⟨by (with_reducible repeat (first | apply Kd.S_alloc | apply Kd.S_drewN | apply Kd.S_drew)); exact HO_3.out⟩, ⟨by exact nR HO_10.out⟩, ⟨by exact nB BK398.out⟩, ⟨by exact nB BK403.out⟩, ⟨by repeat (first | (with_reducible exact HR400_1.out) | (with_reducible refine Kd.C_alloc ?_ _) | (with_reducible refine Kd.C_drewN ?_ _) | (with_reducible refine Kd.C_drew ?_) | exact HR400_1.out)⟩, ⟨nH2 HB.out GE398.out GE403.out⟩⟩
                     case round =>
                      clear H'
                      try clear p2; try clear c3; try clear p3; try clear q3; try clear hx3; try clear qi3; try clear c4; try clear p4; try clear q4; try clear hx4; try clear c6; try clear p6; try clear c7; try clear c39; try clear p39; try clear q39; try clear hx39; try clear qi39; try clear c40; try clear p40; try clear q40; try clear hx40; try clear c61; try clear c61b0; try clear c61b1; try clear c62; try clear c62b0; try clear c63; try clear p64; try clear c65; try clear c65b0; try clear c65b1; try clear c66; try clear c69; try clear c72; try clear c74; try clear c76; try clear c76b0; try clear c76b1
                      try clear c79; try clear hcz64_0; try clear hcz64_1; try clear hcz64_2; try clear hcz67_0; try clear hcz67_1; try clear hcz67_2; try clear hcz68_0; try clear hcz68_1; try clear hcz68_2; try clear hcz70_0; try clear hcz70_1; try clear hcz70_2; try clear hcz71_0; try clear hcz71_1; try clear hcz71_2; try clear hcz73_0; try clear hcz73_1; try clear hcz73_2; try clear hfz64_0; try clear hfz64_1; try clear hfz64_2; try clear hfz67_0; try clear hfz67_1; try clear hfz67_2; try clear hfz68_0; try clear hfz68_1; try clear hfz68_2; try clear hfz70_0; try clear hfz70_1; try clear hfz70_2
                      try clear hfz71_0; try clear hfz71_1; try clear hfz71_2; try clear hfz73_0; try clear hfz73_1; try clear hfz73_2; try clear hx394_0; try clear hx394_1; try clear hx394_2; try clear hx395_0; try clear hx395_1; try clear hx396_0; try clear hx396_1; try clear hx396_2; try clear hx397_0; try clear hx397_1; try clear hx397_2; try clear hx399_0; try clear hx399_1; try clear hx399_2; try clear hx400_0; try clear hx400_1; try clear hx401_0; try clear hx401_1; try clear hx401_2; try clear hx402_0; try clear hx402_1; try clear hx402_2; try clear p2; try clear p3; try clear p39; try clear p395
                      try clear p396; try clear p397; try clear p399; try clear p4; try clear p40; try clear p400; try clear p401; try clear p402; try clear p6; try clear p64; try clear q3; try clear q39; try clear q395; try clear q396; try clear q397; try clear q399; try clear q4; try clear q40; try clear q400; try clear q401; try clear q402
                      obtain ⟨x13_5, rfl, HA, HK5, HO_3, HO_10, BK398, BK403, HR400_1, HB⟩ := hrel
                      cases gk with
                      | zero => exact absurd HA.out (by simp [laws_FnJourney.l0])
                      | succ k5 =>
                       have H := HA.out; clear HA
                       simp only [laws_FnJourney.l0] at H
                       by_cases c80 : x13_5 < (t379.length : Int)
                       · rw [if_pos c80] at H
                         have c80b0 : decide (x13_5 < (t379.length : Int)) = true := decide_eq_true c80
                         clear c80
                         by_cases c81 : 0 ≤ x13_5
                         rotate_left
                         · (rw [if_neg c81] at H; exact absurd H (by simp))
                         rw [if_pos c81] at H
                         have c81b0 : decide (0 ≤ x13_5) = true := decide_eq_true c81
                         clear c81
                         have H' := aM H
                         clear H
                         have p406 : 0 ≤ (x13_5 : Int) := of_decide_eq_true nQ
                         have q406 : x13_5 < (t379.length : Int) := of_decide_eq_true nQ
                         obtain ⟨ad406, A406_1, c406_1, e406, hx406_0, hx406_1, hl406_1, hi406_1⟩ := at_T46 (Kd.S_reads' HO_3.out).2.2 x13_5 p406 q406
                         obtain rfl : ad395 = ad406 := (by injection e406)
                         obtain ⟨ce406, hce406, hMe406, hcc406⟩ := Kd.S_get HO_3.out z46 x13_5 p406 (by first | exact q406 | exact of_decide_eq_true nQ | (have e_ := (Kd.S_reads' HO_3.out).1; omega))
                         obtain ⟨ve406_1, rfl, ge406_1⟩ := k46_openM hMe406
                         have hv406_1 := hcc406 1 _ rfl
                         rw [add_field _ _ 1 (by omega)] at hv406_1
                         replace hv406_1 := Option.some.inj (hv406_1.symm.trans hx406_1)
                         rw [hv406_1] at ge406_1
                         have HL406_1 := aM (show Kd.R k43 43 _ _ _ _ ((rd_T46 t379 x13_5).f1) from ge406_1)
                         clear hv406_1 ge406_1; clear hcc406 hce406
                         have HR406_1 := aM hi406_1
                         have HC406_1 := aM hl406_1
                         clear hi406_1 hl406_1; replace p406 := eq_true p406; replace q406 := eq_true q406; go_wp2
                         go_loopg [15] k5 (fun kq v15 w' => ∃ (x15_6 : Int), v15 = .int .i64 x15_6 ∧ Aside0 (laws_FnJourney.l1 kq t379 t380 t381 t382 t383 t387 t388 x13_5 ((rd_T46 t379 x13_5).f1) x15_6 = some r) ∧ Aside0 (kq ≤ k5) ∧ Aside0 (Kd.S k46 46 w' w.heap.size (fun k_ => k_ ≠ gb398 ∧ k_ ≠ gb403) (.slice (some ad395) t379.length co12) t379) ∧ Aside0 (Kd.R k48 48 w' w.heap.size (fun _ => True) (.slice (some ad394) t388.length co50) t388) ∧ Aside0 (w'.heap[gb398]? = some (.cells #[.int .i64 ((rd_T43 ((rd_T46 t379 ((rd_T48 t388 0).f0)).f1) ((rd_T48 t388 0).f1)).f0), .int .i64 ((rd_T43 ((rd_T46 t379 ((rd_T48 t388 0).f0)).f1) ((rd_T48 t388 0).f1)).f1), .int .i64 ((rd_T43 ((rd_T46 t379 ((rd_T48 t388 0).f0)).f1) ((rd_T48 t388 0).f1)).f2)] 43 (0, 0))) ∧ Aside0 (w'.heap[gb403]? = some (.cells #[.int .i64 ((rd_T43 ((rd_T46 t379 ((rd_T48 t388 (ji41)).f0)).f1) ((rd_T48 t388 (ji41)).f2)).f0), .int .i64 ((rd_T43 ((rd_T46 t379 ((rd_T48 t388 (ji41)).f0)).f1) ((rd_T48 t388 (ji41)).f2)).f1), .int .i64 ((rd_T43 ((rd_T46 t379 ((rd_T48 t388 (ji41)).f0)).f1) ((rd_T48 t388 (ji41)).f2)).f2)] 43 (0, 0))) ∧ Aside0 (Kd.C k43 w' (some ad402) ((rd_T46 t379 ((rd_T48 t388 (ji41)).f0)).f1).length ((rd_T46 t379 ((rd_T48 t388 (ji41)).f0)).f1)) ∧ Aside0 (Kd.C k43 w' A406_1 ((rd_T46 t379 x13_5).f1).length ((rd_T46 t379 x13_5).f1)) ∧ Aside0 (Below w.heap.size w w'))
                         case atStart => exact ⟨(0), nS, H', ⟨Nat.le_refl _⟩, ⟨by (with_reducible repeat (first | apply Kd.S_alloc | apply Kd.S_drewN | apply Kd.S_drew)); exact HO_3.out⟩, ⟨by exact nR HO_10.out⟩, ⟨by exact nB BK398.out⟩, ⟨by exact nB BK403.out⟩, ⟨by repeat (first | (with_reducible exact HR400_1.out) | (with_reducible refine Kd.C_alloc ?_ _) | (with_reducible refine Kd.C_drewN ?_ _) | (with_reducible refine Kd.C_drew ?_) | exact HR400_1.out)⟩, ⟨by repeat (first | (with_reducible exact HR406_1.out) | (with_reducible refine Kd.C_alloc ?_ _) | (with_reducible refine Kd.C_drewN ?_ _) | (with_reducible refine Kd.C_drew ?_) | exact HR406_1.out)⟩, ⟨nH2 HB.out GE398.out GE403.out⟩⟩
                         case round =>
                          clear H'
                          try clear p2; try clear c3; try clear p3; try clear q3; try clear hx3; try clear qi3; try clear c4; try clear p4; try clear q4; try clear hx4; try clear c6; try clear p6; try clear c7; try clear c8; try clear c39; try clear p39; try clear q39; try clear hx39; try clear qi39; try clear c40; try clear p40; try clear q40; try clear hx40; try clear c61; try clear c61b0; try clear c61b1; try clear c62; try clear c62b0; try clear c63; try clear p64; try clear c65; try clear c65b0; try clear c65b1; try clear c66; try clear c69; try clear c72; try clear c74; try clear c76; try clear c76b0
                          try clear c76b1; try clear c79; try clear c80; try clear c80b0; try clear c81; try clear c81b0; try clear hcz64_0; try clear hcz64_1; try clear hcz64_2; try clear hcz67_0; try clear hcz67_1; try clear hcz67_2; try clear hcz68_0; try clear hcz68_1; try clear hcz68_2; try clear hcz70_0; try clear hcz70_1; try clear hcz70_2; try clear hcz71_0; try clear hcz71_1; try clear hcz71_2; try clear hcz73_0; try clear hcz73_1; try clear hcz73_2; try clear hfz64_0; try clear hfz64_1; try clear hfz64_2; try clear hfz67_0; try clear hfz67_1; try clear hfz67_2; try clear hfz68_0; try clear hfz68_1
                          try clear hfz68_2; try clear hfz70_0; try clear hfz70_1; try clear hfz70_2; try clear hfz71_0; try clear hfz71_1; try clear hfz71_2; try clear hfz73_0; try clear hfz73_1; try clear hfz73_2; try clear hx394_0; try clear hx394_1; try clear hx394_2; try clear hx395_0; try clear hx395_1; try clear hx396_0; try clear hx396_1; try clear hx396_2; try clear hx397_0; try clear hx397_1; try clear hx397_2; try clear hx399_0; try clear hx399_1; try clear hx399_2; try clear hx400_0; try clear hx400_1; try clear hx401_0; try clear hx401_1; try clear hx401_2; try clear hx402_0; try clear hx402_1
                          try clear hx402_2; try clear hx406_0; try clear hx406_1; try clear p2; try clear p3; try clear p39; try clear p395; try clear p396; try clear p397; try clear p399; try clear p4; try clear p40; try clear p400; try clear p401; try clear p402; try clear p406; try clear p6; try clear p64; try clear q3; try clear q39; try clear q395; try clear q396; try clear q397; try clear q399; try clear q4; try clear q40; try clear q400; try clear q401; try clear q402; try clear q406
                          obtain ⟨x15_6, rfl, HA, HK6, HO_3, HO_10, BK398, BK403, HR400_1, HR406_1, HB⟩ := hrel
                          cases gk with
                          | zero => exact absurd HA.out (by simp [laws_FnJourney.l1])
                          | succ k6 =>
                           have H := HA.out; clear HA
                           simp only [laws_FnJourney.l1] at H
                           by_cases c82 : x15_6 < (((rd_T46 t379 x13_5).f1).length : Int)
                           · rw [if_pos c82] at H
                             have c82b0 : decide (x15_6 < (((rd_T46 t379 x13_5).f1).length : Int)) = true := decide_eq_true c82
                             clear c82
                             have H' := aM H
                             clear H; go_wp2
                             go_loopg [16] k6 (fun kq v16 w' => ∃ (x16_7 : Int), v16 = .int .i64 x16_7 ∧ Aside0 (laws_FnJourney.l2 kq t379 t380 t381 t382 t383 t387 t388 x13_5 ((rd_T46 t379 x13_5).f1) x15_6 x16_7 = some r) ∧ Aside0 (kq ≤ k6) ∧ Aside0 (Kd.S k46 46 w' w.heap.size (fun k_ => k_ ≠ gb398 ∧ k_ ≠ gb403) (.slice (some ad395) t379.length co12) t379) ∧ Aside0 (Kd.R k48 48 w' w.heap.size (fun _ => True) (.slice (some ad394) t388.length co50) t388) ∧ Aside0 (w'.heap[gb398]? = some (.cells #[.int .i64 ((rd_T43 ((rd_T46 t379 ((rd_T48 t388 0).f0)).f1) ((rd_T48 t388 0).f1)).f0), .int .i64 ((rd_T43 ((rd_T46 t379 ((rd_T48 t388 0).f0)).f1) ((rd_T48 t388 0).f1)).f1), .int .i64 ((rd_T43 ((rd_T46 t379 ((rd_T48 t388 0).f0)).f1) ((rd_T48 t388 0).f1)).f2)] 43 (0, 0))) ∧ Aside0 (w'.heap[gb403]? = some (.cells #[.int .i64 ((rd_T43 ((rd_T46 t379 ((rd_T48 t388 (ji41)).f0)).f1) ((rd_T48 t388 (ji41)).f2)).f0), .int .i64 ((rd_T43 ((rd_T46 t379 ((rd_T48 t388 (ji41)).f0)).f1) ((rd_T48 t388 (ji41)).f2)).f1), .int .i64 ((rd_T43 ((rd_T46 t379 ((rd_T48 t388 (ji41)).f0)).f1) ((rd_T48 t388 (ji41)).f2)).f2)] 43 (0, 0))) ∧ Aside0 (Kd.C k43 w' (some ad402) ((rd_T46 t379 ((rd_T48 t388 (ji41)).f0)).f1).length ((rd_T46 t379 ((rd_T48 t388 (ji41)).f0)).f1)) ∧ Aside0 (Kd.C k43 w' A406_1 ((rd_T46 t379 x13_5).f1).length ((rd_T46 t379 x13_5).f1)) ∧ Aside0 (Below w.heap.size w w'))
                             case atStart => exact ⟨(wrap64 (x15_6 + 1)), nS, H', ⟨Nat.le_refl _⟩, ⟨by (with_reducible repeat (first | apply Kd.S_alloc | apply Kd.S_drewN | apply Kd.S_drew)); exact HO_3.out⟩, ⟨by exact nR HO_10.out⟩, ⟨by exact nB BK398.out⟩, ⟨by exact nB BK403.out⟩, ⟨by repeat (first | (with_reducible exact HR400_1.out) | (with_reducible refine Kd.C_alloc ?_ _) | (with_reducible refine Kd.C_drewN ?_ _) | (with_reducible refine Kd.C_drew ?_) | exact HR400_1.out)⟩, ⟨by repeat (first | (with_reducible exact HR406_1.out) | (with_reducible refine Kd.C_alloc ?_ _) | (with_reducible refine Kd.C_drewN ?_ _) | (with_reducible refine Kd.C_drew ?_) | exact HR406_1.out)⟩, ⟨nH2 HB.out GE398.out GE403.out⟩⟩
                             case round =>
                              clear H'
                              try clear p2; try clear c3; try clear p3; try clear q3; try clear hx3; try clear qi3; try clear c4; try clear p4; try clear q4; try clear hx4; try clear c6; try clear p6; try clear c7; try clear c8; try clear c39; try clear p39; try clear q39; try clear hx39; try clear qi39; try clear c40; try clear p40; try clear q40; try clear hx40; try clear c61; try clear c61b0; try clear c61b1; try clear c62; try clear c62b0; try clear c63; try clear p64; try clear c65; try clear c65b0; try clear c65b1; try clear c66; try clear c69; try clear c72; try clear c74; try clear c76
                              try clear c76b0; try clear c76b1; try clear c79; try clear c80; try clear c80b0; try clear c81; try clear c81b0; try clear c82; try clear c82b0; try clear hcz64_0; try clear hcz64_1; try clear hcz64_2; try clear hcz67_0; try clear hcz67_1; try clear hcz67_2; try clear hcz68_0; try clear hcz68_1; try clear hcz68_2; try clear hcz70_0; try clear hcz70_1; try clear hcz70_2; try clear hcz71_0; try clear hcz71_1; try clear hcz71_2; try clear hcz73_0; try clear hcz73_1; try clear hcz73_2; try clear hfz64_0; try clear hfz64_1; try clear hfz64_2; try clear hfz67_0; try clear hfz67_1
                              try clear hfz67_2; try clear hfz68_0; try clear hfz68_1; try clear hfz68_2; try clear hfz70_0; try clear hfz70_1; try clear hfz70_2; try clear hfz71_0; try clear hfz71_1; try clear hfz71_2; try clear hfz73_0; try clear hfz73_1; try clear hfz73_2; try clear hx394_0; try clear hx394_1; try clear hx394_2; try clear hx395_0; try clear hx395_1; try clear hx396_0; try clear hx396_1; try clear hx396_2; try clear hx397_0; try clear hx397_1; try clear hx397_2; try clear hx399_0; try clear hx399_1; try clear hx399_2; try clear hx400_0; try clear hx400_1; try clear hx401_0; try clear hx401_1
                              try clear hx401_2; try clear hx402_0; try clear hx402_1; try clear hx402_2; try clear hx406_0; try clear hx406_1; try clear p2; try clear p3; try clear p39; try clear p395; try clear p396; try clear p397; try clear p399; try clear p4; try clear p40; try clear p400; try clear p401; try clear p402; try clear p406; try clear p6; try clear p64; try clear q3; try clear q39; try clear q395; try clear q396; try clear q397; try clear q399; try clear q4; try clear q40; try clear q400; try clear q401; try clear q402; try clear q406
                              obtain ⟨x16_7, rfl, HA, HK7, HO_3, HO_10, BK398, BK403, HR400_1, HR406_1, HB⟩ := hrel
                              cases gk with
                              | zero => exact absurd HA.out (by simp [laws_FnJourney.l2])
                              | succ k7 =>
                               have H := HA.out; clear HA
                               simp only [laws_FnJourney.l2] at H
                               by_cases c83 : x16_7 < (((rd_T46 t379 x13_5).f1).length : Int)
                               · rw [if_pos c83] at H
                                 have c83b0 : decide (x16_7 < (((rd_T46 t379 x13_5).f1).length : Int)) = true := decide_eq_true c83
                                 clear c83
                                 by_cases c84 : 0 ≤ x15_6
                                 rotate_left
                                 · (rw [if_neg c84] at H; exact absurd H (by simp))
                                 rw [if_pos c84] at H
                                 have c84b0 : decide (0 ≤ x15_6) = true := decide_eq_true c84
                                 clear c84
                                 by_cases c85 : x15_6 < (((rd_T46 t379 x13_5).f1).length : Int)
                                 rotate_left
                                 · (rw [if_neg c85] at H; exact absurd H (by simp))
                                 rw [if_pos c85] at H
                                 have c85b0 : decide (x15_6 < (((rd_T46 t379 x13_5).f1).length : Int)) = true := decide_eq_true c85
                                 clear c85
                                 by_cases c86 : ((rd_T43 ((rd_T46 t379 x13_5).f1) x15_6).f0) = t380
                                 · rw [if_pos c86] at H
                                   have c86b0 : (((rd_T43 ((rd_T46 t379 x13_5).f1) x15_6).f0) == t380) = true := beq_iff_eq.mpr c86
                                   have c86b1 : (((rd_T43 ((rd_T46 t379 x13_5).f1) x15_6).f0) != t380) = false := bne_eq_false_iff_eq.mpr c86
                                   clear c86
                                   by_cases c87 : ((rd_T43 ((rd_T46 t379 x13_5).f1) x15_6).f2) ≥ t382
                                   · rw [if_pos c87] at H
                                     have c87b0 : decide (t382 ≤ ((rd_T43 ((rd_T46 t379 x13_5).f1) x15_6).f2)) = true := decide_eq_true c87
                                     clear c87
                                     by_cases c88 : 0 ≤ x16_7
                                     rotate_left
                                     · (rw [if_neg c88] at H; exact absurd H (by simp))
                                     rw [if_pos c88] at H
                                     have c88b0 : decide (0 ≤ x16_7) = true := decide_eq_true c88
                                     clear c88
                                     by_cases c89 : ((rd_T43 ((rd_T46 t379 x13_5).f1) x16_7).f0) = t381
                                     · rw [if_pos c89] at H
                                       have c89b0 : (((rd_T43 ((rd_T46 t379 x13_5).f1) x16_7).f0) == t381) = true := beq_iff_eq.mpr c89
                                       have c89b1 : (((rd_T43 ((rd_T46 t379 x13_5).f1) x16_7).f0) != t381) = false := bne_eq_false_iff_eq.mpr c89
                                       clear c89
                                       by_cases c90 : ((rd_T43 ((rd_T46 t379 x13_5).f1) x16_7).f1) < t387
                                       · rw [if_pos c90] at H
                                         have c90b0 : decide (((rd_T43 ((rd_T46 t379 x13_5).f1) x16_7).f1) < t387) = true := decide_eq_true c90
                                         clear c90
                                         exact absurd ((Option.some.inj H).trans ht.out) (by decide)
                                       · rw [if_neg c90] at H
                                         have c90b0 : decide (((rd_T43 ((rd_T46 t379 x13_5).f1) x16_7).f1) < t387) = false := decide_eq_false c90
                                         clear c90
                                         have H' := aM H
                                         clear H
                                         have p407 : 0 ≤ (x15_6 : Int) := of_decide_eq_true nQ
                                         have q407 : x15_6 < (((rd_T46 t379 x13_5).f1).length : Int) := of_decide_eq_true nQ
                                         obtain ⟨ad407, e407, hx407_0, hx407_1, hx407_2⟩ := at_T43 HR406_1.out x15_6 p407 q407
                                         cases e407
                                         replace p407 := eq_true p407; replace q407 := eq_true q407
                                         have p408 : 0 ≤ (x15_6 : Int) := of_decide_eq_true nQ
                                         have q408 : x15_6 < (((rd_T46 t379 x13_5).f1).length : Int) := of_decide_eq_true nQ
                                         obtain ⟨ad408, e408, hx408_0, hx408_1, hx408_2⟩ := at_T43 HR406_1.out x15_6 p408 q408
                                         obtain rfl : ad407 = ad408 := (by injection e408)
                                         replace p408 := eq_true p408; replace q408 := eq_true q408
                                         have p409 : 0 ≤ (x16_7 : Int) := of_decide_eq_true nQ
                                         have q409 : x16_7 < (((rd_T46 t379 x13_5).f1).length : Int) := of_decide_eq_true nQ
                                         obtain ⟨ad409, e409, hx409_0, hx409_1, hx409_2⟩ := at_T43 HR406_1.out x16_7 p409 q409
                                         obtain rfl : ad407 = ad409 := (by injection e409)
                                         replace p409 := eq_true p409; replace q409 := eq_true q409
                                         have p410 : 0 ≤ (x16_7 : Int) := of_decide_eq_true nQ
                                         have q410 : x16_7 < (((rd_T46 t379 x13_5).f1).length : Int) := of_decide_eq_true nQ
                                         obtain ⟨ad410, e410, hx410_0, hx410_1, hx410_2⟩ := at_T43 HR406_1.out x16_7 p410 q410
                                         obtain rfl : ad407 = ad410 := (by injection e410)
                                         replace p410 := eq_true p410; replace q410 := eq_true q410; go_wp2
                                         go_roundg k7
                                         case measure => have := HJ9.out; have := HJ21.out; have := HJ47.out; have := HJ74.out; have := HK5.out; have := HK6.out; have := HK7.out; omega
                                         case rel => exact ⟨(wrap64 (x16_7 + 1)), nS, H', ⟨by have := HJ9.out; have := HJ21.out; have := HJ47.out; have := HJ74.out; have := HK5.out; have := HK6.out; have := HK7.out; omega⟩, ⟨by (with_reducible repeat (first | apply Kd.S_alloc | apply Kd.S_drewN | apply Kd.S_drew)); exact HO_3.out⟩, ⟨by exact nR HO_10.out⟩, ⟨by exact nB BK398.out⟩, ⟨by exact nB BK403.out⟩, ⟨by repeat (first | (with_reducible exact HR400_1.out) | (with_reducible refine Kd.C_alloc ?_ _) | (with_reducible refine Kd.C_drewN ?_ _) | (with_reducible refine Kd.C_drew ?_) | exact HR400_1.out)⟩, ⟨by repeat (first | (with_reducible exact HR406_1.out) | (with_reducible refine Kd.C_alloc ?_ _) | (with_reducible refine Kd.C_drewN ?_ _) | (with_reducible refine Kd.C_drew ?_) | exact HR406_1.out)⟩, ⟨nH2 HB.out GE398.out GE403.out⟩⟩
                                     · rw [if_neg c89] at H
                                       have c89b0 : (((rd_T43 ((rd_T46 t379 x13_5).f1) x16_7).f0) == t381) = false := beq_eq_false_iff_ne.mpr c89
                                       have c89b1 : (((rd_T43 ((rd_T46 t379 x13_5).f1) x16_7).f0) != t381) = true := bne_iff_ne.mpr c89
                                       have H' := aM H
                                       clear H
                                       have p407 : 0 ≤ (x15_6 : Int) := of_decide_eq_true nQ
                                       have q407 : x15_6 < (((rd_T46 t379 x13_5).f1).length : Int) := of_decide_eq_true nQ
                                       obtain ⟨ad407, e407, hx407_0, hx407_1, hx407_2⟩ := at_T43 HR406_1.out x15_6 p407 q407
                                       cases e407
                                       replace p407 := eq_true p407; replace q407 := eq_true q407
                                       have p408 : 0 ≤ (x15_6 : Int) := of_decide_eq_true nQ
                                       have q408 : x15_6 < (((rd_T46 t379 x13_5).f1).length : Int) := of_decide_eq_true nQ
                                       obtain ⟨ad408, e408, hx408_0, hx408_1, hx408_2⟩ := at_T43 HR406_1.out x15_6 p408 q408
                                       obtain rfl : ad407 = ad408 := (by injection e408)
                                       replace p408 := eq_true p408; replace q408 := eq_true q408
                                       have p409 : 0 ≤ (x16_7 : Int) := of_decide_eq_true nQ
                                       have q409 : x16_7 < (((rd_T46 t379 x13_5).f1).length : Int) := of_decide_eq_true nQ
                                       obtain ⟨ad409, e409, hx409_0, hx409_1, hx409_2⟩ := at_T43 HR406_1.out x16_7 p409 q409
                                       obtain rfl : ad407 = ad409 := (by injection e409)
                                       replace p409 := eq_true p409; replace q409 := eq_true q409; go_wp2
                                       go_roundg k7
                                       case measure => have := HJ9.out; have := HJ21.out; have := HJ47.out; have := HJ74.out; have := HK5.out; have := HK6.out; have := HK7.out; omega
                                       case rel => exact ⟨(wrap64 (x16_7 + 1)), nS, H', ⟨by have := HJ9.out; have := HJ21.out; have := HJ47.out; have := HJ74.out; have := HK5.out; have := HK6.out; have := HK7.out; omega⟩, ⟨by (with_reducible repeat (first | apply Kd.S_alloc | apply Kd.S_drewN | apply Kd.S_drew)); exact HO_3.out⟩, ⟨by exact nR HO_10.out⟩, ⟨by exact nB BK398.out⟩, ⟨by exact nB BK403.out⟩, ⟨by repeat (first | (with_reducible exact HR400_1.out) | (with_reducible refine Kd.C_alloc ?_ _) | (with_reducible refine Kd.C_drewN ?_ _) | (with_reducible refine Kd.C_drew ?_) | exact HR400_1.out)⟩, ⟨by repeat (first | (with_reducible exact HR406_1.out) | (with_reducible refine Kd.C_alloc ?_ _) | (with_reducible refine Kd.C_drewN ?_ _) | (with_reducible refine Kd.C_drew ?_) | exact HR406_1.out)⟩, ⟨nH2 HB.out GE398.out GE403.out⟩⟩
                                   · rw [if_neg c87] at H
                                     have c87b0 : decide (t382 ≤ ((rd_T43 ((rd_T46 t379 x13_5).f1) x15_6).f2)) = false := decide_eq_false c87
                                     clear c87
                                     have H' := aM H
                                     clear H
                                     have p407 : 0 ≤ (x15_6 : Int) := of_decide_eq_true nQ
                                     have q407 : x15_6 < (((rd_T46 t379 x13_5).f1).length : Int) := of_decide_eq_true nQ
                                     obtain ⟨ad407, e407, hx407_0, hx407_1, hx407_2⟩ := at_T43 HR406_1.out x15_6 p407 q407
                                     cases e407
                                     replace p407 := eq_true p407; replace q407 := eq_true q407
                                     have p408 : 0 ≤ (x15_6 : Int) := of_decide_eq_true nQ
                                     have q408 : x15_6 < (((rd_T46 t379 x13_5).f1).length : Int) := of_decide_eq_true nQ
                                     obtain ⟨ad408, e408, hx408_0, hx408_1, hx408_2⟩ := at_T43 HR406_1.out x15_6 p408 q408
                                     obtain rfl : ad407 = ad408 := (by injection e408)
                                     replace p408 := eq_true p408; replace q408 := eq_true q408; go_wp2
                                     go_roundg k7
                                     case measure => have := HJ9.out; have := HJ21.out; have := HJ47.out; have := HJ74.out; have := HK5.out; have := HK6.out; have := HK7.out; omega
                                     case rel => exact ⟨(wrap64 (x16_7 + 1)), nS, H', ⟨by have := HJ9.out; have := HJ21.out; have := HJ47.out; have := HJ74.out; have := HK5.out; have := HK6.out; have := HK7.out; omega⟩, ⟨by (with_reducible repeat (first | apply Kd.S_alloc | apply Kd.S_drewN | apply Kd.S_drew)); exact HO_3.out⟩, ⟨by exact nR HO_10.out⟩, ⟨by exact nB BK398.out⟩, ⟨by exact nB BK403.out⟩, ⟨by repeat (first | (with_reducible exact HR400_1.out) | (with_reducible refine Kd.C_alloc ?_ _) | (with_reducible refine Kd.C_drewN ?_ _) | (with_reducible refine Kd.C_drew ?_) | exact HR400_1.out)⟩, ⟨by repeat (first | (with_reducible exact HR406_1.out) | (with_reducible refine Kd.C_alloc ?_ _) | (with_reducible refine Kd.C_drewN ?_ _) | (with_reducible refine Kd.C_drew ?_) | exact HR406_1.out)⟩, ⟨nH2 HB.out GE398.out GE403.out⟩⟩
                                 · rw [if_neg c86] at H
                                   have c86b0 : (((rd_T43 ((rd_T46 t379 x13_5).f1) x15_6).f0) == t380) = false := beq_eq_false_iff_ne.mpr c86
                                   have c86b1 : (((rd_T43 ((rd_T46 t379 x13_5).f1) x15_6).f0) != t380) = true := bne_iff_ne.mpr c86
                                   have H' := aM H
                                   clear H
                                   have p407 : 0 ≤ (x15_6 : Int) := of_decide_eq_true nQ
                                   have q407 : x15_6 < (((rd_T46 t379 x13_5).f1).length : Int) := of_decide_eq_true nQ
                                   obtain ⟨ad407, e407, hx407_0, hx407_1, hx407_2⟩ := at_T43 HR406_1.out x15_6 p407 q407
                                   cases e407
                                   replace p407 := eq_true p407; replace q407 := eq_true q407; go_wp2
                                   go_roundg k7
                                   case measure => have := HJ9.out; have := HJ21.out; have := HJ47.out; have := HJ74.out; have := HK5.out; have := HK6.out; have := HK7.out; omega
                                   case rel => exact ⟨(wrap64 (x16_7 + 1)), nS, H', ⟨by have := HJ9.out; have := HJ21.out; have := HJ47.out; have := HJ74.out; have := HK5.out; have := HK6.out; have := HK7.out; omega⟩, ⟨by (with_reducible repeat (first | apply Kd.S_alloc | apply Kd.S_drewN | apply Kd.S_drew)); exact HO_3.out⟩, ⟨by exact nR HO_10.out⟩, ⟨by exact nB BK398.out⟩, ⟨by exact nB BK403.out⟩, ⟨by repeat (first | (with_reducible exact HR400_1.out) | (with_reducible refine Kd.C_alloc ?_ _) | (with_reducible refine Kd.C_drewN ?_ _) | (with_reducible refine Kd.C_drew ?_) | exact HR400_1.out)⟩, ⟨by repeat (first | (with_reducible exact HR406_1.out) | (with_reducible refine Kd.C_alloc ?_ _) | (with_reducible refine Kd.C_drewN ?_ _) | (with_reducible refine Kd.C_drew ?_) | exact HR406_1.out)⟩, ⟨nH2 HB.out GE398.out GE403.out⟩⟩
                               · rw [if_neg c83] at H
                                 have c83b0 : decide (x16_7 < (((rd_T46 t379 x13_5).f1).length : Int)) = false := decide_eq_false c83
                                 clear c83
                                 have H' := aM H
                                 clear H; go_wp2
                                 go_roundg k7
                                 case measure => have := HJ9.out; have := HJ21.out; have := HJ47.out; have := HJ74.out; have := HK5.out; have := HK6.out; have := HK7.out; omega
                                 case rel => exact ⟨(wrap64 (x15_6 + 1)), nS, H', ⟨by have := HJ9.out; have := HJ21.out; have := HJ47.out; have := HJ74.out; have := HK5.out; have := HK6.out; have := HK7.out; omega⟩, ⟨by (with_reducible repeat (first | apply Kd.S_alloc | apply Kd.S_drewN | apply Kd.S_drew)); exact HO_3.out⟩, ⟨by exact nR HO_10.out⟩, ⟨by exact nB BK398.out⟩, ⟨by exact nB BK403.out⟩, ⟨by repeat (first | (with_reducible exact HR400_1.out) | (with_reducible refine Kd.C_alloc ?_ _) | (with_reducible refine Kd.C_drewN ?_ _) | (with_reducible refine Kd.C_drew ?_) | exact HR400_1.out)⟩, ⟨by repeat (first | (with_reducible exact HR406_1.out) | (with_reducible refine Kd.C_alloc ?_ _) | (with_reducible refine Kd.C_drewN ?_ _) | (with_reducible refine Kd.C_drew ?_) | exact HR406_1.out)⟩, ⟨nH2 HB.out GE398.out GE403.out⟩⟩
                           · rw [if_neg c82] at H
                             have c82b0 : decide (x15_6 < (((rd_T46 t379 x13_5).f1).length : Int)) = false := decide_eq_false c82
                             clear c82
                             have H' := aM H
                             clear H; go_wp2
                             go_roundg k6
                             case measure => have := HJ9.out; have := HJ21.out; have := HJ47.out; have := HJ74.out; have := HK5.out; have := HK6.out; omega
                             case rel => exact ⟨(wrap64 (x13_5 + 1)), nS, H', ⟨by have := HJ9.out; have := HJ21.out; have := HJ47.out; have := HJ74.out; have := HK5.out; have := HK6.out; omega⟩, ⟨by (with_reducible repeat (first | apply Kd.S_alloc | apply Kd.S_drewN | apply Kd.S_drew)); exact HO_3.out⟩, ⟨by exact nR HO_10.out⟩, ⟨by exact nB BK398.out⟩, ⟨by exact nB BK403.out⟩, ⟨by repeat (first | (with_reducible exact HR400_1.out) | (with_reducible refine Kd.C_alloc ?_ _) | (with_reducible refine Kd.C_drewN ?_ _) | (with_reducible refine Kd.C_drew ?_) | exact HR400_1.out)⟩, ⟨nH2 HB.out GE398.out GE403.out⟩⟩
                       · rw [if_neg c80] at H
                         have c80b0 : decide (x13_5 < (t379.length : Int)) = false := decide_eq_false c80
                         clear c80
                         obtain ⟨t405, A910, H⟩ := Option.bind_eq_some_iff.mp H
                         have A91 := aM A910
                         clear A910; obtain rfl := Option.some.inj H
                         go_wp2_with (first | ((with_reducible refine gate_callee (f := 10) rfl ?_); refine goesL_ (some 231) rfl rfl Tryd.func10 (by kernel_rfl) rfl #[.slice (some ad395) t379.length co12, .slice (some ad394) t388.length co50, .int .i64 t383] rfl nM ?_; (with_reducible refine (impl_JourneyText.calls k5 _ _ t379 _ _ t388 t383 t405 _ ?side1 ?side2 ?side3 ?side4 ?sideT A91.out).mono ?_); (case sideT => exact tb_on HTB.out (nH2 HB.out GE398.out GE403.out)); (case side1 => repeat (first | exact (Kd.S_reads' HO_3.out).2.2 | (with_reducible refine Kd.C_alloc ?_ _) | (with_reducible refine Kd.C_drewN ?_ _) | (with_reducible refine Kd.C_drew ?_))); (case side2 => exact (Kd.S_reads' HO_3.out).2.1); (case side3 => repeat (first | exact (Kd.R_reads' HO_10.out).2.2 | (with_reducible refine Kd.C_alloc ?_ _) | (with_reducible refine Kd.C_drewN ?_ _) | (with_reducible refine Kd.C_drew ?_))); (case side4 => exact (Kd.R_reads' HO_10.out).2.1); rintro e w92 ⟨rfl, hb⟩; refine ⟨_, rfl, ?_⟩; have n_ := aA (Kd.S_below (by (with_reducible repeat (first | apply Kd.S_alloc | apply Kd.S_drewN | apply Kd.S_drew)); exact HO_3.out) hb) <| aA (Kd.R_below (nR HO_10.out) hb) <| aA (nBB BK398.out hb) <| aA (nBB BK403.out hb) <| aA (Kd.C_below (by repeat (first | (with_reducible exact HR400_1.out) | (with_reducible refine Kd.C_alloc ?_ _) | (with_reducible refine Kd.C_drewN ?_ _) | (with_reducible refine Kd.C_drew ?_) | exact HR400_1.out)) hb) <| aM (below_step (nH2 HB.out GE398.out GE403.out) hb); clear HO_3 HO_10 BK398 BK403 HR400_1 HB; obtain ⟨HO_3, HO_10, BK398, BK403, HR400_1, HB⟩ := n_; (try clear hb); (try clear hb2); (try clear hk); (try clear hi)))
                         go_ret
                         exact ⟨by first | rfl | (have e_ : ∀ l_ : List UInt8, (l_ != ([] : List UInt8)) = !l_.isEmpty := fun l_ => (by cases l_ <;> rfl); rw [e_]; rfl) | (simp [errW_none, errW_some] <;> rfl) | (simp only [← hji41]; first | rfl | (simp [errW_none, errW_some] <;> rfl)) | (simp [*, errW_none, errW_some] <;> first | rfl | (simp [wrap64]; done)), nH2 HB.out GE398.out GE403.out⟩
   · rw [if_neg c9] at H
     have c9b0 : (t387 == t391) = false := beq_eq_false_iff_ne.mpr c9
     have c9b1 : (t387 != t391) = true := bne_iff_ne.mpr c9
     exact absurd ((Option.some.inj H).trans ht.out) (by decide)
/-- THE ONE PURE STATEMENT of laws_FnJourney: yours. -/
theorem laws_FnJourney.walk (P : laws_FnJourney.Pure) (a0 : Option Addr) (len0 cap0 : Nat) (z0 : List Int) (w : World) (w0 : (a0 = none ∧ len0 = 0 ∧ cap0 = 0 ∧ z0 = []) ∨ ∃ x, a0 = some x ∧ len0 ≤ cap0 ∧ cap0 ≤ maxLen ∧ z0.length = cap0 ∧ (∀ i, i < z0.length → w.cell? (x.add i) = some (.int .u8 (z0.getD i 0))) ∧ ∀ n ∈ z0, (Lit.int .u8 n).wf = true) (y0 : len0 * 1 ≤ 140737488351232) (hT : Tb w) :
 Calls Tryd.prog 4 #[.slice a0 len0 cap0] w fun e w' => e = .returned (.bool true) ∧ Below w.heap.size w w' := by
 obtain ⟨l0, rfl, hr0, hm0, hw0, hc0⟩ := ReadsInt.ofRowC w0
 obtain ⟨k, h⟩ := P l0 hm0 y0 hw0
 refine (laws_FnJourney.calls k _ _ l0 true w (Kd.C_of_reads (d := (0 : Int)) (h1 := fun _ => rfl) hr0) hc0 ⟨rfl⟩ hT h).mono ?_
 rintro e w' ⟨rfl, hd⟩
 exact ⟨rfl, hd⟩
end Go.Proofs.YtdpjoblnjjkbfaaDoor.P
