/- Contracts of the functions of the program, each one with its plain Lean function; written by a program of the session out of the translation. -/
import Derived.Test.YtcihaeggjfpacaaNb
import Derived.Test.YtcihaeggjfpacaaPx0
import Derived.Test.YtcihaeggjfpacaaPx19
import Derived.Test.YtcihaeggjfpacaaPx21
import Derived.Test.YtcihaeggjfpacaaPx23
import Derived.Test.YtcihaeggjfpacaaPx26
import Derived.Test.YtcihaeggjfpacaaPx33
import Derived.Test.YtcihaeggjfpacaaPx35
import Derived.Test.YtcihaeggjfpacaaPx36
import Derived.Test.YtcihaeggjfpacaaPx37
namespace Go.Proofs.Ytcihaeggjfpacaa.P
open Go.RowKit Go.Proofs.YtcihaeggjfpacaaW.PrintWords Go.Proofs.YtcihaeggjfpacaaW.PrintLast Go.Proofs.YtcihaeggjfpacaaW.PrintMore
attribute [local go_sem] max2_int min2_int max_two min_two max_three min_three max_four min_four   -- for this text's walks alone
set_option linter.unusedVariables false
set_option linter.unusedSimpArgs false
/-! ### laws_FnSplit: function 10 -/
theorem laws_FnSplit.mono_l : ∀ k, (∀ y0 y1 y2 y3 y4 y5 y6 y7 y8 y9, LeO (laws_FnSplit.j0 k y0 y1 y2 y3 y4 y5 y6 y7 y8 y9) (laws_FnSplit.j0 (k + 1) y0 y1 y2 y3 y4 y5 y6 y7 y8 y9)) ∧ (∀ y0 y1 y2 y3 y4 y5 y6 y7 y8 y9 y10 y11, LeO (laws_FnSplit.l0 k y0 y1 y2 y3 y4 y5 y6 y7 y8 y9 y10 y11) (laws_FnSplit.l0 (k + 1) y0 y1 y2 y3 y4 y5 y6 y7 y8 y9 y10 y11)) ∧ (∀ y0 y1 y2 y3 y4 y5 y6 y7 y8 y9 y10 y11 y12, LeO (laws_FnSplit.j2 k y0 y1 y2 y3 y4 y5 y6 y7 y8 y9 y10 y11 y12) (laws_FnSplit.j2 (k + 1) y0 y1 y2 y3 y4 y5 y6 y7 y8 y9 y10 y11 y12)) ∧ (∀ y0 y1 y2 y3 y4 y5 y6 y7 y8 y9 y10 y11 y12 y13, LeO (laws_FnSplit.j3 k y0 y1 y2 y3 y4 y5 y6 y7 y8 y9 y10 y11 y12 y13) (laws_FnSplit.j3 (k + 1) y0 y1 y2 y3 y4 y5 y6 y7 y8 y9 y10 y11 y12 y13)) ∧ (∀ y0 y1 y2 y3 y4 y5 y6 y7 y8 y9 y10, LeO (laws_FnSplit.l1 k y0 y1 y2 y3 y4 y5 y6 y7 y8 y9 y10) (laws_FnSplit.l1 (k + 1) y0 y1 y2 y3 y4 y5 y6 y7 y8 y9 y10))
 | 0 => ⟨fun _ _ _ _ _ _ _ _ _ _ r h => by simp [laws_FnSplit.j0] at h, fun _ _ _ _ _ _ _ _ _ _ _ _ r h => by simp [laws_FnSplit.l0] at h, fun _ _ _ _ _ _ _ _ _ _ _ _ _ r h => by simp [laws_FnSplit.j2] at h, fun _ _ _ _ _ _ _ _ _ _ _ _ _ _ r h => by simp [laws_FnSplit.j3] at h, fun _ _ _ _ _ _ _ _ _ _ _ r h => by simp [laws_FnSplit.l1] at h⟩
 | k + 1 => by
  obtain ⟨ih0, ih1, ih2, ih3, ih4⟩ := laws_FnSplit.mono_l k
  refine ⟨?_, ?_, ?_, ?_, ?_⟩
  · intro y0 y1 y2 y3 y4 y5 y6 y7 y8 y9
    unfold laws_FnSplit.j0
    repeat' first
    | (with_reducible exact ih0 _ _ _ _ _ _ _ _ _ _)
    | (with_reducible exact ih1 _ _ _ _ _ _ _ _ _ _ _ _)
    | (with_reducible exact ih2 _ _ _ _ _ _ _ _ _ _ _ _ _)
    | (with_reducible exact ih3 _ _ _ _ _ _ _ _ _ _ _ _ _ _)
    | (with_reducible exact ih4 _ _ _ _ _ _ _ _ _ _ _)
    | (with_reducible exact impl_Carded.mono _ _ _ _ _ _ _ _)
    | (with_reducible exact impl_Fare.mono _ _ _ _ _ _ _)
    | (with_reducible exact impl_Split.mono _ _ _ _ _ _ _ _)
    | (with_reducible exact impl_Through.mono _ _ _ _ _ _ _ _)
    | (with_reducible exact laws_sameInts.mono _ _ _)
    | (with_reducible exact spec_DrawRightTariff.mono _ _)
    | (with_reducible exact spec_Split.mono _ _ _ _ _ _ _ _)
    | (with_reducible exact LeO.refl _)
    | (with_reducible exact LeO.none _)
    | (with_reducible refine LeO.ite ?_ ?_)
    | (with_reducible refine LeO.bind ?_ (fun _ => ?_))
    | exact ih0 _ _ _ _ _ _ _ _ _ _
    | exact ih1 _ _ _ _ _ _ _ _ _ _ _ _
    | exact ih2 _ _ _ _ _ _ _ _ _ _ _ _ _
    | exact ih3 _ _ _ _ _ _ _ _ _ _ _ _ _ _
    | exact ih4 _ _ _ _ _ _ _ _ _ _ _
    | exact impl_Carded.mono _ _ _ _ _ _ _ _
    | exact impl_Fare.mono _ _ _ _ _ _ _
    | exact impl_Split.mono _ _ _ _ _ _ _ _
    | exact impl_Through.mono _ _ _ _ _ _ _ _
    | exact laws_sameInts.mono _ _ _
    | exact spec_DrawRightTariff.mono _ _
    | exact spec_Split.mono _ _ _ _ _ _ _ _
    | exact LeO.none _
    | refine LeO.ite ?_ ?_
    | refine LeO.bind ?_ (fun _ => ?_)
  · intro y0 y1 y2 y3 y4 y5 y6 y7 y8 y9 y10 y11
    unfold laws_FnSplit.l0
    repeat' first
    | (with_reducible exact ih0 _ _ _ _ _ _ _ _ _ _)
    | (with_reducible exact ih1 _ _ _ _ _ _ _ _ _ _ _ _)
    | (with_reducible exact ih2 _ _ _ _ _ _ _ _ _ _ _ _ _)
    | (with_reducible exact ih3 _ _ _ _ _ _ _ _ _ _ _ _ _ _)
    | (with_reducible exact ih4 _ _ _ _ _ _ _ _ _ _ _)
    | (with_reducible exact impl_Carded.mono _ _ _ _ _ _ _ _)
    | (with_reducible exact impl_Fare.mono _ _ _ _ _ _ _)
    | (with_reducible exact impl_Split.mono _ _ _ _ _ _ _ _)
    | (with_reducible exact impl_Through.mono _ _ _ _ _ _ _ _)
    | (with_reducible exact laws_sameInts.mono _ _ _)
    | (with_reducible exact spec_DrawRightTariff.mono _ _)
    | (with_reducible exact spec_Split.mono _ _ _ _ _ _ _ _)
    | (with_reducible exact LeO.refl _)
    | (with_reducible exact LeO.none _)
    | (with_reducible refine LeO.ite ?_ ?_)
    | (with_reducible refine LeO.bind ?_ (fun _ => ?_))
    | exact ih0 _ _ _ _ _ _ _ _ _ _
    | exact ih1 _ _ _ _ _ _ _ _ _ _ _ _
    | exact ih2 _ _ _ _ _ _ _ _ _ _ _ _ _
    | exact ih3 _ _ _ _ _ _ _ _ _ _ _ _ _ _
    | exact ih4 _ _ _ _ _ _ _ _ _ _ _
    | exact impl_Carded.mono _ _ _ _ _ _ _ _
    | exact impl_Fare.mono _ _ _ _ _ _ _
    | exact impl_Split.mono _ _ _ _ _ _ _ _
    | exact impl_Through.mono _ _ _ _ _ _ _ _
    | exact laws_sameInts.mono _ _ _
    | exact spec_DrawRightTariff.mono _ _
    | exact spec_Split.mono _ _ _ _ _ _ _ _
    | exact LeO.none _
    | refine LeO.ite ?_ ?_
    | refine LeO.bind ?_ (fun _ => ?_)
  · intro y0 y1 y2 y3 y4 y5 y6 y7 y8 y9 y10 y11 y12
    unfold laws_FnSplit.j2
    repeat' first
    | (with_reducible exact ih0 _ _ _ _ _ _ _ _ _ _)
    | (with_reducible exact ih1 _ _ _ _ _ _ _ _ _ _ _ _)
    | (with_reducible exact ih2 _ _ _ _ _ _ _ _ _ _ _ _ _)
    | (with_reducible exact ih3 _ _ _ _ _ _ _ _ _ _ _ _ _ _)
    | (with_reducible exact ih4 _ _ _ _ _ _ _ _ _ _ _)
    | (with_reducible exact impl_Carded.mono _ _ _ _ _ _ _ _)
    | (with_reducible exact impl_Fare.mono _ _ _ _ _ _ _)
    | (with_reducible exact impl_Split.mono _ _ _ _ _ _ _ _)
    | (with_reducible exact impl_Through.mono _ _ _ _ _ _ _ _)
    | (with_reducible exact laws_sameInts.mono _ _ _)
    | (with_reducible exact spec_DrawRightTariff.mono _ _)
    | (with_reducible exact spec_Split.mono _ _ _ _ _ _ _ _)
    | (with_reducible exact LeO.refl _)
    | (with_reducible exact LeO.none _)
    | (with_reducible refine LeO.ite ?_ ?_)
    | (with_reducible refine LeO.bind ?_ (fun _ => ?_))
    | exact ih0 _ _ _ _ _ _ _ _ _ _
    | exact ih1 _ _ _ _ _ _ _ _ _ _ _ _
    | exact ih2 _ _ _ _ _ _ _ _ _ _ _ _ _
    | exact ih3 _ _ _ _ _ _ _ _ _ _ _ _ _ _
    | exact ih4 _ _ _ _ _ _ _ _ _ _ _
    | exact impl_Carded.mono _ _ _ _ _ _ _ _
    | exact impl_Fare.mono _ _ _ _ _ _ _
    | exact impl_Split.mono _ _ _ _ _ _ _ _
    | exact impl_Through.mono _ _ _ _ _ _ _ _
    | exact laws_sameInts.mono _ _ _
    | exact spec_DrawRightTariff.mono _ _
    | exact spec_Split.mono _ _ _ _ _ _ _ _
    | exact LeO.none _
    | refine LeO.ite ?_ ?_
    | refine LeO.bind ?_ (fun _ => ?_)
  · intro y0 y1 y2 y3 y4 y5 y6 y7 y8 y9 y10 y11 y12 y13
    unfold laws_FnSplit.j3
    repeat' first
    | (with_reducible exact ih0 _ _ _ _ _ _ _ _ _ _)
    | (with_reducible exact ih1 _ _ _ _ _ _ _ _ _ _ _ _)
    | (with_reducible exact ih2 _ _ _ _ _ _ _ _ _ _ _ _ _)
    | (with_reducible exact ih3 _ _ _ _ _ _ _ _ _ _ _ _ _ _)
    | (with_reducible exact ih4 _ _ _ _ _ _ _ _ _ _ _)
    | (with_reducible exact impl_Carded.mono _ _ _ _ _ _ _ _)
    | (with_reducible exact impl_Fare.mono _ _ _ _ _ _ _)
    | (with_reducible exact impl_Split.mono _ _ _ _ _ _ _ _)
    | (with_reducible exact impl_Through.mono _ _ _ _ _ _ _ _)
    | (with_reducible exact laws_sameInts.mono _ _ _)
    | (with_reducible exact spec_DrawRightTariff.mono _ _)
    | (with_reducible exact spec_Split.mono _ _ _ _ _ _ _ _)
    | (with_reducible exact LeO.refl _)
    | (with_reducible exact LeO.none _)
    | (with_reducible refine LeO.ite ?_ ?_)
    | (with_reducible refine LeO.bind ?_ (fun _ => ?_))
    | exact ih0 _ _ _ _ _ _ _ _ _ _
    | exact ih1 _ _ _ _ _ _ _ _ _ _ _ _
    | exact ih2 _ _ _ _ _ _ _ _ _ _ _ _ _
    | exact ih3 _ _ _ _ _ _ _ _ _ _ _ _ _ _
    | exact ih4 _ _ _ _ _ _ _ _ _ _ _
    | exact impl_Carded.mono _ _ _ _ _ _ _ _
    | exact impl_Fare.mono _ _ _ _ _ _ _
    | exact impl_Split.mono _ _ _ _ _ _ _ _
    | exact impl_Through.mono _ _ _ _ _ _ _ _
    | exact laws_sameInts.mono _ _ _
    | exact spec_DrawRightTariff.mono _ _
    | exact spec_Split.mono _ _ _ _ _ _ _ _
    | exact LeO.none _
    | refine LeO.ite ?_ ?_
    | refine LeO.bind ?_ (fun _ => ?_)
  · intro y0 y1 y2 y3 y4 y5 y6 y7 y8 y9 y10
    unfold laws_FnSplit.l1
    repeat' first
    | (with_reducible exact ih0 _ _ _ _ _ _ _ _ _ _)
    | (with_reducible exact ih1 _ _ _ _ _ _ _ _ _ _ _ _)
    | (with_reducible exact ih2 _ _ _ _ _ _ _ _ _ _ _ _ _)
    | (with_reducible exact ih3 _ _ _ _ _ _ _ _ _ _ _ _ _ _)
    | (with_reducible exact ih4 _ _ _ _ _ _ _ _ _ _ _)
    | (with_reducible exact impl_Carded.mono _ _ _ _ _ _ _ _)
    | (with_reducible exact impl_Fare.mono _ _ _ _ _ _ _)
    | (with_reducible exact impl_Split.mono _ _ _ _ _ _ _ _)
    | (with_reducible exact impl_Through.mono _ _ _ _ _ _ _ _)
    | (with_reducible exact laws_sameInts.mono _ _ _)
    | (with_reducible exact spec_DrawRightTariff.mono _ _)
    | (with_reducible exact spec_Split.mono _ _ _ _ _ _ _ _)
    | (with_reducible exact LeO.refl _)
    | (with_reducible exact LeO.none _)
    | (with_reducible refine LeO.ite ?_ ?_)
    | (with_reducible refine LeO.bind ?_ (fun _ => ?_))
    | exact ih0 _ _ _ _ _ _ _ _ _ _
    | exact ih1 _ _ _ _ _ _ _ _ _ _ _ _
    | exact ih2 _ _ _ _ _ _ _ _ _ _ _ _ _
    | exact ih3 _ _ _ _ _ _ _ _ _ _ _ _ _ _
    | exact ih4 _ _ _ _ _ _ _ _ _ _ _
    | exact impl_Carded.mono _ _ _ _ _ _ _ _
    | exact impl_Fare.mono _ _ _ _ _ _ _
    | exact impl_Split.mono _ _ _ _ _ _ _ _
    | exact impl_Through.mono _ _ _ _ _ _ _ _
    | exact laws_sameInts.mono _ _ _
    | exact spec_DrawRightTariff.mono _ _
    | exact spec_Split.mono _ _ _ _ _ _ _ _
    | exact LeO.none _
    | refine LeO.ite ?_ ?_
    | refine LeO.bind ?_ (fun _ => ?_)
theorem laws_FnSplit.mono : ∀ a0 k, LeO (laws_FnSplit.f k a0) (laws_FnSplit.f (k + 1) a0) := by
 intro a0 k
 obtain ⟨ih0, ih1, ih2, ih3, ih4⟩ := laws_FnSplit.mono_l k
 unfold laws_FnSplit.f
 repeat' first
  | (with_reducible exact ih0 _ _ _ _ _ _ _ _ _ _)
  | (with_reducible exact ih1 _ _ _ _ _ _ _ _ _ _ _ _)
  | (with_reducible exact ih2 _ _ _ _ _ _ _ _ _ _ _ _ _)
  | (with_reducible exact ih3 _ _ _ _ _ _ _ _ _ _ _ _ _ _)
  | (with_reducible exact ih4 _ _ _ _ _ _ _ _ _ _ _)
  | (with_reducible exact impl_Carded.mono _ _ _ _ _ _ _ _)
  | (with_reducible exact impl_Fare.mono _ _ _ _ _ _ _)
  | (with_reducible exact impl_Split.mono _ _ _ _ _ _ _ _)
  | (with_reducible exact impl_Through.mono _ _ _ _ _ _ _ _)
  | (with_reducible exact laws_sameInts.mono _ _ _)
  | (with_reducible exact spec_DrawRightTariff.mono _ _)
  | (with_reducible exact spec_Split.mono _ _ _ _ _ _ _ _)
  | (with_reducible exact LeO.refl _)
  | (with_reducible exact LeO.none _)
  | (with_reducible refine LeO.ite ?_ ?_)
  | (with_reducible refine LeO.bind ?_ (fun _ => ?_))
  | exact ih0 _ _ _ _ _ _ _ _ _ _
  | exact ih1 _ _ _ _ _ _ _ _ _ _ _ _
  | exact ih2 _ _ _ _ _ _ _ _ _ _ _ _ _
  | exact ih3 _ _ _ _ _ _ _ _ _ _ _ _ _ _
  | exact ih4 _ _ _ _ _ _ _ _ _ _ _
  | exact impl_Carded.mono _ _ _ _ _ _ _ _
  | exact impl_Fare.mono _ _ _ _ _ _ _
  | exact impl_Split.mono _ _ _ _ _ _ _ _
  | exact impl_Through.mono _ _ _ _ _ _ _ _
  | exact laws_sameInts.mono _ _ _
  | exact spec_DrawRightTariff.mono _ _
  | exact spec_Split.mono _ _ _ _ _ _ _ _
  | exact LeO.none _
  | refine LeO.ite ?_ ?_
  | refine LeO.bind ?_ (fun _ => ?_)
def laws_FnSplit.T6 : Bool × List (List Nat × List Nat) := (true, [([], []), ([0], [0]), ([1], [1]), ([2], [2]), ([2], [2]), ([3, 4, 2], [2, 3, 4]), ([2, 5], [2, 5]), ([6, 2], [6]), ([7], [7]), ([7], [7]), ([7], [7]), ([7], [7]), ([11, 7], [7, 11]), ([12, 7], [7, 12]), ([7], [7]), ([7], [7]), ([15, 7], [7, 15]), ([16, 7], [7, 16]), ([14, 17, 7], [7, 14, 17]), ([18, 7], [7, 18]), ([10, 13, 19, 7, 7], [7, 10, 13, 19]), ([7], [7]), ([7], [7]), ([9, 20, 21, 22, 20, 7], [7, 9, 20, 21, 22]), ([8, 23, 7], [7, 8, 23]), ([7, 24], [7, 24])])
def laws_FnSplit.B6 : List Nat := [0, 1, 3, 7, 7, 31, 63, 127, 255, 255, 255, 255, 2303, 6399, 255, 255, 33023, 98559, 246015, 508159, 1047807, 255, 255, 8388351, 16777215, 33554431]
theorem laws_FnSplit.tab6 : rtab .any (opsOf Try.f10 6) = laws_FnSplit.T6 := by kernel_rfl
theorem laws_FnSplit.bits6 : waitsOk laws_FnSplit.T6.2 laws_FnSplit.B6 = true := by kernel_rfl
def laws_FnSplit.T17 : Bool × List (List Nat × List Nat) := (true, [([], []), ([], []), ([], []), ([], []), ([], []), ([3, 4], [3, 4]), ([5], [5]), ([], []), ([], []), ([7, 8], [7, 8]), ([9], [9]), ([2, 6, 10], [2, 6, 10]), ([], []), ([], []), ([1, 11, 12, 13, 11], [1, 11, 12, 13]), ([0, 14], [0, 14]), ([15, 14, 0, 1, 2, 3, 4, 5, 6, 7, 8, 9, 10, 11, 12, 13, 14, 15], [0, 15])])
def laws_FnSplit.B17 : List Nat := [0, 0, 0, 0, 0, 24, 56, 0, 0, 384, 896, 2044, 0, 0, 16382, 32767, 65535]
theorem laws_FnSplit.tab17 : rtab .any (opsOf Try.f10 17) = laws_FnSplit.T17 := by kernel_rfl
theorem laws_FnSplit.bits17 : waitsOk laws_FnSplit.T17.2 laws_FnSplit.B17 = true := by kernel_rfl
def laws_FnSplit.T22 : Bool × List (List Nat × List Nat) := (true, [([], []), ([], []), ([], []), ([2], [2]), ([3], [3]), ([], []), ([], []), ([5, 6], [5, 6]), ([7], [7]), ([1, 4, 8], [1, 4, 8]), ([], []), ([], []), ([0, 9, 10, 11, 9], [0, 9, 10, 11]), ([], []), ([], []), ([], []), ([], []), ([15, 16], [15, 16]), ([17], [17]), ([], []), ([], []), ([20], [20]), ([21], [21]), ([19, 22], [19, 22]), ([23], [23]), ([14, 18, 24, 12], [14, 18, 24]), ([], []), ([], []), ([13, 25, 26, 27, 25], [13, 25, 26, 27]), ([12, 28], [12, 28]), ([29, 28, 0, 1, 2, 3, 4, 5, 6, 7, 8, 9, 10, 11, 12, 13, 14, 15, 16, 17, 18, 19, 20, 21, 22, 23, 24, 25, 26, 27, 28, 29], [29])])
def laws_FnSplit.B22 : List Nat := [0, 0, 0, 4, 12, 0, 0, 96, 224, 510, 0, 0, 4095, 0, 0, 0, 0, 98304, 229376, 0, 0, 1048576, 3145728, 7864320, 16252928, 33546239, 0, 0, 268435455, 536870911, 1073741823]
theorem laws_FnSplit.tab22 : rtab .any (opsOf Try.f10 22) = laws_FnSplit.T22 := by kernel_rfl
theorem laws_FnSplit.bits22 : waitsOk laws_FnSplit.T22.2 laws_FnSplit.B22 = true := by kernel_rfl
set_option maxHeartbeats 8000000 in
set_option maxRecDepth 100000 in
theorem laws_FnSplit.calls (k : Nat) (A0 : Option Addr) (c0 : Nat) (l0 : List Int) (r : Bool) (w : World) (hr0 : Kd.C (Kd.int .u8) w A0 l0.length l0) (hc0 : l0.length ≤ c0) (ht : Aside0 (r = true)) (h : laws_FnSplit.f k l0 = some r) :
 Calls Try.prog 10 #[.slice A0 l0.length c0] w fun e w' => e = .returned (.bool r) ∧ Below w.heap.size w w' := by
 have hu34 := Try.underlying34
 have HR0 := Aside0.mk hr0
 have HC0 := Aside0.mk hc0
 clear hr0 hc0
 have HB := Aside0.mk (Below.refl w.heap.size w)
 have H : ((laws_big.f l0).bind fun t592 => (if t592 = true then (some true) else ((spec_DrawRightTariff.f k l0).bind fun bt593 => ((impl_Split.f k bt593.1 bt593.2.1 bt593.2.2.1 bt593.2.2.2.1 bt593.2.2.2.2.2.1 bt593.2.2.2.2.1 bt593.2.2.2.2.2.2).bind fun bt607 => ((impl_Through.f k bt593.1 bt593.2.1 bt593.2.2.1 bt593.2.2.2.1 bt593.2.2.2.2.2.1 bt593.2.2.2.2.1 bt593.2.2.2.2.2.2).bind fun t611 => (if bt607.1 < 0 then (laws_FnSplit.j0 k bt593.2.2.2.2.1 bt593.2.2.2.2.2.1 bt593.2.2.2.2.2.2 bt607.1 bt607.2 true bt593.1 bt593.2.1 bt593.2.2.1 bt593.2.2.2.1) else (if bt607.1 > t611 then (laws_FnSplit.j0 k bt593.2.2.2.2.1 bt593.2.2.2.2.2.1 bt593.2.2.2.2.2.2 bt607.1 bt607.2 true bt593.1 bt593.2.1 bt593.2.2.1 bt593.2.2.2.1) else (if 0 < (bt593.2.2.2.2.2.1.length : Int) then (if 0 ≤ (wrap64 ((bt593.2.2.2.2.2.1.length : Int) - 1)) then (if (wrap64 ((bt593.2.2.2.2.2.1.length : Int) - 1)) < (bt593.2.2.2.2.2.1.length : Int) then ((impl_Fare.f k bt593.1 bt593.2.1 bt593.2.2.1 bt593.2.2.2.1 (rd bt593.2.2.2.2.2.1 0) (rd bt593.2.2.2.2.2.1 (wrap64 ((bt593.2.2.2.2.2.1.length : Int) - 1)))).bind fun t614 => ((impl_Carded.f k bt593.1 bt593.2.1 bt593.2.2.1 bt593.2.2.2.1 t614 bt593.2.2.2.2.1 bt593.2.2.2.2.2.2).bind fun t615 => (laws_FnSplit.j0 k bt593.2.2.2.2.1 bt593.2.2.2.2.2.1 bt593.2.2.2.2.2.2 bt607.1 bt607.2 (t611 != t615) bt593.1 bt593.2.1 bt593.2.2.1 bt593.2.2.2.1))) else (none)) else (none)) else (none))))))))) = some r := h
 clear h
 replace H := Option.bind_eq_some_iff.mp H
 obtain ⟨t592, A20, H⟩ := H
 replace H : (if t592 = true then (some true) else ((spec_DrawRightTariff.f k l0).bind fun bt593 => ((impl_Split.f k bt593.1 bt593.2.1 bt593.2.2.1 bt593.2.2.2.1 bt593.2.2.2.2.2.1 bt593.2.2.2.2.1 bt593.2.2.2.2.2.2).bind fun bt607 => ((impl_Through.f k bt593.1 bt593.2.1 bt593.2.2.1 bt593.2.2.2.1 bt593.2.2.2.2.2.1 bt593.2.2.2.2.1 bt593.2.2.2.2.2.2).bind fun t611 => (if bt607.1 < 0 then (laws_FnSplit.j0 k bt593.2.2.2.2.1 bt593.2.2.2.2.2.1 bt593.2.2.2.2.2.2 bt607.1 bt607.2 true bt593.1 bt593.2.1 bt593.2.2.1 bt593.2.2.2.1) else (if bt607.1 > t611 then (laws_FnSplit.j0 k bt593.2.2.2.2.1 bt593.2.2.2.2.2.1 bt593.2.2.2.2.2.2 bt607.1 bt607.2 true bt593.1 bt593.2.1 bt593.2.2.1 bt593.2.2.2.1) else (if 0 < (bt593.2.2.2.2.2.1.length : Int) then (if 0 ≤ (wrap64 ((bt593.2.2.2.2.2.1.length : Int) - 1)) then (if (wrap64 ((bt593.2.2.2.2.2.1.length : Int) - 1)) < (bt593.2.2.2.2.2.1.length : Int) then ((impl_Fare.f k bt593.1 bt593.2.1 bt593.2.2.1 bt593.2.2.2.1 (rd bt593.2.2.2.2.2.1 0) (rd bt593.2.2.2.2.2.1 (wrap64 ((bt593.2.2.2.2.2.1.length : Int) - 1)))).bind fun t614 => ((impl_Carded.f k bt593.1 bt593.2.1 bt593.2.2.1 bt593.2.2.2.1 t614 bt593.2.2.2.2.1 bt593.2.2.2.2.2.2).bind fun t615 => (laws_FnSplit.j0 k bt593.2.2.2.2.1 bt593.2.2.2.2.2.1 bt593.2.2.2.2.2.2 bt607.1 bt607.2 (t611 != t615) bt593.1 bt593.2.1 bt593.2.2.1 bt593.2.2.2.1))) else (none)) else (none)) else (none)))))))) = some r := H
 have A2 := Aside0.mk A20
 clear A20
 by_cases c3 : t592 = true
 · subst c3
   have H1 : (some true) = some r := by rw [if_pos rfl] at H; exact H
   clear H; have H := H1; clear H1; obtain rfl := Option.some.inj H
   go_enter Try.func10, Try.ntmps10
   go_wp2_with (first | ((with_reducible refine gate_callee (f := 26) rfl ?_); refine goesL_ (some 19) rfl rfl Try.func26 (by kernel_rfl) rfl #[.slice A0 l0.length c0] rfl (by (try simp only [List.map_toArray, List.map_cons, List.map_nil]); first | done | rfl | (simp only [List.length_drop, List.length_take]; rfl)) ?_; (with_reducible refine (laws_big.calls _ _ l0 true _ ?side1 ?side2 A2.out).mono ?_); (case side1 => repeat (first | exact HR0.out | (with_reducible refine Kd.C_alloc ?_ _) | (with_reducible refine Kd.C_drewN ?_ _) | (with_reducible refine Kd.C_drew ?_))); (case side2 => exact HC0.out); rintro e w' ⟨rfl, ⟨nd, rfl⟩⟩; refine ⟨_, rfl, ?_⟩))
   go_ret
   exact ⟨by first | rfl | (simp [errW_none, errW_some] <;> rfl) | (simp [*, errW_none, errW_some] <;> first | rfl | (simp [wrap64]; done)), nH HB.out⟩
 · replace c3 := Bool.eq_false_iff.mpr c3
   subst c3
   have H1 : ((spec_DrawRightTariff.f k l0).bind fun bt593 => ((impl_Split.f k bt593.1 bt593.2.1 bt593.2.2.1 bt593.2.2.2.1 bt593.2.2.2.2.2.1 bt593.2.2.2.2.1 bt593.2.2.2.2.2.2).bind fun bt607 => ((impl_Through.f k bt593.1 bt593.2.1 bt593.2.2.1 bt593.2.2.2.1 bt593.2.2.2.2.2.1 bt593.2.2.2.2.1 bt593.2.2.2.2.2.2).bind fun t611 => (if bt607.1 < 0 then (laws_FnSplit.j0 k bt593.2.2.2.2.1 bt593.2.2.2.2.2.1 bt593.2.2.2.2.2.2 bt607.1 bt607.2 true bt593.1 bt593.2.1 bt593.2.2.1 bt593.2.2.2.1) else (if bt607.1 > t611 then (laws_FnSplit.j0 k bt593.2.2.2.2.1 bt593.2.2.2.2.2.1 bt593.2.2.2.2.2.2 bt607.1 bt607.2 true bt593.1 bt593.2.1 bt593.2.2.1 bt593.2.2.2.1) else (if 0 < (bt593.2.2.2.2.2.1.length : Int) then (if 0 ≤ (wrap64 ((bt593.2.2.2.2.2.1.length : Int) - 1)) then (if (wrap64 ((bt593.2.2.2.2.2.1.length : Int) - 1)) < (bt593.2.2.2.2.2.1.length : Int) then ((impl_Fare.f k bt593.1 bt593.2.1 bt593.2.2.1 bt593.2.2.2.1 (rd bt593.2.2.2.2.2.1 0) (rd bt593.2.2.2.2.2.1 (wrap64 ((bt593.2.2.2.2.2.1.length : Int) - 1)))).bind fun t614 => ((impl_Carded.f k bt593.1 bt593.2.1 bt593.2.2.1 bt593.2.2.2.1 t614 bt593.2.2.2.2.1 bt593.2.2.2.2.2.2).bind fun t615 => (laws_FnSplit.j0 k bt593.2.2.2.2.1 bt593.2.2.2.2.2.1 bt593.2.2.2.2.2.2 bt607.1 bt607.2 (t611 != t615) bt593.1 bt593.2.1 bt593.2.2.1 bt593.2.2.2.1))) else (none)) else (none)) else (none))))))) = some r := by rw [if_neg (show ¬ (false = true) by decide)] at H; exact H
   clear H; have H := H1; clear H1
   replace H := Option.bind_eq_some_iff.mp H
   obtain ⟨⟨t593, t594, t595, t598, t599, t602, t605⟩, A40, H⟩ := H
   replace H : ((impl_Split.f k t593 t594 t595 t598 t602 t599 t605).bind fun bt607 => ((impl_Through.f k t593 t594 t595 t598 t602 t599 t605).bind fun t611 => (if bt607.1 < 0 then (laws_FnSplit.j0 k t599 t602 t605 bt607.1 bt607.2 true t593 t594 t595 t598) else (if bt607.1 > t611 then (laws_FnSplit.j0 k t599 t602 t605 bt607.1 bt607.2 true t593 t594 t595 t598) else (if 0 < (t602.length : Int) then (if 0 ≤ (wrap64 ((t602.length : Int) - 1)) then (if (wrap64 ((t602.length : Int) - 1)) < (t602.length : Int) then ((impl_Fare.f k t593 t594 t595 t598 (rd t602 0) (rd t602 (wrap64 ((t602.length : Int) - 1)))).bind fun t614 => ((impl_Carded.f k t593 t594 t595 t598 t614 t599 t605).bind fun t615 => (laws_FnSplit.j0 k t599 t602 t605 bt607.1 bt607.2 (t611 != t615) t593 t594 t595 t598))) else (none)) else (none)) else (none)))))) = some r := H
   have A4 := Aside0.mk A40
   clear A40
   replace H := Option.bind_eq_some_iff.mp H
   obtain ⟨⟨t607, t608⟩, A50, H⟩ := H
   replace H : ((impl_Through.f k t593 t594 t595 t598 t602 t599 t605).bind fun t611 => (if t607 < 0 then (laws_FnSplit.j0 k t599 t602 t605 t607 t608 true t593 t594 t595 t598) else (if t607 > t611 then (laws_FnSplit.j0 k t599 t602 t605 t607 t608 true t593 t594 t595 t598) else (if 0 < (t602.length : Int) then (if 0 ≤ (wrap64 ((t602.length : Int) - 1)) then (if (wrap64 ((t602.length : Int) - 1)) < (t602.length : Int) then ((impl_Fare.f k t593 t594 t595 t598 (rd t602 0) (rd t602 (wrap64 ((t602.length : Int) - 1)))).bind fun t614 => ((impl_Carded.f k t593 t594 t595 t598 t614 t599 t605).bind fun t615 => (laws_FnSplit.j0 k t599 t602 t605 t607 t608 (t611 != t615) t593 t594 t595 t598))) else (none)) else (none)) else (none))))) = some r := H
   have A5 := Aside0.mk A50
   clear A50
   replace H := Option.bind_eq_some_iff.mp H
   obtain ⟨t611, A60, H⟩ := H
   replace H : (if t607 < 0 then (laws_FnSplit.j0 k t599 t602 t605 t607 t608 true t593 t594 t595 t598) else (if t607 > t611 then (laws_FnSplit.j0 k t599 t602 t605 t607 t608 true t593 t594 t595 t598) else (if 0 < (t602.length : Int) then (if 0 ≤ (wrap64 ((t602.length : Int) - 1)) then (if (wrap64 ((t602.length : Int) - 1)) < (t602.length : Int) then ((impl_Fare.f k t593 t594 t595 t598 (rd t602 0) (rd t602 (wrap64 ((t602.length : Int) - 1)))).bind fun t614 => ((impl_Carded.f k t593 t594 t595 t598 t614 t599 t605).bind fun t615 => (laws_FnSplit.j0 k t599 t602 t605 t607 t608 (t611 != t615) t593 t594 t595 t598))) else (none)) else (none)) else (none)))) = some r := H
   have A6 := Aside0.mk A60
   clear A60
   have HC7 := Aside0.mk H
   clear H
   go_enter Try.func10, Try.ntmps10
   go_upto_region 6 with (first | ((with_reducible refine gate_callee (f := 26) rfl ?_); refine goesL_ (some 19) rfl rfl Try.func26 (by kernel_rfl) rfl #[.slice A0 l0.length c0] rfl (by (try simp only [List.map_toArray, List.map_cons, List.map_nil]); first | done | rfl | (simp only [List.length_drop, List.length_take]; rfl)) ?_; (with_reducible refine (laws_big.calls _ _ l0 false _ ?side1 ?side2 A2.out).mono ?_); (case side1 => repeat (first | exact HR0.out | (with_reducible refine Kd.C_alloc ?_ _) | (with_reducible refine Kd.C_drewN ?_ _) | (with_reducible refine Kd.C_drew ?_))); (case side2 => exact HC0.out); rintro e w' ⟨rfl, ⟨nd, rfl⟩⟩; refine ⟨_, rfl, ?_⟩) | ((with_reducible refine gate_callee (f := 27) rfl ?_); refine goesL_ (some 22) rfl rfl Try.func27 (by kernel_rfl) rfl #[.slice A0 l0.length c0] rfl (by (try simp only [List.map_toArray, List.map_cons, List.map_nil]); first | done | rfl | (simp only [List.length_drop, List.length_take]; rfl)) ?_; (with_reducible refine (spec_DrawRightTariff.calls k _ _ l0 t593 t594 t595 t598 t599 t602 t605 _ ?side1 ?side2 A4.out).mono ?_); (case side1 => repeat (first | exact HR0.out | (with_reducible refine Kd.C_alloc ?_ _) | (with_reducible refine Kd.C_drewN ?_ _) | (with_reducible refine Kd.C_drew ?_))); (case side2 => exact HC0.out); rintro e w8 ⟨v596, v600, v603, rfl, ho0, ho1, ho2, hb⟩; refine ⟨_, rfl, ?_⟩; have n0_ := Aside0.mk (Kd.R_lower ho0 (below_size (nH HB.out))); have n1_ := Aside0.mk (Kd.R_lower ho1 (below_size (nH HB.out))); have n2_ := Aside0.mk (Kd.R_lower ho2 (below_size (nH HB.out))); have n3_ := Aside0.mk (below_step (nH HB.out) hb); clear HB; have HO597 := n0_; have HO601 := n1_; have HO604 := n2_; have HB := n3_; clear n0_ n1_ n2_ n3_; (try clear hb); (try clear hb2); (try clear hk); (try clear hi); (try clear ho0); (try clear ho1); (try clear ho2)) | ((with_reducible refine gate_dst (N := 3) rfl ?_); (try (refine gate_guard (by rfl) ?_; dsimp only)); refine box_event ?hg (N := 3) ?hd (cs := #[.int .i64 0, .int .i64 0, .slice none 0 0, .int .i64 0]) (t := 34) ?hr ?_; (case hd => rfl); (case hg => rfl); (case hr => first | (go_simp; done) | (go_simp; rfl)); intro gb606 hg w9 hbox hb; have n0_ := Aside0.mk (Kd.R_below (nR HO597.out) hb); have n1_ := Aside0.mk (Kd.R_below (nR HO601.out) hb); have n2_ := Aside0.mk (Kd.R_below (nR HO604.out) hb); have n3_ := Aside0.mk (below_step (nH HB.out) hb); have n4_ := Aside0.mk (hbox); have n5_ := Aside0.mk ((by rw [hg]; exact (below_size (nH HB.out)) : w.heap.size ≤ gb606)); have n6_ := Aside0.mk ((by rw [hg]; exact (below_size (nH HB.out)) : w.heap.size ≤ gb606)); clear HO597; clear HO601; clear HO604; clear HB; have HO597 := n0_; have HO601 := n1_; have HO604 := n2_; have HB := n3_; have BK606 := n4_; have GW606 := n5_; have GE606 := n6_; clear n0_ n1_ n2_ n3_ n4_ n5_ n6_; clear hb hbox hg; have hcz10_0 : w9.cell? ⟨gb606, 0, none⟩ = some (.int .i64 0) := (blk_cell BK606.out 0).trans rfl; have hcz10_1 : w9.cell? ⟨gb606, 1, none⟩ = some (.int .i64 0) := (blk_cell BK606.out 1).trans rfl; have hcz10_2 : w9.cell? ⟨gb606, 2, none⟩ = some (.slice none 0 0) := (blk_cell BK606.out 2).trans rfl; have hcz10_3 : w9.cell? ⟨gb606, 3, none⟩ = some (.int .i64 0) := (blk_cell BK606.out 3).trans rfl; have hfz10_0 := blk_frozen BK606.out 0; have hfz10_1 := blk_frozen BK606.out 1; have hfz10_2 := blk_frozen BK606.out 2; have hfz10_3 := blk_frozen BK606.out 3; obtain ⟨Ao11, co11, eo11⟩ := Kd.R_slice HO597.out; subst eo11; obtain ⟨Ao12, co12, eo12⟩ := Kd.R_slice HO604.out; subst eo12; obtain ⟨Ao13, co13, eo13⟩ := Kd.R_slice HO601.out; subst eo13) | ((with_reducible refine gate_callee (f := 35) rfl ?_); refine goesL_ (some 32) rfl rfl Try.func35 (by kernel_rfl) rfl #[.agg #[.int .i64 t593, .int .i64 t594, .slice Ao11 t595.length co11, .int .i64 t598], .slice Ao12 t602.length co12, .slice Ao13 t599.length co13, .int .i64 t605] rfl (by (try simp only [List.map_toArray, List.map_cons, List.map_nil]); first | done | rfl | (simp only [List.length_drop, List.length_take]; rfl)) ?_; (with_reducible refine (impl_Split.calls k t593 t594 _ _ t595 t598 _ _ t602 _ _ t599 t605 t607 t608 _ ?side1 ?side2 ?side3 ?side4 ?side5 ?side6 A5.out).mono ?_); (case side1 => refine (Kd.R_reads' (e := 3) (base := w.heap.size) (ok := fun k_ => some k_ ≠ (.slice Ao12 t602.length co12 : Value).ownBlock) (n := t595.length) (c := co11) ?_).2.2; exact (by (with_reducible repeat (first | apply Kd.R_alloc | apply Kd.R_drewN | apply Kd.R_drew)); exact (Kd.R_mono (Kd.R_far (p := ⟨gb606, 3, none⟩) (Kd.R_far (p := ⟨gb606, 2, none⟩) (Kd.R_far (p := ⟨gb606, 1, none⟩) (Kd.R_far (p := ⟨gb606, 0, none⟩) (Kd.R_types HO597.out BK606.out (by decide)) (fun _ hk => hk.2) (.int .i64 t593)) (fun _ hk => hk.2) (.int .i64 t594)) (fun _ hk => hk.2) (.slice Ao11 t595.length co11)) (fun _ hk => hk.2) (.int .i64 t598)) (fun _ h_ => h_.1)))); (case side2 => exact (Kd.R_reads' HO597.out).2.1); (case side3 => refine (Kd.R_reads' (e := 3) (base := w.heap.size) (ok := fun k_ => some k_ ≠ (.slice Ao11 t595.length co11 : Value).ownBlock) (n := t602.length) (c := co12) ?_).2.2; exact (by (with_reducible repeat (first | apply Kd.R_alloc | apply Kd.R_drewN | apply Kd.R_drew)); exact (Kd.R_mono (Kd.R_far (p := ⟨gb606, 3, none⟩) (Kd.R_far (p := ⟨gb606, 2, none⟩) (Kd.R_far (p := ⟨gb606, 1, none⟩) (Kd.R_far (p := ⟨gb606, 0, none⟩) (Kd.R_types HO604.out BK606.out (by decide)) (fun _ hk => hk.2) (.int .i64 t593)) (fun _ hk => hk.2) (.int .i64 t594)) (fun _ hk => hk.2) (.slice Ao11 t595.length co11)) (fun _ hk => hk.2) (.int .i64 t598)) (fun _ h_ => h_.1)))); (case side4 => exact (Kd.R_reads' HO604.out).2.1); (case side5 => refine (Kd.R_reads' (e := 57) (base := w.heap.size) (ok := fun k_ => True) (n := t599.length) (c := co13) ?_).2.2; exact (by (with_reducible repeat (first | apply Kd.R_alloc | apply Kd.R_drewN | apply Kd.R_drew)); exact (Kd.R_mono (Kd.R_far (p := ⟨gb606, 3, none⟩) (Kd.R_far (p := ⟨gb606, 2, none⟩) (Kd.R_far (p := ⟨gb606, 1, none⟩) (Kd.R_far (p := ⟨gb606, 0, none⟩) (Kd.R_types HO601.out BK606.out (by decide)) (fun _ hk => hk.2) (.int .i64 t593)) (fun _ hk => hk.2) (.int .i64 t594)) (fun _ hk => hk.2) (.slice Ao11 t595.length co11)) (fun _ hk => hk.2) (.int .i64 t598)) (fun _ h_ => h_.1)))); (case side6 => exact (Kd.R_reads' HO601.out).2.1); rintro e w14 ⟨v609, rfl, ho0, hb⟩; refine ⟨_, rfl, ?_⟩; have n0_ := Aside0.mk (Kd.R_elder' (by (with_reducible repeat (first | apply Kd.R_alloc | apply Kd.R_drewN | apply Kd.R_drew)); exact (Kd.R_mono (Kd.R_far (p := ⟨gb606, 3, none⟩) (Kd.R_far (p := ⟨gb606, 2, none⟩) (Kd.R_far (p := ⟨gb606, 1, none⟩) (Kd.R_far (p := ⟨gb606, 0, none⟩) (Kd.R_types HO597.out BK606.out (by decide)) (fun _ hk => hk.2) (.int .i64 t593)) (fun _ hk => hk.2) (.int .i64 t594)) (fun _ hk => hk.2) (.slice Ao11 t595.length co11)) (fun _ hk => hk.2) (.int .i64 t598)) (fun _ h_ => h_.1))) (Kd.R_base ho0) hb); have n1_ := Aside0.mk (Kd.R_below (by (with_reducible repeat (first | apply Kd.R_alloc | apply Kd.R_drewN | apply Kd.R_drew)); exact (Kd.R_mono (Kd.R_far (p := ⟨gb606, 3, none⟩) (Kd.R_far (p := ⟨gb606, 2, none⟩) (Kd.R_far (p := ⟨gb606, 1, none⟩) (Kd.R_far (p := ⟨gb606, 0, none⟩) (Kd.R_types HO601.out BK606.out (by decide)) (fun _ hk => hk.2) (.int .i64 t593)) (fun _ hk => hk.2) (.int .i64 t594)) (fun _ hk => hk.2) (.slice Ao11 t595.length co11)) (fun _ hk => hk.2) (.int .i64 t598)) (fun _ h_ => h_.1))) hb); have n2_ := Aside0.mk (Kd.R_elder' (by (with_reducible repeat (first | apply Kd.R_alloc | apply Kd.R_drewN | apply Kd.R_drew)); exact (Kd.R_mono (Kd.R_far (p := ⟨gb606, 3, none⟩) (Kd.R_far (p := ⟨gb606, 2, none⟩) (Kd.R_far (p := ⟨gb606, 1, none⟩) (Kd.R_far (p := ⟨gb606, 0, none⟩) (Kd.R_types HO604.out BK606.out (by decide)) (fun _ hk => hk.2) (.int .i64 t593)) (fun _ hk => hk.2) (.int .i64 t594)) (fun _ hk => hk.2) (.slice Ao11 t595.length co11)) (fun _ hk => hk.2) (.int .i64 t598)) (fun _ h_ => h_.1))) (Kd.R_base ho0) hb); have n3_ := Aside0.mk (Kd.R_lower (Kd.R_new' (Kd.R_new' ho0 (Kd.R_lt (by (with_reducible repeat (first | apply Kd.R_alloc | apply Kd.R_drewN | apply Kd.R_drew)); exact (Kd.R_mono (Kd.R_far (p := ⟨gb606, 3, none⟩) (Kd.R_far (p := ⟨gb606, 2, none⟩) (Kd.R_far (p := ⟨gb606, 1, none⟩) (Kd.R_far (p := ⟨gb606, 0, none⟩) (Kd.R_types HO597.out BK606.out (by decide)) (fun _ hk => hk.2) (.int .i64 t593)) (fun _ hk => hk.2) (.int .i64 t594)) (fun _ hk => hk.2) (.slice Ao11 t595.length co11)) (fun _ hk => hk.2) (.int .i64 t598)) (fun _ h_ => h_.1))))) (Kd.R_lt (by (with_reducible repeat (first | apply Kd.R_alloc | apply Kd.R_drewN | apply Kd.R_drew)); exact (Kd.R_mono (Kd.R_far (p := ⟨gb606, 3, none⟩) (Kd.R_far (p := ⟨gb606, 2, none⟩) (Kd.R_far (p := ⟨gb606, 1, none⟩) (Kd.R_far (p := ⟨gb606, 0, none⟩) (Kd.R_types HO604.out BK606.out (by decide)) (fun _ hk => hk.2) (.int .i64 t593)) (fun _ hk => hk.2) (.int .i64 t594)) (fun _ hk => hk.2) (.slice Ao11 t595.length co11)) (fun _ hk => hk.2) (.int .i64 t598)) (fun _ h_ => h_.1))))) (below_size (nH1 HB.out GE606.out))); have n4_ := Aside0.mk (blk_below (g := gb606) (o := .cells #[.int .i64 t593, .int .i64 t594, .slice Ao11 t595.length co11, .int .i64 t598] 34 (0, 0)) (by (with_reducible repeat (first | refine blk_drewN ?_ _ | refine blk_drew ?_ | refine blk_alloc ?_ _)); refine blk_put (cs := #[.int .i64 t593, .int .i64 t594, .slice Ao11 t595.length co11, .int .i64 0]) ?_ 3 _ rfl; (with_reducible repeat (first | refine blk_drewN ?_ _ | refine blk_drew ?_ | refine blk_alloc ?_ _)); refine blk_put (cs := #[.int .i64 t593, .int .i64 t594, .slice none 0 0, .int .i64 0]) ?_ 2 _ rfl; (with_reducible repeat (first | refine blk_drewN ?_ _ | refine blk_drew ?_ | refine blk_alloc ?_ _)); refine blk_put (cs := #[.int .i64 t593, .int .i64 0, .slice none 0 0, .int .i64 0]) ?_ 1 _ rfl; (with_reducible repeat (first | refine blk_drewN ?_ _ | refine blk_drew ?_ | refine blk_alloc ?_ _)); refine blk_put (cs := #[.int .i64 0, .int .i64 0, .slice none 0 0, .int .i64 0]) ?_ 0 _ rfl; (with_reducible repeat (first | refine blk_drewN ?_ _ | refine blk_drew ?_ | refine blk_alloc ?_ _)); exact BK606.out) hb); have n5_ := Aside0.mk (below_step (nH1 HB.out GE606.out) hb); clear HO597; clear HO601; clear HO604; clear BK606; clear HB; have HO597 := n0_; have HO601 := n1_; have HO604 := n2_; have HO610 := n3_; have BK606 := n4_; have HB := n5_; clear n0_ n1_ n2_ n3_ n4_ n5_; (try clear hb); (try clear hb2); (try clear hk); (try clear hi); (try clear ho0); have hcz15_0 : w14.cell? ⟨gb606, 0, none⟩ = some (.int .i64 t593) := (blk_cell BK606.out 0).trans rfl; have hcz15_1 : w14.cell? ⟨gb606, 1, none⟩ = some (.int .i64 t594) := (blk_cell BK606.out 1).trans rfl; have hcz15_2 : w14.cell? ⟨gb606, 2, none⟩ = some (.slice Ao11 t595.length co11) := (blk_cell BK606.out 2).trans rfl; have hcz15_3 : w14.cell? ⟨gb606, 3, none⟩ = some (.int .i64 t598) := (blk_cell BK606.out 3).trans rfl; have hfz15_0 := blk_frozen BK606.out 0; have hfz15_1 := blk_frozen BK606.out 1; have hfz15_2 := blk_frozen BK606.out 2; have hfz15_3 := blk_frozen BK606.out 3) | ((with_reducible refine gate_callee (f := 33) rfl ?_); refine goesL_ (some 39) rfl rfl Try.func33 (by kernel_rfl) rfl #[.agg #[.int .i64 t593, .int .i64 t594, .slice Ao11 t595.length co11, .int .i64 t598], .slice Ao12 t602.length co12, .slice Ao13 t599.length co13, .int .i64 t605] rfl (by (try simp only [List.map_toArray, List.map_cons, List.map_nil]); first | done | rfl | (simp only [List.length_drop, List.length_take]; rfl)) ?_; (with_reducible refine (impl_Through.calls k t593 t594 _ _ t595 t598 _ _ t602 _ _ t599 t605 t611 _ ?side1 ?side2 ?side3 ?side4 ?side5 ?side6 A6.out).mono ?_); (case side1 => repeat (first | exact (Kd.R_reads' HO597.out).2.2 | (with_reducible refine Kd.C_alloc ?_ _) | (with_reducible refine Kd.C_drewN ?_ _) | (with_reducible refine Kd.C_drew ?_))); (case side2 => exact (Kd.R_reads' HO597.out).2.1); (case side3 => repeat (first | exact (Kd.R_reads' HO604.out).2.2 | (with_reducible refine Kd.C_alloc ?_ _) | (with_reducible refine Kd.C_drewN ?_ _) | (with_reducible refine Kd.C_drew ?_))); (case side4 => exact (Kd.R_reads' HO604.out).2.1); (case side5 => repeat (first | exact (Kd.R_reads' HO601.out).2.2 | (with_reducible refine Kd.C_alloc ?_ _) | (with_reducible refine Kd.C_drewN ?_ _) | (with_reducible refine Kd.C_drew ?_))); (case side6 => exact (Kd.R_reads' HO601.out).2.1); rintro e w16 ⟨rfl, hb⟩; refine ⟨_, rfl, ?_⟩; have n0_ := Aside0.mk (Kd.R_below (nR HO597.out) hb); have n1_ := Aside0.mk (Kd.R_below (nR HO601.out) hb); have n2_ := Aside0.mk (Kd.R_below (nR HO604.out) hb); have n3_ := Aside0.mk (Kd.R_below (nR HO610.out) hb); have n4_ := Aside0.mk (blk_below (g := gb606) (o := .cells #[.int .i64 t593, .int .i64 t594, .slice Ao11 t595.length co11, .int .i64 t598] 34 (0, 0)) (nB BK606.out) hb); have n5_ := Aside0.mk (below_step (nH1 HB.out GE606.out) hb); clear HO597; clear HO601; clear HO604; clear HO610; clear BK606; clear HB; have HO597 := n0_; have HO601 := n1_; have HO604 := n2_; have HO610 := n3_; have BK606 := n4_; have HB := n5_; clear n0_ n1_ n2_ n3_ n4_ n5_; (try clear hb); (try clear hb2); (try clear hk); (try clear hi)))
   (try simp only [Act.put, List.setIfInBounds_toArray, List.set_cons_zero, List.set_cons_succ])
   go_cut [65] (fun v65 wc => ∃ (kq : Nat) (x65_6 : Bool), v65 = .bool x65_6 ∧ Aside0 (laws_FnSplit.j0 kq t599 t602 t605 t607 t608 x65_6 t593 t594 t595 t598 = some r) ∧ Aside0 (kq ≤ k) ∧ Aside0 (Kd.R k57 57 wc w.heap.size (fun _ => True) (.slice Ao13 t599.length co13) t599) ∧ Aside0 (Kd.R (Kd.int .i64) 3 wc w.heap.size (fun k_ => some k_ ≠ (v609 : Value).ownBlock ∧ some k_ ≠ ((.slice Ao11 t595.length co11) : Value).ownBlock) (.slice Ao12 t602.length co12) t602) ∧ Aside0 (Kd.R (Kd.int .i64) 3 wc w.heap.size (fun k_ => some k_ ≠ ((.slice Ao12 t602.length co12) : Value).ownBlock ∧ some k_ ≠ ((.slice Ao11 t595.length co11) : Value).ownBlock) v609 t608) ∧ Aside0 (Kd.R (Kd.int .i64) 3 wc w.heap.size (fun k_ => some k_ ≠ ((.slice Ao12 t602.length co12) : Value).ownBlock ∧ some k_ ≠ (v609 : Value).ownBlock) (.slice Ao11 t595.length co11) t595) ∧ Aside0 (wc.heap[gb606]? = some (.cells #[.int .i64 t593, .int .i64 t594, (.slice Ao11 t595.length co11), .int .i64 t598] 34 (0, 0))) ∧ Aside0 (Below w.heap.size w wc))
   case first =>
    have H := HC7.out; clear HC7
    by_cases c17 : t607 < 0
    · rw [if_pos c17] at H
      have c17b0 : decide (t607 < 0) = true := decide_eq_true c17
      clear c17
      (first | rw [c17b0] | (simp only [i64_w, i32_w]; rw [c17b0]) | skip)
      have H' := Aside0.mk H
      clear H
      try go_wp2
      have n0_ := Aside0.mk (Kd.R_drew HO597.out)
      have n1_ := Aside0.mk (Kd.R_drew HO601.out)
      have n2_ := Aside0.mk (Kd.R_drew HO604.out)
      have n3_ := Aside0.mk (Kd.R_drew HO610.out)
      have n4_ := Aside0.mk (blk_drew BK606.out)
      have n5_ := Aside0.mk (below_drew1 HB.out)
      clear HO597; clear HO601; clear HO604; clear HO610; clear BK606; clear HB; have HO597 := n0_; have HO601 := n1_; have HO604 := n2_; have HO610 := n3_; have BK606 := n4_; have HB := n5_; clear n0_ n1_ n2_ n3_ n4_ n5_
      refine start_ (n := 26) (S := fun w' => True) (ds := []) #[F,F,F,F,F,F,F,F,F,F,F,F,F,F,F,F,F,F,F,F,F,F,F,F,F,F] (by kernel_rfl) rfl rfl trivial (fun hHeld => ?_); refine with_tabW laws_FnSplit.tab6 laws_FnSplit.bits6 (fun HT_ HW_ => ?_)
      generalize w16.drew = w18 at HO597 HO601 HO604 HO610 BK606 HB hHeld ⊢
      refine pU 0 (some 40) #[T,F,F,F,F,F,F,F,F,F,F,F,F,F,F,F,F,F,F,F,F,F,F,F,F,F] rfl rfl HT_.out ?_
      refine pU 1 (some 41) #[T,T,F,F,F,F,F,F,F,F,F,F,F,F,F,F,F,F,F,F,F,F,F,F,F,F] rfl rfl HT_.out ?_
      refine pU 2 (some 42) #[T,T,T,F,F,F,F,F,F,F,F,F,F,F,F,F,F,F,F,F,F,F,F,F,F,F] rfl rfl HT_.out ?_
      refine pV 3 (some 43) #[T,T,T,T,F,F,F,F,F,F,F,F,F,F,F,F,F,F,F,F,F,F,F,F,F,F] rfl rfl HT_.out ?_
      refine pV 4 (some 44) #[T,T,T,T,T,F,F,F,F,F,F,F,F,F,F,F,F,F,F,F,F,F,F,F,F,F] rfl rfl HT_.out ?_
      refine pV 5 (some 45) #[T,T,T,T,T,T,F,F,F,F,F,F,F,F,F,F,F,F,F,F,F,F,F,F,F,F] rfl rfl HT_.out ?_
      refine pU 6 (some 46) #[T,T,T,T,T,T,T,F,F,F,F,F,F,F,F,F,F,F,F,F,F,F,F,F,F,F] rfl rfl HT_.out ?_
      refine pU 7 (some 47) #[T,T,T,T,T,T,T,T,F,F,F,F,F,F,F,F,F,F,F,F,F,F,F,F,F,F] rfl rfl HT_.out ?_
      refine pV 8 (some 48) #[T,T,T,T,T,T,T,T,T,F,F,F,F,F,F,F,F,F,F,F,F,F,F,F,F,F] rfl rfl HT_.out ?_
      refine pV 9 (some 49) #[T,T,T,T,T,T,T,T,T,T,F,F,F,F,F,F,F,F,F,F,F,F,F,F,F,F] rfl rfl HT_.out ?_
      refine pV 10 (some 50) #[T,T,T,T,T,T,T,T,T,T,T,F,F,F,F,F,F,F,F,F,F,F,F,F,F,F] rfl rfl HT_.out ?_
      refine pV 11 (some 51) #[T,T,T,T,T,T,T,T,T,T,T,T,F,F,F,F,F,F,F,F,F,F,F,F,F,F] rfl rfl HT_.out ?_
      refine pV 12 (some 52) #[T,T,T,T,T,T,T,T,T,T,T,T,T,F,F,F,F,F,F,F,F,F,F,F,F,F] rfl rfl HT_.out ?_
      refine pV 13 (some 53) #[T,T,T,T,T,T,T,T,T,T,T,T,T,T,F,F,F,F,F,F,F,F,F,F,F,F] rfl rfl HT_.out ?_
      refine pV 14 (some 54) #[T,T,T,T,T,T,T,T,T,T,T,T,T,T,T,F,F,F,F,F,F,F,F,F,F,F] rfl rfl HT_.out ?_
      refine pV 15 (some 55) #[T,T,T,T,T,T,T,T,T,T,T,T,T,T,T,T,F,F,F,F,F,F,F,F,F,F] rfl rfl HT_.out ?_
      refine pV 16 (some 56) #[T,T,T,T,T,T,T,T,T,T,T,T,T,T,T,T,T,F,F,F,F,F,F,F,F,F] rfl rfl HT_.out ?_
      refine pV 17 (some 57) #[T,T,T,T,T,T,T,T,T,T,T,T,T,T,T,T,T,T,F,F,F,F,F,F,F,F] rfl rfl HT_.out ?_
      refine pV 18 (some 58) #[T,T,T,T,T,T,T,T,T,T,T,T,T,T,T,T,T,T,T,F,F,F,F,F,F,F] rfl rfl HT_.out ?_
      refine pV 19 (some 59) #[T,T,T,T,T,T,T,T,T,T,T,T,T,T,T,T,T,T,T,T,F,F,F,F,F,F] rfl rfl HT_.out ?_
      refine pV 20 (some 60) #[T,T,T,T,T,T,T,T,T,T,T,T,T,T,T,T,T,T,T,T,T,F,F,F,F,F] rfl rfl HT_.out ?_
      refine pV 21 (some 61) #[T,T,T,T,T,T,T,T,T,T,T,T,T,T,T,T,T,T,T,T,T,T,F,F,F,F] rfl rfl HT_.out ?_
      refine pV 22 (some 62) #[T,T,T,T,T,T,T,T,T,T,T,T,T,T,T,T,T,T,T,T,T,T,T,F,F,F] rfl rfl HT_.out ?_
      refine pV 23 (some 63) #[T,T,T,T,T,T,T,T,T,T,T,T,T,T,T,T,T,T,T,T,T,T,T,T,F,F] rfl rfl HT_.out ?_
      refine pV 24 (some 64) #[T,T,T,T,T,T,T,T,T,T,T,T,T,T,T,T,T,T,T,T,T,T,T,T,T,F] rfl rfl HT_.out ?_
      refine pU 25 (some 65) #[T,T,T,T,T,T,T,T,T,T,T,T,T,T,T,T,T,T,T,T,T,T,T,T,T,T] rfl rfl HT_.out ?_
      refine done_ (done_of HT_.out (by kernel_rfl)) ?_
      try go_wp2
      go_meet
      case rel => exact ⟨_, (true), nS, H', ⟨by first | omega | exact Nat.le_refl _⟩, ⟨by (with_reducible repeat (first | apply Kd.R_alloc | apply Kd.R_drewN | apply Kd.R_drew)); exact HO601.out⟩, ⟨by (with_reducible repeat (first | apply Kd.R_alloc | apply Kd.R_drewN | apply Kd.R_drew)); exact Kd.R_mono HO604.out (fun _ hk => ⟨hk.2, hk.1⟩)⟩, ⟨by (with_reducible repeat (first | apply Kd.R_alloc | apply Kd.R_drewN | apply Kd.R_drew)); exact Kd.R_mono HO610.out (fun _ hk => ⟨hk.2, hk.1.2⟩)⟩, ⟨by (with_reducible repeat (first | apply Kd.R_alloc | apply Kd.R_drewN | apply Kd.R_drew)); exact HO597.out⟩, ⟨by (with_reducible repeat (first | refine blk_drewN ?_ _ | refine blk_drew ?_ | refine blk_alloc ?_ _)); exact BK606.out⟩, ⟨nH1 HB.out GE606.out⟩⟩
    · rw [if_neg c17] at H
      have c17b0 : decide (t607 < 0) = false := decide_eq_false c17
      clear c17
      (first | rw [c17b0] | (simp only [i64_w, i32_w]; rw [c17b0]) | skip)
      by_cases c19 : t607 > t611
      · rw [if_pos c19] at H
        have c19b0 : decide (t611 < t607) = true := decide_eq_true c19
        clear c19
        have H' := Aside0.mk H
        clear H
        try go_wp2
        have n0_ := Aside0.mk (Kd.R_drew HO597.out)
        have n1_ := Aside0.mk (Kd.R_drew HO601.out)
        have n2_ := Aside0.mk (Kd.R_drew HO604.out)
        have n3_ := Aside0.mk (Kd.R_drew HO610.out)
        have n4_ := Aside0.mk (blk_drew BK606.out)
        have n5_ := Aside0.mk (below_drew1 HB.out)
        clear HO597; clear HO601; clear HO604; clear HO610; clear BK606; clear HB; have HO597 := n0_; have HO601 := n1_; have HO604 := n2_; have HO610 := n3_; have BK606 := n4_; have HB := n5_; clear n0_ n1_ n2_ n3_ n4_ n5_
        refine start_ (n := 26) (S := fun w' => True) (ds := []) #[F,F,F,F,F,F,F,F,F,F,F,F,F,F,F,F,F,F,F,F,F,F,F,F,F,F] (by kernel_rfl) rfl rfl trivial (fun hHeld => ?_); refine with_tabW laws_FnSplit.tab6 laws_FnSplit.bits6 (fun HT_ HW_ => ?_)
        generalize w16.drew = w20 at HO597 HO601 HO604 HO610 BK606 HB hHeld ⊢
        refine pU 0 (some 40) #[T,F,F,F,F,F,F,F,F,F,F,F,F,F,F,F,F,F,F,F,F,F,F,F,F,F] rfl rfl HT_.out ?_
        refine pU 1 (some 41) #[T,T,F,F,F,F,F,F,F,F,F,F,F,F,F,F,F,F,F,F,F,F,F,F,F,F] rfl rfl HT_.out ?_
        refine pU 2 (some 42) #[T,T,T,F,F,F,F,F,F,F,F,F,F,F,F,F,F,F,F,F,F,F,F,F,F,F] rfl rfl HT_.out ?_
        refine pU 3 (some 43) #[T,T,T,T,F,F,F,F,F,F,F,F,F,F,F,F,F,F,F,F,F,F,F,F,F,F] rfl rfl HT_.out ?_
        refine pU 4 (some 44) #[T,T,T,T,T,F,F,F,F,F,F,F,F,F,F,F,F,F,F,F,F,F,F,F,F,F] rfl rfl HT_.out ?_
        refine pU 5 (some 45) #[T,T,T,T,T,T,F,F,F,F,F,F,F,F,F,F,F,F,F,F,F,F,F,F,F,F] rfl rfl HT_.out ?_
        refine pU 6 (some 46) #[T,T,T,T,T,T,T,F,F,F,F,F,F,F,F,F,F,F,F,F,F,F,F,F,F,F] rfl rfl HT_.out ?_
        refine pU 7 (some 47) #[T,T,T,T,T,T,T,T,F,F,F,F,F,F,F,F,F,F,F,F,F,F,F,F,F,F] rfl rfl HT_.out ?_
        refine pV 8 (some 48) #[T,T,T,T,T,T,T,T,T,F,F,F,F,F,F,F,F,F,F,F,F,F,F,F,F,F] rfl rfl HT_.out ?_
        refine pV 9 (some 49) #[T,T,T,T,T,T,T,T,T,T,F,F,F,F,F,F,F,F,F,F,F,F,F,F,F,F] rfl rfl HT_.out ?_
        refine pV 10 (some 50) #[T,T,T,T,T,T,T,T,T,T,T,F,F,F,F,F,F,F,F,F,F,F,F,F,F,F] rfl rfl HT_.out ?_
        refine pV 11 (some 51) #[T,T,T,T,T,T,T,T,T,T,T,T,F,F,F,F,F,F,F,F,F,F,F,F,F,F] rfl rfl HT_.out ?_
        refine pV 12 (some 52) #[T,T,T,T,T,T,T,T,T,T,T,T,T,F,F,F,F,F,F,F,F,F,F,F,F,F] rfl rfl HT_.out ?_
        refine pV 13 (some 53) #[T,T,T,T,T,T,T,T,T,T,T,T,T,T,F,F,F,F,F,F,F,F,F,F,F,F] rfl rfl HT_.out ?_
        refine pV 14 (some 54) #[T,T,T,T,T,T,T,T,T,T,T,T,T,T,T,F,F,F,F,F,F,F,F,F,F,F] rfl rfl HT_.out ?_
        refine pV 15 (some 55) #[T,T,T,T,T,T,T,T,T,T,T,T,T,T,T,T,F,F,F,F,F,F,F,F,F,F] rfl rfl HT_.out ?_
        refine pV 16 (some 56) #[T,T,T,T,T,T,T,T,T,T,T,T,T,T,T,T,T,F,F,F,F,F,F,F,F,F] rfl rfl HT_.out ?_
        refine pV 17 (some 57) #[T,T,T,T,T,T,T,T,T,T,T,T,T,T,T,T,T,T,F,F,F,F,F,F,F,F] rfl rfl HT_.out ?_
        refine pV 18 (some 58) #[T,T,T,T,T,T,T,T,T,T,T,T,T,T,T,T,T,T,T,F,F,F,F,F,F,F] rfl rfl HT_.out ?_
        refine pV 19 (some 59) #[T,T,T,T,T,T,T,T,T,T,T,T,T,T,T,T,T,T,T,T,F,F,F,F,F,F] rfl rfl HT_.out ?_
        refine pV 20 (some 60) #[T,T,T,T,T,T,T,T,T,T,T,T,T,T,T,T,T,T,T,T,T,F,F,F,F,F] rfl rfl HT_.out ?_
        refine pV 21 (some 61) #[T,T,T,T,T,T,T,T,T,T,T,T,T,T,T,T,T,T,T,T,T,T,F,F,F,F] rfl rfl HT_.out ?_
        refine pV 22 (some 62) #[T,T,T,T,T,T,T,T,T,T,T,T,T,T,T,T,T,T,T,T,T,T,T,F,F,F] rfl rfl HT_.out ?_
        refine pV 23 (some 63) #[T,T,T,T,T,T,T,T,T,T,T,T,T,T,T,T,T,T,T,T,T,T,T,T,F,F] rfl rfl HT_.out ?_
        refine pV 24 (some 64) #[T,T,T,T,T,T,T,T,T,T,T,T,T,T,T,T,T,T,T,T,T,T,T,T,T,F] rfl rfl HT_.out ?_
        refine pU 25 (some 65) #[T,T,T,T,T,T,T,T,T,T,T,T,T,T,T,T,T,T,T,T,T,T,T,T,T,T] rfl rfl HT_.out ?_
        refine done_ (done_of HT_.out (by kernel_rfl)) ?_
        try go_wp2
        go_meet
        case rel => exact ⟨_, (true), nS, H', ⟨by first | omega | exact Nat.le_refl _⟩, ⟨by (with_reducible repeat (first | apply Kd.R_alloc | apply Kd.R_drewN | apply Kd.R_drew)); exact HO601.out⟩, ⟨by (with_reducible repeat (first | apply Kd.R_alloc | apply Kd.R_drewN | apply Kd.R_drew)); exact Kd.R_mono HO604.out (fun _ hk => ⟨hk.2, hk.1⟩)⟩, ⟨by (with_reducible repeat (first | apply Kd.R_alloc | apply Kd.R_drewN | apply Kd.R_drew)); exact Kd.R_mono HO610.out (fun _ hk => ⟨hk.2, hk.1.2⟩)⟩, ⟨by (with_reducible repeat (first | apply Kd.R_alloc | apply Kd.R_drewN | apply Kd.R_drew)); exact HO597.out⟩, ⟨by (with_reducible repeat (first | refine blk_drewN ?_ _ | refine blk_drew ?_ | refine blk_alloc ?_ _)); exact BK606.out⟩, ⟨nH1 HB.out GE606.out⟩⟩
      · rw [if_neg c19] at H
        have c19b0 : decide (t611 < t607) = false := decide_eq_false c19
        clear c19
        by_cases c21 : 0 < (t602.length : Int)
        rotate_left
        · (rw [if_neg c21] at H; exact absurd H (by simp))
        rw [if_pos c21] at H
        have c21b0 : decide (0 < (t602.length : Int)) = true := decide_eq_true c21
        have c21b1 : decide (0 < t602.length) = true := decide_eq_true (by omega)
        clear c21
        obtain ⟨ji22, hji22⟩ : ∃ j_ : Int, (wrap64 ((t602.length : Int) - 1)) = j_ := ⟨_, rfl⟩
        replace H : (if 0 ≤ (ji22) then (if (ji22) < (t602.length : Int) then ((impl_Fare.f k t593 t594 t595 t598 (rd t602 0) (rd t602 (ji22))).bind fun t614 => ((impl_Carded.f k t593 t594 t595 t598 t614 t599 t605).bind fun t615 => (laws_FnSplit.j0 k t599 t602 t605 t607 t608 (t611 != t615) t593 t594 t595 t598))) else (none)) else (none)) = some r := by first | (rw [hji22] at H; exact H) | (simp only [hji22] at H ⊢; exact H)
        have hji22w : (IntKind.i64.wrap ((t602.length : Int) - 1)) = ji22 := (i64_w _).trans hji22
        by_cases c23 : 0 ≤ (ji22)
        rotate_left
        · (rw [if_neg c23] at H; exact absurd H (by simp))
        rw [if_pos c23] at H
        have c23b0 : decide (0 ≤ (ji22)) = true := decide_eq_true c23
        clear c23
        by_cases c24 : (ji22) < (t602.length : Int)
        rotate_left
        · (rw [if_neg c24] at H; exact absurd H (by simp))
        rw [if_pos c24] at H
        have c24b0 : decide ((ji22) < (t602.length : Int)) = true := decide_eq_true c24
        clear c24
        replace H := Option.bind_eq_some_iff.mp H
        obtain ⟨t614, A250, H⟩ := H
        replace H : ((impl_Carded.f k t593 t594 t595 t598 t614 t599 t605).bind fun t615 => (laws_FnSplit.j0 k t599 t602 t605 t607 t608 (t611 != t615) t593 t594 t595 t598)) = some r := H
        have A25 := Aside0.mk A250
        clear A250
        replace H := Option.bind_eq_some_iff.mp H
        obtain ⟨t615, A260, H⟩ := H
        replace H : (laws_FnSplit.j0 k t599 t602 t605 t607 t608 (t611 != t615) t593 t594 t595 t598) = some r := H
        have A26 := Aside0.mk A260
        clear A260
        have H' := Aside0.mk H
        clear H
        try go_wp2
        have n0_ := Aside0.mk (Kd.R_drew HO597.out)
        have n1_ := Aside0.mk (Kd.R_drew HO601.out)
        have n2_ := Aside0.mk (Kd.R_drew HO604.out)
        have n3_ := Aside0.mk (Kd.R_drew HO610.out)
        have n4_ := Aside0.mk (blk_drew BK606.out)
        have n5_ := Aside0.mk (below_drew1 HB.out)
        clear HO597; clear HO601; clear HO604; clear HO610; clear BK606; clear HB; have HO597 := n0_; have HO601 := n1_; have HO604 := n2_; have HO610 := n3_; have BK606 := n4_; have HB := n5_; clear n0_ n1_ n2_ n3_ n4_ n5_
        have p612 : 0 ≤ (0 : Int) := (by omega)
        have q612 : 0 < (t602.length : Int) := of_decide_eq_true nQ
        obtain ⟨ad612, e612, hx612_0⟩ := Kd.at_int (Kd.R_reads' HO604.out).2.2 0 p612 q612
        cases e612
        have qi612 : (0 < t602.length) = True := eq_true (by omega)
        (try rw [show ((0 : Int)).toNat = 0 from rfl] at hx612_0)
        (try rw [Addr.add_zero'] at hx612_0)
        replace p612 := eq_true p612; replace q612 := eq_true q612
        have p613 : 0 ≤ ((ji22) : Int) := of_decide_eq_true nQ
        have q613 : (ji22) < (t602.length : Int) := of_decide_eq_true nQ
        obtain ⟨ad613, e613, hx613_0⟩ := Kd.at_int (Kd.R_reads' HO604.out).2.2 (ji22) p613 q613
        obtain rfl : ad612 = ad613 := (by injection e613)
        replace p613 := eq_true p613; replace q613 := eq_true q613
        refine start_ (n := 26) (S := fun w' => w'.cell? ⟨gb606, 0, none⟩ = some (.int .i64 t593) ∧ w'.cell? ⟨gb606, 1, none⟩ = some (.int .i64 t594) ∧ w'.cell? ⟨gb606, 2, none⟩ = some (.slice Ao11 t595.length co11) ∧ w'.cell? ⟨gb606, 3, none⟩ = some (.int .i64 t598) ∧ w'.cell? ad612 = some (.int .i64 (rd t602 0)) ∧ w'.cell? (ad612.add ((ji22)).toNat) = some (.int .i64 (rd t602 (ji22)))) (ds := []) #[F,F,F,F,F,F,F,F,F,F,F,F,F,F,F,F,F,F,F,F,F,F,F,F,F,F] (by kernel_rfl) rfl rfl ⟨(blk_cell BK606.out 0).trans rfl, (blk_cell BK606.out 1).trans rfl, (blk_cell BK606.out 2).trans rfl, (blk_cell BK606.out 3).trans rfl, hx612_0, hx613_0⟩ (fun hHeld => ?_); refine with_tabW laws_FnSplit.tab6 laws_FnSplit.bits6 (fun HT_ HW_ => ?_)
        generalize w16.drew = w27 at HO597 HO601 HO604 HO610 BK606 HB hx612_0 hx613_0 hHeld ⊢
        refine pU 0 (some 40) #[T,F,F,F,F,F,F,F,F,F,F,F,F,F,F,F,F,F,F,F,F,F,F,F,F,F] rfl rfl HT_.out ?_
        refine pU 1 (some 41) #[T,T,F,F,F,F,F,F,F,F,F,F,F,F,F,F,F,F,F,F,F,F,F,F,F,F] rfl rfl HT_.out ?_
        refine pU 2 (some 42) #[T,T,T,F,F,F,F,F,F,F,F,F,F,F,F,F,F,F,F,F,F,F,F,F,F,F] rfl rfl HT_.out ?_
        refine pU 3 (some 43) #[T,T,T,T,F,F,F,F,F,F,F,F,F,F,F,F,F,F,F,F,F,F,F,F,F,F] rfl rfl HT_.out ?_
        refine pU 4 (some 44) #[T,T,T,T,T,F,F,F,F,F,F,F,F,F,F,F,F,F,F,F,F,F,F,F,F,F] rfl rfl HT_.out ?_
        refine pU 5 (some 45) #[T,T,T,T,T,T,F,F,F,F,F,F,F,F,F,F,F,F,F,F,F,F,F,F,F,F] rfl rfl HT_.out ?_
        refine pU 6 (some 46) #[T,T,T,T,T,T,T,F,F,F,F,F,F,F,F,F,F,F,F,F,F,F,F,F,F,F] rfl rfl HT_.out ?_
        refine pU 7 (some 47) #[T,T,T,T,T,T,T,T,F,F,F,F,F,F,F,F,F,F,F,F,F,F,F,F,F,F] rfl rfl HT_.out ?_
        refine pU 8 (some 48) #[T,T,T,T,T,T,T,T,T,F,F,F,F,F,F,F,F,F,F,F,F,F,F,F,F,F] rfl rfl HT_.out ?_
        refine pU 11 (some 51) #[T,T,T,T,T,T,T,T,T,F,F,T,F,F,F,F,F,F,F,F,F,F,F,F,F,F] rfl rfl HT_.out ?_
        refine pU 12 (some 52) #[T,T,T,T,T,T,T,T,T,F,F,T,T,F,F,F,F,F,F,F,F,F,F,F,F,F] rfl rfl HT_.out ?_
        refine pU 14 (some 54) #[T,T,T,T,T,T,T,T,T,F,F,T,T,F,T,F,F,F,F,F,F,F,F,F,F,F] rfl rfl HT_.out ?_
        refine pU 15 (some 55) #[T,T,T,T,T,T,T,T,T,F,F,T,T,F,T,T,F,F,F,F,F,F,F,F,F,F] rfl rfl HT_.out ?_
        refine pU 16 (some 56) #[T,T,T,T,T,T,T,T,T,F,F,T,T,F,T,T,T,F,F,F,F,F,F,F,F,F] rfl rfl HT_.out ?_
        refine pU 17 (some 57) #[T,T,T,T,T,T,T,T,T,F,F,T,T,F,T,T,T,T,F,F,F,F,F,F,F,F] rfl rfl HT_.out ?_
        refine pU 18 (some 58) #[T,T,T,T,T,T,T,T,T,F,F,T,T,F,T,T,T,T,T,F,F,F,F,F,F,F] rfl rfl HT_.out ?_
        refine pU 21 (some 61) #[T,T,T,T,T,T,T,T,T,F,F,T,T,F,T,T,T,T,T,F,F,T,F,F,F,F] rfl rfl HT_.out ?_
        refine pU 22 (some 62) #[T,T,T,T,T,T,T,T,T,F,F,T,T,F,T,T,T,T,T,F,F,T,T,F,F,F] rfl rfl HT_.out ?_
        refine tU6 9 (some 49) #[T,T,T,T,T,T,T,T,T,T,F,T,T,F,T,T,T,T,T,F,F,T,T,F,F,F] rfl rfl HT_.out HW_.out hHeld ?_
        refine tU6 10 (some 50) #[T,T,T,T,T,T,T,T,T,T,T,T,T,F,T,T,T,T,T,F,F,T,T,F,F,F] rfl rfl HT_.out HW_.out hHeld ?_
        refine tU6 13 (some 53) #[T,T,T,T,T,T,T,T,T,T,T,T,T,T,T,T,T,T,T,F,F,T,T,F,F,F] rfl rfl HT_.out HW_.out hHeld ?_
        refine tU6 19 (some 59) #[T,T,T,T,T,T,T,T,T,T,T,T,T,T,T,T,T,T,T,T,F,T,T,F,F,F] rfl rfl HT_.out HW_.out hHeld ?_
        refine one_ (i := 20) (N := some 60) #[T,T,T,T,T,T,T,T,T,T,T,T,T,T,T,T,T,T,T,T,T,T,T,F,F,F] rfl rfl (one_of HT_.out (by kernel_rfl)) (by decide) (fun K hK => ?_)
        refine goes_ Try.func25 (by kernel_rfl) rfl #[.agg #[.int .i64 t593, .int .i64 t594, .slice Ao11 t595.length co11, .int .i64 t598], .int .i64 (rd t602 0), .int .i64 (rd t602 (ji22))] (by rfl) rfl rfl (by (try simp only [List.map_toArray, List.map_cons, List.map_nil]); first | done | (simp only [hji22]; rfl) | rfl | (simp only [List.length_drop, List.length_take]; rfl)) ?_
        with_reducible refine (impl_Fare.calls k t593 t594 _ _ t595 t598 (rd t602 0) (rd t602 (ji22)) t614 _ ?side1 ?side2 A25.out).mono ?_
        (case side1 => repeat (first | exact (Kd.R_reads' HO597.out).2.2 | (with_reducible refine Kd.C_alloc ?_ _) | (with_reducible refine Kd.C_drewN ?_ _) | (with_reducible refine Kd.C_drew ?_)))
        (case side2 => exact (Kd.R_reads' HO597.out).2.1)
        rintro e w28 ⟨rfl, hb⟩
        have HS4_ := (hb.cell (World.block_lt_of_cell? _ _ (hHeld.2.2.2.2.1))).trans (hHeld.2.2.2.2.1)
        have HS5_ := (hb.cell (World.block_lt_of_cell? _ _ (hHeld.2.2.2.2.2))).trans (hHeld.2.2.2.2.2)
        refine ⟨_, rfl, ?_⟩
        have n0_ := Aside0.mk (Kd.R_below (nR HO597.out) hb)
        have n1_ := Aside0.mk (Kd.R_below (nR HO601.out) hb)
        have n2_ := Aside0.mk (Kd.R_below (nR HO604.out) hb)
        have n3_ := Aside0.mk (Kd.R_below (nR HO610.out) hb)
        have n4_ := Aside0.mk (blk_below (g := gb606) (o := .cells #[.int .i64 t593, .int .i64 t594, .slice Ao11 t595.length co11, .int .i64 t598] 34 (0, 0)) (nB BK606.out) hb)
        have n5_ := Aside0.mk (below_step (nH1 HB.out GE606.out) hb)
        clear HO597; clear HO601; clear HO604; clear HO610; clear BK606; clear HB; have HO597 := n0_; have HO601 := n1_; have HO604 := n2_; have HO610 := n3_; have BK606 := n4_; have HB := n5_; clear n0_ n1_ n2_ n3_ n4_ n5_; (try clear hb); (try clear hb2); (try clear hk); (try clear hi)
        refine hK.out _ _ ⟨(blk_cell BK606.out 0).trans rfl, (blk_cell BK606.out 1).trans rfl, (blk_cell BK606.out 2).trans rfl, (blk_cell BK606.out 3).trans rfl, HS4_, HS5_⟩ (fun hHeld => ?_)
        clear hK K
        refine norm_ (a' := ?_) ?_ ?_
        rotate_left
        · show Act.put _ (some 60) _ = _
          simp only [Act.put, List.setIfInBounds_toArray, List.set_cons_zero, List.set_cons_succ, i64_w, i32_w]
          rfl
        refine one_ (i := 23) (N := some 63) #[T,T,T,T,T,T,T,T,T,T,T,T,T,T,T,T,T,T,T,T,T,T,T,T,F,F] rfl rfl (one_of HT_.out (by kernel_rfl)) (by decide) (fun K hK => ?_)
        refine goes_ Try.func29 (by kernel_rfl) rfl #[.agg #[.int .i64 t593, .int .i64 t594, .slice Ao11 t595.length co11, .int .i64 t598], .int .i64 t614, .slice Ao13 t599.length co13, .int .i64 t605] (by rfl) rfl rfl (by (try simp only [List.map_toArray, List.map_cons, List.map_nil]); first | done | rfl | (simp only [List.length_drop, List.length_take]; rfl)) ?_
        with_reducible refine (impl_Carded.calls k t593 t594 _ _ t595 t598 t614 _ _ t599 t605 t615 _ ?side1 ?side2 ?side3 ?side4 A26.out).mono ?_
        (case side1 => repeat (first | exact (Kd.R_reads' HO597.out).2.2 | (with_reducible refine Kd.C_alloc ?_ _) | (with_reducible refine Kd.C_drewN ?_ _) | (with_reducible refine Kd.C_drew ?_)))
        (case side2 => exact (Kd.R_reads' HO597.out).2.1)
        (case side3 => repeat (first | exact (Kd.R_reads' HO601.out).2.2 | (with_reducible refine Kd.C_alloc ?_ _) | (with_reducible refine Kd.C_drewN ?_ _) | (with_reducible refine Kd.C_drew ?_)))
        (case side4 => exact (Kd.R_reads' HO601.out).2.1)
        rintro e w29 ⟨rfl, hb⟩
        have HS4_ := (hb.cell (World.block_lt_of_cell? _ _ (hHeld.2.2.2.2.1))).trans (hHeld.2.2.2.2.1)
        have HS5_ := (hb.cell (World.block_lt_of_cell? _ _ (hHeld.2.2.2.2.2))).trans (hHeld.2.2.2.2.2)
        refine ⟨_, rfl, ?_⟩
        have n0_ := Aside0.mk (Kd.R_below (nR HO597.out) hb)
        have n1_ := Aside0.mk (Kd.R_below (nR HO601.out) hb)
        have n2_ := Aside0.mk (Kd.R_below (nR HO604.out) hb)
        have n3_ := Aside0.mk (Kd.R_below (nR HO610.out) hb)
        have n4_ := Aside0.mk (blk_below (g := gb606) (o := .cells #[.int .i64 t593, .int .i64 t594, .slice Ao11 t595.length co11, .int .i64 t598] 34 (0, 0)) (nB BK606.out) hb)
        have n5_ := Aside0.mk (below_step (nH1 HB.out GE606.out) hb)
        clear HO597; clear HO601; clear HO604; clear HO610; clear BK606; clear HB; have HO597 := n0_; have HO601 := n1_; have HO604 := n2_; have HO610 := n3_; have BK606 := n4_; have HB := n5_; clear n0_ n1_ n2_ n3_ n4_ n5_; (try clear hb); (try clear hb2); (try clear hk); (try clear hi)
        refine hK.out _ _ ⟨(blk_cell BK606.out 0).trans rfl, (blk_cell BK606.out 1).trans rfl, (blk_cell BK606.out 2).trans rfl, (blk_cell BK606.out 3).trans rfl, HS4_, HS5_⟩ (fun hHeld => ?_)
        clear hK K
        refine norm_ (a' := ?_) ?_ ?_
        rotate_left
        · show Act.put _ (some 63) _ = _
          simp only [Act.put, List.setIfInBounds_toArray, List.set_cons_zero, List.set_cons_succ, i64_w, i32_w]
          rfl
        refine pU 24 (some 64) #[T,T,T,T,T,T,T,T,T,T,T,T,T,T,T,T,T,T,T,T,T,T,T,T,T,F] rfl rfl HT_.out ?_
        refine pU 25 (some 65) #[T,T,T,T,T,T,T,T,T,T,T,T,T,T,T,T,T,T,T,T,T,T,T,T,T,T] rfl rfl HT_.out ?_
        refine done_ (done_of HT_.out (by kernel_rfl)) ?_
        try go_wp2
        go_meet
        case rel => exact ⟨_, ((t611 != t615)), nS, H', ⟨by first | omega | exact Nat.le_refl _⟩, ⟨by (with_reducible repeat (first | apply Kd.R_alloc | apply Kd.R_drewN | apply Kd.R_drew)); exact HO601.out⟩, ⟨by (with_reducible repeat (first | apply Kd.R_alloc | apply Kd.R_drewN | apply Kd.R_drew)); exact Kd.R_mono HO604.out (fun _ hk => ⟨hk.2, hk.1⟩)⟩, ⟨by (with_reducible repeat (first | apply Kd.R_alloc | apply Kd.R_drewN | apply Kd.R_drew)); exact Kd.R_mono HO610.out (fun _ hk => ⟨hk.2, hk.1.2⟩)⟩, ⟨by (with_reducible repeat (first | apply Kd.R_alloc | apply Kd.R_drewN | apply Kd.R_drew)); exact HO597.out⟩, ⟨by (with_reducible repeat (first | refine blk_drewN ?_ _ | refine blk_drew ?_ | refine blk_alloc ?_ _)); exact BK606.out⟩, ⟨nH1 HB.out GE606.out⟩⟩
   case rest =>
    clear HC7; try clear c1; try clear c2; try clear p2; try clear p6; try clear q6; try clear hx6; try clear qi6; try clear c17; try clear c17b0; try clear c19; try clear c19b0; try clear c21; try clear c21b0; try clear c21b1; try clear c23; try clear c23b0; try clear c24; try clear c24b0; try clear c25; try clear c29; try clear hx612_0; try clear hx613_0; try clear p612; try clear p613; try clear q612; try clear q613
    obtain ⟨kq, x65_6, rfl, HA, HJ6, HO_4, HO_5, HO_8, HO_607002, BK606, HB⟩ := hcut
    cases kq with
    | zero => exact absurd HA.out (by simp [laws_FnSplit.j0])
    | succ kj6 =>
     have H := HA.out; clear HA
     simp only [laws_FnSplit.j0] at H
     by_cases c30 : x65_6 = true
     · subst c30
       have H1 : (some false) = some r := by rw [if_pos rfl] at H; exact H
       clear H; have H := H1; clear H1
       exact absurd ((Option.some.inj H).trans ht.out) (by decide)
     · replace c30 := Bool.eq_false_iff.mpr c30
       subst c30
       have H1 : (laws_FnSplit.l0 kj6 t599 t602 t605 t607 t608 0 0 0 t593 t594 t595 t598) = some r := by rw [if_neg (show ¬ (false = true) by decide)] at H; exact H
       clear H; have H := H1; clear H1
       have H' := Aside0.mk H
       clear H; go_wp2
       go_loopg [10, 11, 12] kj6 (fun kq v10 v11 v12 w' => ∃ (x10_2 : Int) (x11_2 : Int) (x12_2 : Int), v10 = .int .i64 x10_2 ∧ v11 = .int .i64 x11_2 ∧ v12 = .int .i64 x12_2 ∧ Aside0 (laws_FnSplit.l0 kq t599 t602 t605 t607 t608 x10_2 x11_2 x12_2 t593 t594 t595 t598 = some r) ∧ Aside0 (kq ≤ kj6) ∧ Aside0 (Kd.R k57 57 w' w.heap.size (fun _ => True) (.slice Ao13 t599.length co13) t599) ∧ Aside0 (Kd.R (Kd.int .i64) 3 w' w.heap.size (fun k_ => some k_ ≠ (v609 : Value).ownBlock ∧ some k_ ≠ ((.slice Ao11 t595.length co11) : Value).ownBlock) (.slice Ao12 t602.length co12) t602) ∧ Aside0 (Kd.R (Kd.int .i64) 3 w' w.heap.size (fun k_ => some k_ ≠ ((.slice Ao12 t602.length co12) : Value).ownBlock ∧ some k_ ≠ ((.slice Ao11 t595.length co11) : Value).ownBlock) v609 t608) ∧ Aside0 (Kd.R (Kd.int .i64) 3 w' w.heap.size (fun k_ => some k_ ≠ ((.slice Ao12 t602.length co12) : Value).ownBlock ∧ some k_ ≠ (v609 : Value).ownBlock) (.slice Ao11 t595.length co11) t595) ∧ Aside0 (w'.heap[gb606]? = some (.cells #[.int .i64 t593, .int .i64 t594, (.slice Ao11 t595.length co11), .int .i64 t598] 34 (0, 0))) ∧ Aside0 (Below w.heap.size w w'))
       case atStart => exact ⟨(0), (0), (0), nS, nS, nS, H', ⟨Nat.le_refl _⟩, ⟨by (with_reducible repeat (first | apply Kd.R_alloc | apply Kd.R_drewN | apply Kd.R_drew)); exact HO_4.out⟩, ⟨by (with_reducible repeat (first | apply Kd.R_alloc | apply Kd.R_drewN | apply Kd.R_drew)); exact HO_5.out⟩, ⟨by (with_reducible repeat (first | apply Kd.R_alloc | apply Kd.R_drewN | apply Kd.R_drew)); exact HO_8.out⟩, ⟨by (with_reducible repeat (first | apply Kd.R_alloc | apply Kd.R_drewN | apply Kd.R_drew)); exact HO_607002.out⟩, ⟨by (with_reducible repeat (first | refine blk_drewN ?_ _ | refine blk_drew ?_ | refine blk_alloc ?_ _)); exact BK606.out⟩, ⟨nH1 HB.out GE606.out⟩⟩
       case round =>
        clear H'
        try clear c1; try clear c2; try clear p2; try clear c3; try clear p6; try clear q6; try clear hx6; try clear qi6; try clear c17; try clear c17b0; try clear c19; try clear c19b0; try clear c21; try clear c21b0; try clear c21b1; try clear c23; try clear c23b0; try clear c24; try clear c24b0; try clear c25; try clear c29; try clear c30; try clear hx612_0; try clear hx613_0; try clear p2; try clear p6; try clear p612; try clear p613; try clear q6; try clear q612; try clear q613
        obtain ⟨x10_2, x11_2, x12_2, rfl, rfl, rfl, HA, HK2, HO_4, HO_5, HO_8, HO_607002, BK606, HB⟩ := hrel
        cases gk with
        | zero => exact absurd HA.out (by simp [laws_FnSplit.l0])
        | succ k2 =>
         have H := HA.out; clear HA
         simp only [laws_FnSplit.l0] at H
         by_cases c31 : x12_2 ≤ (t608.length : Int)
         · rw [if_pos c31] at H
           have c31b0 : decide (x12_2 ≤ (t608.length : Int)) = true := decide_eq_true c31
           clear c31
           have HC32 := Aside0.mk H
           clear H
           obtain ⟨Ao33, co33, eo33⟩ := Kd.R_slice HO_8.out
           subst eo33
           go_upto_if 78 with (fail)
           go_cut [13] (fun v13 wc => ∃ (kq : Nat) (x13_31 : Int), v13 = .int .i64 x13_31 ∧ Aside0 (laws_FnSplit.j2 kq t599 t602 t605 t607 t608 x10_2 x11_2 x12_2 x13_31 t593 t594 t595 t598 = some r) ∧ Aside0 (kq ≤ k2) ∧ Aside0 (Kd.R k57 57 wc w.heap.size (fun _ => True) (.slice Ao13 t599.length co13) t599) ∧ Aside0 (Kd.R (Kd.int .i64) 3 wc w.heap.size (fun k_ => some k_ ≠ ((.slice Ao33 t608.length co33) : Value).ownBlock ∧ some k_ ≠ ((.slice Ao11 t595.length co11) : Value).ownBlock) (.slice Ao12 t602.length co12) t602) ∧ Aside0 (Kd.R (Kd.int .i64) 3 wc w.heap.size (fun k_ => some k_ ≠ ((.slice Ao12 t602.length co12) : Value).ownBlock ∧ some k_ ≠ ((.slice Ao11 t595.length co11) : Value).ownBlock) (.slice Ao33 t608.length co33) t608) ∧ Aside0 (Kd.R (Kd.int .i64) 3 wc w.heap.size (fun k_ => some k_ ≠ ((.slice Ao12 t602.length co12) : Value).ownBlock ∧ some k_ ≠ ((.slice Ao33 t608.length co33) : Value).ownBlock) (.slice Ao11 t595.length co11) t595) ∧ Aside0 (wc.heap[gb606]? = some (.cells #[.int .i64 t593, .int .i64 t594, (.slice Ao11 t595.length co11), .int .i64 t598] 34 (0, 0))) ∧ Aside0 (Below w.heap.size w wc))
           case first =>
            have H := HC32.out; clear HC32
            by_cases c34 : x12_2 < (t608.length : Int)
            · rw [if_pos c34] at H
              have c34b0 : decide (x12_2 < (t608.length : Int)) = true := decide_eq_true c34
              clear c34
              (first | rw [c34b0] | (simp only [i64_w, i32_w]; rw [c34b0]) | skip)
              by_cases c35 : 0 ≤ x12_2
              rotate_left
              · (rw [if_neg c35] at H; exact absurd H (by simp))
              rw [if_pos c35] at H
              have c35b0 : decide (0 ≤ x12_2) = true := decide_eq_true c35
              clear c35
              have H' := Aside0.mk H
              clear H
              have p616 : 0 ≤ (x12_2 : Int) := of_decide_eq_true nQ
              have q616 : x12_2 < (t608.length : Int) := of_decide_eq_true nQ
              obtain ⟨ad616, e616, hx616_0⟩ := Kd.at_int (Kd.R_reads' HO_8.out).2.2 x12_2 p616 q616
              cases e616; replace p616 := eq_true p616; replace q616 := eq_true q616; go_wp2
              go_meet
              case rel => exact ⟨_, (rd t608 x12_2), nS, H', ⟨by have := HJ6.out; have := HK2.out; first | omega | exact Nat.le_refl _⟩, ⟨by (with_reducible repeat (first | apply Kd.R_alloc | apply Kd.R_drewN | apply Kd.R_drew)); exact HO_4.out⟩, ⟨by (with_reducible repeat (first | apply Kd.R_alloc | apply Kd.R_drewN | apply Kd.R_drew)); exact HO_5.out⟩, ⟨by (with_reducible repeat (first | apply Kd.R_alloc | apply Kd.R_drewN | apply Kd.R_drew)); exact HO_8.out⟩, ⟨by (with_reducible repeat (first | apply Kd.R_alloc | apply Kd.R_drewN | apply Kd.R_drew)); exact HO_607002.out⟩, ⟨by (with_reducible repeat (first | refine blk_drewN ?_ _ | refine blk_drew ?_ | refine blk_alloc ?_ _)); exact BK606.out⟩, ⟨nH1 HB.out GE606.out⟩⟩
            · rw [if_neg c34] at H
              have c34b0 : decide (x12_2 < (t608.length : Int)) = false := decide_eq_false c34
              clear c34
              (first | rw [c34b0] | (simp only [i64_w, i32_w]; rw [c34b0]) | skip)
              have H' := Aside0.mk H
              clear H; go_wp2
              go_meet
              case rel => exact ⟨_, (wrap64 ((t602.length : Int) - 1)), nS, H', ⟨by have := HJ6.out; have := HK2.out; first | omega | exact Nat.le_refl _⟩, ⟨by (with_reducible repeat (first | apply Kd.R_alloc | apply Kd.R_drewN | apply Kd.R_drew)); exact HO_4.out⟩, ⟨by (with_reducible repeat (first | apply Kd.R_alloc | apply Kd.R_drewN | apply Kd.R_drew)); exact HO_5.out⟩, ⟨by (with_reducible repeat (first | apply Kd.R_alloc | apply Kd.R_drewN | apply Kd.R_drew)); exact HO_8.out⟩, ⟨by (with_reducible repeat (first | apply Kd.R_alloc | apply Kd.R_drewN | apply Kd.R_drew)); exact HO_607002.out⟩, ⟨by (with_reducible repeat (first | refine blk_drewN ?_ _ | refine blk_drew ?_ | refine blk_alloc ?_ _)); exact BK606.out⟩, ⟨nH1 HB.out GE606.out⟩⟩
           case rest =>
            clear HC32; try clear c1; try clear c2; try clear p2; try clear c3; try clear p6; try clear q6; try clear hx6; try clear qi6; try clear c17; try clear c17b0; try clear c19; try clear c19b0; try clear c21; try clear c21b0; try clear c21b1; try clear c23; try clear c23b0; try clear c24; try clear c24b0; try clear c25; try clear c29; try clear c30; try clear c31; try clear c31b0; try clear c34; try clear c34b0; try clear c35; try clear c35b0; try clear hx612_0; try clear hx613_0; try clear hx616_0; try clear p2; try clear p6; try clear p612; try clear p613; try clear p616; try clear q6
            try clear q612; try clear q613; try clear q616
            obtain ⟨kq, x13_31, rfl, HA, HJ31, HO_4, HO_5, HO_8, HO_607002, BK606, HB⟩ := hcut
            cases kq with
            | zero => exact absurd HA.out (by simp [laws_FnSplit.j2])
            | succ kj31 =>
             have H := HA.out; clear HA
             simp only [laws_FnSplit.j2] at H
             have HC36 := Aside0.mk H
             clear H
             go_upto_region 15 with (fail)
             go_cut [102] (fun v102 wc => ∃ (kq : Nat) (x102_35 : Bool), v102 = .bool x102_35 ∧ Aside0 (laws_FnSplit.j3 kq t599 t602 t605 t607 t608 x10_2 x11_2 x12_2 x13_31 x102_35 t593 t594 t595 t598 = some r) ∧ Aside0 (kq ≤ kj31) ∧ Aside0 (Kd.R k57 57 wc w.heap.size (fun _ => True) (.slice Ao13 t599.length co13) t599) ∧ Aside0 (Kd.R (Kd.int .i64) 3 wc w.heap.size (fun k_ => some k_ ≠ ((.slice Ao33 t608.length co33) : Value).ownBlock ∧ some k_ ≠ ((.slice Ao11 t595.length co11) : Value).ownBlock) (.slice Ao12 t602.length co12) t602) ∧ Aside0 (Kd.R (Kd.int .i64) 3 wc w.heap.size (fun k_ => some k_ ≠ ((.slice Ao12 t602.length co12) : Value).ownBlock ∧ some k_ ≠ ((.slice Ao11 t595.length co11) : Value).ownBlock) (.slice Ao33 t608.length co33) t608) ∧ Aside0 (Kd.R (Kd.int .i64) 3 wc w.heap.size (fun k_ => some k_ ≠ ((.slice Ao12 t602.length co12) : Value).ownBlock ∧ some k_ ≠ ((.slice Ao33 t608.length co33) : Value).ownBlock) (.slice Ao11 t595.length co11) t595) ∧ Aside0 (wc.heap[gb606]? = some (.cells #[.int .i64 t593, .int .i64 t594, (.slice Ao11 t595.length co11), .int .i64 t598] 34 (0, 0))) ∧ Aside0 (Below w.heap.size w wc))
             case first =>
              have H := HC36.out; clear HC36
              by_cases c37 : x13_31 ≤ x11_2
              · rw [if_pos c37] at H
                have c37b0 : decide (x13_31 ≤ x11_2) = true := decide_eq_true c37
                clear c37
                (first | rw [c37b0] | (simp only [i64_w, i32_w]; rw [c37b0]) | skip)
                by_cases c38 : x12_2 < (t608.length : Int)
                · rw [if_pos c38] at H
                  have c38b0 : decide (x12_2 < (t608.length : Int)) = true := decide_eq_true c38
                  clear c38
                  have H' := Aside0.mk H
                  clear H; go_wp2
                  go_meet
                  case rel => exact ⟨_, (true), nS, H', ⟨by have := HJ6.out; have := HK2.out; have := HJ31.out; first | omega | exact Nat.le_refl _⟩, ⟨by (with_reducible repeat (first | apply Kd.R_alloc | apply Kd.R_drewN | apply Kd.R_drew)); exact HO_4.out⟩, ⟨by (with_reducible repeat (first | apply Kd.R_alloc | apply Kd.R_drewN | apply Kd.R_drew)); exact HO_5.out⟩, ⟨by (with_reducible repeat (first | apply Kd.R_alloc | apply Kd.R_drewN | apply Kd.R_drew)); exact HO_8.out⟩, ⟨by (with_reducible repeat (first | apply Kd.R_alloc | apply Kd.R_drewN | apply Kd.R_drew)); exact HO_607002.out⟩, ⟨by (with_reducible repeat (first | refine blk_drewN ?_ _ | refine blk_drew ?_ | refine blk_alloc ?_ _)); exact BK606.out⟩, ⟨nH1 HB.out GE606.out⟩⟩
                · rw [if_neg c38] at H
                  have c38b0 : decide (x12_2 < (t608.length : Int)) = false := decide_eq_false c38
                  clear c38
                  by_cases c39 : x13_31 ≥ (t602.length : Int)
                  · rw [if_pos c39] at H
                    have c39b0 : decide ((t602.length : Int) ≤ x13_31) = true := decide_eq_true c39
                    clear c39
                    have H' := Aside0.mk H
                    clear H; go_wp2
                    go_meet
                    case rel => exact ⟨_, (true), nS, H', ⟨by have := HJ6.out; have := HK2.out; have := HJ31.out; first | omega | exact Nat.le_refl _⟩, ⟨by (with_reducible repeat (first | apply Kd.R_alloc | apply Kd.R_drewN | apply Kd.R_drew)); exact HO_4.out⟩, ⟨by (with_reducible repeat (first | apply Kd.R_alloc | apply Kd.R_drewN | apply Kd.R_drew)); exact HO_5.out⟩, ⟨by (with_reducible repeat (first | apply Kd.R_alloc | apply Kd.R_drewN | apply Kd.R_drew)); exact HO_8.out⟩, ⟨by (with_reducible repeat (first | apply Kd.R_alloc | apply Kd.R_drewN | apply Kd.R_drew)); exact HO_607002.out⟩, ⟨by (with_reducible repeat (first | refine blk_drewN ?_ _ | refine blk_drew ?_ | refine blk_alloc ?_ _)); exact BK606.out⟩, ⟨nH1 HB.out GE606.out⟩⟩
                  · rw [if_neg c39] at H
                    have c39b0 : decide ((t602.length : Int) ≤ x13_31) = false := decide_eq_false c39
                    clear c39
                    have H' := Aside0.mk H
                    clear H; go_wp2
                    go_meet
                    case rel => exact ⟨_, (decide (x13_31 < x11_2)), nS, H', ⟨by have := HJ6.out; have := HK2.out; have := HJ31.out; first | omega | exact Nat.le_refl _⟩, ⟨by (with_reducible repeat (first | apply Kd.R_alloc | apply Kd.R_drewN | apply Kd.R_drew)); exact HO_4.out⟩, ⟨by (with_reducible repeat (first | apply Kd.R_alloc | apply Kd.R_drewN | apply Kd.R_drew)); exact HO_5.out⟩, ⟨by (with_reducible repeat (first | apply Kd.R_alloc | apply Kd.R_drewN | apply Kd.R_drew)); exact HO_8.out⟩, ⟨by (with_reducible repeat (first | apply Kd.R_alloc | apply Kd.R_drewN | apply Kd.R_drew)); exact HO_607002.out⟩, ⟨by (with_reducible repeat (first | refine blk_drewN ?_ _ | refine blk_drew ?_ | refine blk_alloc ?_ _)); exact BK606.out⟩, ⟨nH1 HB.out GE606.out⟩⟩
              · rw [if_neg c37] at H
                have c37b0 : decide (x13_31 ≤ x11_2) = false := decide_eq_false c37
                clear c37
                (first | rw [c37b0] | (simp only [i64_w, i32_w]; rw [c37b0]) | skip)
                by_cases c40 : x13_31 ≥ (t602.length : Int)
                · rw [if_pos c40] at H
                  have c40b0 : decide ((t602.length : Int) ≤ x13_31) = true := decide_eq_true c40
                  clear c40
                  have H' := Aside0.mk H
                  clear H; go_wp2
                  go_meet
                  case rel => exact ⟨_, (true), nS, H', ⟨by have := HJ6.out; have := HK2.out; have := HJ31.out; first | omega | exact Nat.le_refl _⟩, ⟨by (with_reducible repeat (first | apply Kd.R_alloc | apply Kd.R_drewN | apply Kd.R_drew)); exact HO_4.out⟩, ⟨by (with_reducible repeat (first | apply Kd.R_alloc | apply Kd.R_drewN | apply Kd.R_drew)); exact HO_5.out⟩, ⟨by (with_reducible repeat (first | apply Kd.R_alloc | apply Kd.R_drewN | apply Kd.R_drew)); exact HO_8.out⟩, ⟨by (with_reducible repeat (first | apply Kd.R_alloc | apply Kd.R_drewN | apply Kd.R_drew)); exact HO_607002.out⟩, ⟨by (with_reducible repeat (first | refine blk_drewN ?_ _ | refine blk_drew ?_ | refine blk_alloc ?_ _)); exact BK606.out⟩, ⟨nH1 HB.out GE606.out⟩⟩
                · rw [if_neg c40] at H
                  have c40b0 : decide ((t602.length : Int) ≤ x13_31) = false := decide_eq_false c40
                  clear c40
                  have H' := Aside0.mk H
                  clear H; go_wp2
                  go_meet
                  case rel => exact ⟨_, (decide (x13_31 < x11_2)), nS, H', ⟨by have := HJ6.out; have := HK2.out; have := HJ31.out; first | omega | exact Nat.le_refl _⟩, ⟨by (with_reducible repeat (first | apply Kd.R_alloc | apply Kd.R_drewN | apply Kd.R_drew)); exact HO_4.out⟩, ⟨by (with_reducible repeat (first | apply Kd.R_alloc | apply Kd.R_drewN | apply Kd.R_drew)); exact HO_5.out⟩, ⟨by (with_reducible repeat (first | apply Kd.R_alloc | apply Kd.R_drewN | apply Kd.R_drew)); exact HO_8.out⟩, ⟨by (with_reducible repeat (first | apply Kd.R_alloc | apply Kd.R_drewN | apply Kd.R_drew)); exact HO_607002.out⟩, ⟨by (with_reducible repeat (first | refine blk_drewN ?_ _ | refine blk_drew ?_ | refine blk_alloc ?_ _)); exact BK606.out⟩, ⟨nH1 HB.out GE606.out⟩⟩
             case rest =>
              clear HC36; try clear c1; try clear c2; try clear p2; try clear c3; try clear c4; try clear p6; try clear q6; try clear hx6; try clear qi6; try clear c17; try clear c17b0; try clear c19; try clear c19b0; try clear c21; try clear c21b0; try clear c21b1; try clear c23; try clear c23b0; try clear c24; try clear c24b0; try clear c25; try clear c29; try clear c30; try clear c31; try clear c31b0; try clear c34; try clear c34b0; try clear c35; try clear c35b0; try clear c37; try clear c37b0; try clear c38; try clear c38b0; try clear c39; try clear c39b0; try clear c40; try clear c40b0; try clear hx612_0
              try clear hx613_0; try clear hx616_0; try clear p2; try clear p6; try clear p612; try clear p613; try clear p616; try clear q6; try clear q612; try clear q613; try clear q616
              obtain ⟨kq, x102_35, rfl, HA, HJ35, HO_4, HO_5, HO_8, HO_607002, BK606, HB⟩ := hcut
              cases kq with
              | zero => exact absurd HA.out (by simp [laws_FnSplit.j3])
              | succ kj35 =>
               have H := HA.out; clear HA
               simp only [laws_FnSplit.j3] at H
               by_cases c41 : x102_35 = true
               · subst c41
                 have H1 : (some false) = some r := by rw [if_pos rfl] at H; exact H
                 clear H; have H := H1; clear H1
                 exact absurd ((Option.some.inj H).trans ht.out) (by decide)
               · replace c41 := Bool.eq_false_iff.mpr c41
                 subst c41
                 have H1 : (if 0 ≤ x11_2 then (if x11_2 < (t602.length : Int) then (if 0 ≤ x13_31 then (if x13_31 < (t602.length : Int) then ((impl_Fare.f kj35 t593 t594 t595 t598 (rd t602 x11_2) (rd t602 x13_31)).bind fun t619 => ((impl_Carded.f kj35 t593 t594 t595 t598 t619 t599 t605).bind fun t620 => (laws_FnSplit.l0 kj35 t599 t602 t605 t607 t608 (wrap64 (x10_2 + t620)) x13_31 (wrap64 (x12_2 + 1)) t593 t594 t595 t598))) else (none)) else (none)) else (none)) else (none)) = some r := by rw [if_neg (show ¬ (false = true) by decide)] at H; exact H
                 clear H; have H := H1; clear H1
                 by_cases c42 : 0 ≤ x11_2
                 rotate_left
                 · (rw [if_neg c42] at H; exact absurd H (by simp))
                 rw [if_pos c42] at H
                 have c42b0 : decide (0 ≤ x11_2) = true := decide_eq_true c42
                 clear c42
                 by_cases c43 : x11_2 < (t602.length : Int)
                 rotate_left
                 · (rw [if_neg c43] at H; exact absurd H (by simp))
                 rw [if_pos c43] at H
                 have c43b0 : decide (x11_2 < (t602.length : Int)) = true := decide_eq_true c43
                 clear c43
                 by_cases c44 : 0 ≤ x13_31
                 rotate_left
                 · (rw [if_neg c44] at H; exact absurd H (by simp))
                 rw [if_pos c44] at H
                 have c44b0 : decide (0 ≤ x13_31) = true := decide_eq_true c44
                 clear c44
                 by_cases c45 : x13_31 < (t602.length : Int)
                 rotate_left
                 · (rw [if_neg c45] at H; exact absurd H (by simp))
                 rw [if_pos c45] at H
                 have c45b0 : decide (x13_31 < (t602.length : Int)) = true := decide_eq_true c45
                 clear c45
                 replace H := Option.bind_eq_some_iff.mp H
                 obtain ⟨t619, A460, H⟩ := H
                 replace H : ((impl_Carded.f kj35 t593 t594 t595 t598 t619 t599 t605).bind fun t620 => (laws_FnSplit.l0 kj35 t599 t602 t605 t607 t608 (wrap64 (x10_2 + t620)) x13_31 (wrap64 (x12_2 + 1)) t593 t594 t595 t598)) = some r := H
                 have A46 := Aside0.mk A460
                 clear A460
                 replace H := Option.bind_eq_some_iff.mp H
                 obtain ⟨t620, A470, H⟩ := H
                 replace H : (laws_FnSplit.l0 kj35 t599 t602 t605 t607 t608 (wrap64 (x10_2 + t620)) x13_31 (wrap64 (x12_2 + 1)) t593 t594 t595 t598) = some r := H
                 have A47 := Aside0.mk A470
                 clear A470
                 have H' := Aside0.mk H
                 clear H
                 try go_wp2
                 have n0_ := Aside0.mk (Kd.R_drew HO_4.out)
                 have n1_ := Aside0.mk (Kd.R_drew HO_5.out)
                 have n2_ := Aside0.mk (Kd.R_drew HO_8.out)
                 have n3_ := Aside0.mk (Kd.R_drew HO_607002.out)
                 have n4_ := Aside0.mk (blk_drew BK606.out)
                 have n5_ := Aside0.mk (below_drew1 HB.out)
                 clear HO_4; clear HO_5; clear HO_8; clear HO_607002; clear BK606; clear HB; have HO_4 := n0_; have HO_5 := n1_; have HO_8 := n2_; have HO_607002 := n3_; have BK606 := n4_; have HB := n5_; clear n0_ n1_ n2_ n3_ n4_ n5_
                 have p617 : 0 ≤ (x11_2 : Int) := of_decide_eq_true nQ
                 have q617 : x11_2 < (t602.length : Int) := of_decide_eq_true nQ
                 obtain ⟨ad617, e617, hx617_0⟩ := Kd.at_int (Kd.R_reads' HO_5.out).2.2 x11_2 p617 q617
                 cases e617; replace p617 := eq_true p617; replace q617 := eq_true q617
                 have p618 : 0 ≤ (x13_31 : Int) := of_decide_eq_true nQ
                 have q618 : x13_31 < (t602.length : Int) := of_decide_eq_true nQ
                 obtain ⟨ad618, e618, hx618_0⟩ := Kd.at_int (Kd.R_reads' HO_5.out).2.2 x13_31 p618 q618
                 obtain rfl : ad617 = ad618 := (by injection e618)
                 replace p618 := eq_true p618; replace q618 := eq_true q618
                 refine start_ (n := 17) (S := fun w' => w'.cell? ⟨gb606, 0, none⟩ = some (.int .i64 t593) ∧ w'.cell? ⟨gb606, 1, none⟩ = some (.int .i64 t594) ∧ w'.cell? ⟨gb606, 2, none⟩ = some (.slice Ao11 t595.length co11) ∧ w'.cell? ⟨gb606, 3, none⟩ = some (.int .i64 t598) ∧ w'.cell? (ad617.add (x11_2).toNat) = some (.int .i64 (rd t602 x11_2)) ∧ w'.cell? (ad617.add (x13_31).toNat) = some (.int .i64 (rd t602 x13_31))) (ds := []) #[F,F,F,F,F,F,F,F,F,F,F,F,F,F,F,F,F] (by kernel_rfl) rfl rfl ⟨(blk_cell BK606.out 0).trans rfl, (blk_cell BK606.out 1).trans rfl, (blk_cell BK606.out 2).trans rfl, (blk_cell BK606.out 3).trans rfl, hx617_0, hx618_0⟩ (fun hHeld => ?_); refine with_tabW laws_FnSplit.tab17 laws_FnSplit.bits17 (fun HT_ HW_ => ?_)
                 generalize wc.drew = w48 at HO_4 HO_5 HO_8 HO_607002 BK606 HB hx617_0 hx618_0 hHeld ⊢
                 refine pU 0 (some 103) #[T,F,F,F,F,F,F,F,F,F,F,F,F,F,F,F,F] rfl rfl HT_.out ?_
                 refine pU 3 (some 106) #[T,F,F,T,F,F,F,F,F,F,F,F,F,F,F,F,F] rfl rfl HT_.out ?_
                 refine pU 4 (some 107) #[T,F,F,T,T,F,F,F,F,F,F,F,F,F,F,F,F] rfl rfl HT_.out ?_
                 refine pU 5 (some 108) #[T,F,F,T,T,T,F,F,F,F,F,F,F,F,F,F,F] rfl rfl HT_.out ?_
                 refine pU 7 (some 110) #[T,F,F,T,T,T,F,T,F,F,F,F,F,F,F,F,F] rfl rfl HT_.out ?_
                 refine pU 8 (some 111) #[T,F,F,T,T,T,F,T,T,F,F,F,F,F,F,F,F] rfl rfl HT_.out ?_
                 refine pU 9 (some 112) #[T,F,F,T,T,T,F,T,T,T,F,F,F,F,F,F,F] rfl rfl HT_.out ?_
                 refine pU 12 (some 115) #[T,F,F,T,T,T,F,T,T,T,F,F,T,F,F,F,F] rfl rfl HT_.out ?_
                 refine pU 13 (some 116) #[T,F,F,T,T,T,F,T,T,T,F,F,T,T,F,F,F] rfl rfl HT_.out ?_
                 refine tU6 1 (some 104) #[T,T,F,T,T,T,F,T,T,T,F,F,T,T,F,F,F] rfl rfl HT_.out HW_.out hHeld ?_
                 refine tU6 2 (some 105) #[T,T,T,T,T,T,F,T,T,T,F,F,T,T,F,F,F] rfl rfl HT_.out HW_.out hHeld ?_
                 refine tU6 6 (some 109) #[T,T,T,T,T,T,T,T,T,T,F,F,T,T,F,F,F] rfl rfl HT_.out HW_.out hHeld ?_
                 refine tU6 10 (some 113) #[T,T,T,T,T,T,T,T,T,T,T,F,T,T,F,F,F] rfl rfl HT_.out HW_.out hHeld ?_
                 refine one_ (i := 11) (N := some 114) #[T,T,T,T,T,T,T,T,T,T,T,T,T,T,F,F,F] rfl rfl (one_of HT_.out (by kernel_rfl)) (by decide) (fun K hK => ?_)
                 refine goes_ Try.func25 (by kernel_rfl) rfl #[.agg #[.int .i64 t593, .int .i64 t594, .slice Ao11 t595.length co11, .int .i64 t598], .int .i64 (rd t602 x11_2), .int .i64 (rd t602 x13_31)] (by rfl) rfl rfl (by (try simp only [List.map_toArray, List.map_cons, List.map_nil]); first | done | rfl | (simp only [List.length_drop, List.length_take]; rfl)) ?_
                 with_reducible refine (impl_Fare.calls kj35 t593 t594 _ _ t595 t598 (rd t602 x11_2) (rd t602 x13_31) t619 _ ?side1 ?side2 A46.out).mono ?_
                 (case side1 => repeat (first | exact (Kd.R_reads' HO_607002.out).2.2 | (with_reducible refine Kd.C_alloc ?_ _) | (with_reducible refine Kd.C_drewN ?_ _) | (with_reducible refine Kd.C_drew ?_)))
                 (case side2 => exact (Kd.R_reads' HO_607002.out).2.1)
                 rintro e w49 ⟨rfl, hb⟩
                 have HS4_ := (hb.cell (World.block_lt_of_cell? _ _ (hHeld.2.2.2.2.1))).trans (hHeld.2.2.2.2.1)
                 have HS5_ := (hb.cell (World.block_lt_of_cell? _ _ (hHeld.2.2.2.2.2))).trans (hHeld.2.2.2.2.2)
                 refine ⟨_, rfl, ?_⟩
                 have n0_ := Aside0.mk (Kd.R_below (nR HO_4.out) hb)
                 have n1_ := Aside0.mk (Kd.R_below (nR HO_5.out) hb)
                 have n2_ := Aside0.mk (Kd.R_below (nR HO_8.out) hb)
                 have n3_ := Aside0.mk (Kd.R_below (nR HO_607002.out) hb)
                 have n4_ := Aside0.mk (blk_below (g := gb606) (o := .cells #[.int .i64 t593, .int .i64 t594, .slice Ao11 t595.length co11, .int .i64 t598] 34 (0, 0)) (nB BK606.out) hb)
                 have n5_ := Aside0.mk (below_step (nH1 HB.out GE606.out) hb)
                 clear HO_4; clear HO_5; clear HO_8; clear HO_607002; clear BK606; clear HB; have HO_4 := n0_; have HO_5 := n1_; have HO_8 := n2_; have HO_607002 := n3_; have BK606 := n4_; have HB := n5_; clear n0_ n1_ n2_ n3_ n4_ n5_; (try clear hb); (try clear hb2); (try clear hk); (try clear hi)
                 refine hK.out _ _ ⟨(blk_cell BK606.out 0).trans rfl, (blk_cell BK606.out 1).trans rfl, (blk_cell BK606.out 2).trans rfl, (blk_cell BK606.out 3).trans rfl, HS4_, HS5_⟩ (fun hHeld => ?_)
                 clear hK K
                 refine norm_ (a' := ?_) ?_ ?_
                 rotate_left
                 · show Act.put _ (some 114) _ = _
                   simp only [Act.put, List.setIfInBounds_toArray, List.set_cons_zero, List.set_cons_succ, i64_w, i32_w]
                   rfl
                 refine one_ (i := 14) (N := some 117) #[T,T,T,T,T,T,T,T,T,T,T,T,T,T,T,F,F] rfl rfl (one_of HT_.out (by kernel_rfl)) (by decide) (fun K hK => ?_)
                 refine goes_ Try.func29 (by kernel_rfl) rfl #[.agg #[.int .i64 t593, .int .i64 t594, .slice Ao11 t595.length co11, .int .i64 t598], .int .i64 t619, .slice Ao13 t599.length co13, .int .i64 t605] (by rfl) rfl rfl (by (try simp only [List.map_toArray, List.map_cons, List.map_nil]); first | done | rfl | (simp only [List.length_drop, List.length_take]; rfl)) ?_
                 with_reducible refine (impl_Carded.calls kj35 t593 t594 _ _ t595 t598 t619 _ _ t599 t605 t620 _ ?side1 ?side2 ?side3 ?side4 A47.out).mono ?_
                 (case side1 => repeat (first | exact (Kd.R_reads' HO_607002.out).2.2 | (with_reducible refine Kd.C_alloc ?_ _) | (with_reducible refine Kd.C_drewN ?_ _) | (with_reducible refine Kd.C_drew ?_)))
                 (case side2 => exact (Kd.R_reads' HO_607002.out).2.1)
                 (case side3 => repeat (first | exact (Kd.R_reads' HO_4.out).2.2 | (with_reducible refine Kd.C_alloc ?_ _) | (with_reducible refine Kd.C_drewN ?_ _) | (with_reducible refine Kd.C_drew ?_)))
                 (case side4 => exact (Kd.R_reads' HO_4.out).2.1)
                 rintro e w50 ⟨rfl, hb⟩
                 have HS4_ := (hb.cell (World.block_lt_of_cell? _ _ (hHeld.2.2.2.2.1))).trans (hHeld.2.2.2.2.1)
                 have HS5_ := (hb.cell (World.block_lt_of_cell? _ _ (hHeld.2.2.2.2.2))).trans (hHeld.2.2.2.2.2)
                 refine ⟨_, rfl, ?_⟩
                 have n0_ := Aside0.mk (Kd.R_below (nR HO_4.out) hb)
                 have n1_ := Aside0.mk (Kd.R_below (nR HO_5.out) hb)
                 have n2_ := Aside0.mk (Kd.R_below (nR HO_8.out) hb)
                 have n3_ := Aside0.mk (Kd.R_below (nR HO_607002.out) hb)
                 have n4_ := Aside0.mk (blk_below (g := gb606) (o := .cells #[.int .i64 t593, .int .i64 t594, .slice Ao11 t595.length co11, .int .i64 t598] 34 (0, 0)) (nB BK606.out) hb)
                 have n5_ := Aside0.mk (below_step (nH1 HB.out GE606.out) hb)
                 clear HO_4; clear HO_5; clear HO_8; clear HO_607002; clear BK606; clear HB; have HO_4 := n0_; have HO_5 := n1_; have HO_8 := n2_; have HO_607002 := n3_; have BK606 := n4_; have HB := n5_; clear n0_ n1_ n2_ n3_ n4_ n5_; (try clear hb); (try clear hb2); (try clear hk); (try clear hi)
                 refine hK.out _ _ ⟨(blk_cell BK606.out 0).trans rfl, (blk_cell BK606.out 1).trans rfl, (blk_cell BK606.out 2).trans rfl, (blk_cell BK606.out 3).trans rfl, HS4_, HS5_⟩ (fun hHeld => ?_)
                 clear hK K
                 refine norm_ (a' := ?_) ?_ ?_
                 rotate_left
                 · show Act.put _ (some 117) _ = _
                   simp only [Act.put, List.setIfInBounds_toArray, List.set_cons_zero, List.set_cons_succ, i64_w, i32_w]
                   rfl
                 refine pU 15 (some 118) #[T,T,T,T,T,T,T,T,T,T,T,T,T,T,T,T,F] rfl rfl HT_.out ?_
                 refine pU 16 (some 10) #[T,T,T,T,T,T,T,T,T,T,T,T,T,T,T,T,T] rfl rfl HT_.out ?_
                 refine done_ (done_of HT_.out (by kernel_rfl)) ?_
                 try go_wp2
                 go_roundg kj35
                 case measure => have := HJ6.out; have := HK2.out; have := HJ31.out; have := HJ35.out; omega
                 case rel => exact ⟨(wrap64 (x10_2 + t620)), (x13_31), (wrap64 (x12_2 + 1)), nS, nS, nS, H', ⟨by have := HJ6.out; have := HK2.out; have := HJ31.out; have := HJ35.out; omega⟩, ⟨by (with_reducible repeat (first | apply Kd.R_alloc | apply Kd.R_drewN | apply Kd.R_drew)); exact HO_4.out⟩, ⟨by (with_reducible repeat (first | apply Kd.R_alloc | apply Kd.R_drewN | apply Kd.R_drew)); exact HO_5.out⟩, ⟨by (with_reducible repeat (first | apply Kd.R_alloc | apply Kd.R_drewN | apply Kd.R_drew)); exact HO_8.out⟩, ⟨by (with_reducible repeat (first | apply Kd.R_alloc | apply Kd.R_drewN | apply Kd.R_drew)); exact HO_607002.out⟩, ⟨by (with_reducible repeat (first | refine blk_drewN ?_ _ | refine blk_drew ?_ | refine blk_alloc ?_ _)); exact BK606.out⟩, ⟨nH1 HB.out GE606.out⟩⟩
         · rw [if_neg c31] at H
           have c31b0 : decide (x12_2 ≤ (t608.length : Int)) = false := decide_eq_false c31
           clear c31
           have H' := Aside0.mk H
           clear H
           obtain ⟨Ao51, co51, eo51⟩ := Kd.R_slice HO_8.out
           subst eo51
           go_wp2
           go_loopg [14] k2 (fun kq v14 w' => ∃ (x14_3 : Int), v14 = .int .i64 x14_3 ∧ Aside0 (laws_FnSplit.l1 kq t599 t602 t605 t607 t608 x10_2 x14_3 t593 t594 t595 t598 = some r) ∧ Aside0 (kq ≤ k2) ∧ Aside0 (Kd.R k57 57 w' w.heap.size (fun _ => True) (.slice Ao13 t599.length co13) t599) ∧ Aside0 (Kd.R (Kd.int .i64) 3 w' w.heap.size (fun k_ => some k_ ≠ ((.slice Ao51 t608.length co51) : Value).ownBlock ∧ some k_ ≠ ((.slice Ao11 t595.length co11) : Value).ownBlock) (.slice Ao12 t602.length co12) t602) ∧ Aside0 (Kd.R (Kd.int .i64) 3 w' w.heap.size (fun k_ => some k_ ≠ ((.slice Ao12 t602.length co12) : Value).ownBlock ∧ some k_ ≠ ((.slice Ao11 t595.length co11) : Value).ownBlock) (.slice Ao51 t608.length co51) t608) ∧ Aside0 (Kd.R (Kd.int .i64) 3 w' w.heap.size (fun k_ => some k_ ≠ ((.slice Ao12 t602.length co12) : Value).ownBlock ∧ some k_ ≠ ((.slice Ao51 t608.length co51) : Value).ownBlock) (.slice Ao11 t595.length co11) t595) ∧ Aside0 (w'.heap[gb606]? = some (.cells #[.int .i64 t593, .int .i64 t594, (.slice Ao11 t595.length co11), .int .i64 t598] 34 (0, 0))) ∧ Aside0 (Below w.heap.size w w'))
           case atStart => exact ⟨(1), nS, H', ⟨Nat.le_refl _⟩, ⟨by (with_reducible repeat (first | apply Kd.R_alloc | apply Kd.R_drewN | apply Kd.R_drew)); exact HO_4.out⟩, ⟨by (with_reducible repeat (first | apply Kd.R_alloc | apply Kd.R_drewN | apply Kd.R_drew)); exact HO_5.out⟩, ⟨by (with_reducible repeat (first | apply Kd.R_alloc | apply Kd.R_drewN | apply Kd.R_drew)); exact HO_8.out⟩, ⟨by (with_reducible repeat (first | apply Kd.R_alloc | apply Kd.R_drewN | apply Kd.R_drew)); exact HO_607002.out⟩, ⟨by (with_reducible repeat (first | refine blk_drewN ?_ _ | refine blk_drew ?_ | refine blk_alloc ?_ _)); exact BK606.out⟩, ⟨nH1 HB.out GE606.out⟩⟩
           case round =>
            clear H'
            try clear c1; try clear c2; try clear p2; try clear c3; try clear c4; try clear p6; try clear q6; try clear hx6; try clear qi6; try clear c17; try clear c17b0; try clear c19; try clear c19b0; try clear c21; try clear c21b0; try clear c21b1; try clear c23; try clear c23b0; try clear c24; try clear c24b0; try clear c25; try clear c29; try clear c30; try clear c31; try clear c31b0; try clear c34; try clear c34b0; try clear c35; try clear c35b0; try clear c37; try clear c37b0; try clear c38; try clear c38b0; try clear c39; try clear c39b0; try clear c40; try clear c40b0; try clear c41; try clear c42
            try clear c42b0; try clear c43; try clear c43b0; try clear c44; try clear c44b0; try clear c45; try clear c45b0; try clear hx612_0; try clear hx613_0; try clear hx616_0; try clear hx617_0; try clear hx618_0; try clear p2; try clear p6; try clear p612; try clear p613; try clear p616; try clear p617; try clear p618; try clear q6; try clear q612; try clear q613; try clear q616; try clear q617; try clear q618
            obtain ⟨x14_3, rfl, HA, HK3, HO_4, HO_5, HO_8, HO_607002, BK606, HB⟩ := hrel
            cases gk with
            | zero => exact absurd HA.out (by simp [laws_FnSplit.l1])
            | succ k3 =>
             have H := HA.out; clear HA
             simp only [laws_FnSplit.l1] at H
             by_cases c52 : (wrap64 (x14_3 + 1)) < (t602.length : Int)
             · rw [if_pos c52] at H
               have c52b0 : decide ((wrap64 (x14_3 + 1)) < (t602.length : Int)) = true := decide_eq_true c52
               clear c52
               by_cases c53 : 0 < (t602.length : Int)
               rotate_left
               · (rw [if_neg c53] at H; exact absurd H (by simp))
               rw [if_pos c53] at H
               have c53b0 : decide (0 < (t602.length : Int)) = true := decide_eq_true c53
               have c53b1 : decide (0 < t602.length) = true := decide_eq_true (by omega)
               clear c53
               by_cases c54 : 0 ≤ x14_3
               rotate_left
               · (rw [if_neg c54] at H; exact absurd H (by simp))
               rw [if_pos c54] at H
               have c54b0 : decide (0 ≤ x14_3) = true := decide_eq_true c54
               clear c54
               by_cases c55 : x14_3 < (t602.length : Int)
               rotate_left
               · (rw [if_neg c55] at H; exact absurd H (by simp))
               rw [if_pos c55] at H
               have c55b0 : decide (x14_3 < (t602.length : Int)) = true := decide_eq_true c55
               clear c55
               replace H := Option.bind_eq_some_iff.mp H
               obtain ⟨t628, A560, H⟩ := H
               replace H : ((impl_Carded.f k3 t593 t594 t595 t598 t628 t599 t605).bind fun t629 => (if 0 ≤ (wrap64 ((t602.length : Int) - 1)) then (if (wrap64 ((t602.length : Int) - 1)) < (t602.length : Int) then ((impl_Fare.f k3 t593 t594 t595 t598 (rd t602 x14_3) (rd t602 (wrap64 ((t602.length : Int) - 1)))).bind fun t632 => ((impl_Carded.f k3 t593 t594 t595 t598 t632 t599 t605).bind fun t633 => (if (wrap64 (t629 + t633)) < t607 then (some false) else (laws_FnSplit.l1 k3 t599 t602 t605 t607 t608 x10_2 (wrap64 (x14_3 + 1)) t593 t594 t595 t598)))) else (none)) else (none))) = some r := H
               have A56 := Aside0.mk A560
               clear A560
               replace H := Option.bind_eq_some_iff.mp H
               obtain ⟨t629, A570, H⟩ := H
               replace H : (if 0 ≤ (wrap64 ((t602.length : Int) - 1)) then (if (wrap64 ((t602.length : Int) - 1)) < (t602.length : Int) then ((impl_Fare.f k3 t593 t594 t595 t598 (rd t602 x14_3) (rd t602 (wrap64 ((t602.length : Int) - 1)))).bind fun t632 => ((impl_Carded.f k3 t593 t594 t595 t598 t632 t599 t605).bind fun t633 => (if (wrap64 (t629 + t633)) < t607 then (some false) else (laws_FnSplit.l1 k3 t599 t602 t605 t607 t608 x10_2 (wrap64 (x14_3 + 1)) t593 t594 t595 t598)))) else (none)) else (none)) = some r := H
               have A57 := Aside0.mk A570
               clear A570
               obtain ⟨ji58, hji58⟩ : ∃ j_ : Int, (wrap64 ((t602.length : Int) - 1)) = j_ := ⟨_, rfl⟩
               replace H : (if 0 ≤ (ji58) then (if (ji58) < (t602.length : Int) then ((impl_Fare.f k3 t593 t594 t595 t598 (rd t602 x14_3) (rd t602 (ji58))).bind fun t632 => ((impl_Carded.f k3 t593 t594 t595 t598 t632 t599 t605).bind fun t633 => (if (wrap64 (t629 + t633)) < t607 then (some false) else (laws_FnSplit.l1 k3 t599 t602 t605 t607 t608 x10_2 (wrap64 (x14_3 + 1)) t593 t594 t595 t598)))) else (none)) else (none)) = some r := by first | (rw [hji58] at H; exact H) | (simp only [hji58] at H ⊢; exact H)
               (try rw [hji58] at A56)
               (try rw [hji58] at A57)
               have hji58w : (IntKind.i64.wrap ((t602.length : Int) - 1)) = ji58 := (i64_w _).trans hji58
               by_cases c59 : 0 ≤ (ji58)
               rotate_left
               · (rw [if_neg c59] at H; exact absurd H (by simp))
               rw [if_pos c59] at H
               have c59b0 : decide (0 ≤ (ji58)) = true := decide_eq_true c59
               clear c59
               by_cases c60 : (ji58) < (t602.length : Int)
               rotate_left
               · (rw [if_neg c60] at H; exact absurd H (by simp))
               rw [if_pos c60] at H
               have c60b0 : decide ((ji58) < (t602.length : Int)) = true := decide_eq_true c60
               clear c60
               replace H := Option.bind_eq_some_iff.mp H
               obtain ⟨t632, A610, H⟩ := H
               replace H : ((impl_Carded.f k3 t593 t594 t595 t598 t632 t599 t605).bind fun t633 => (if (wrap64 (t629 + t633)) < t607 then (some false) else (laws_FnSplit.l1 k3 t599 t602 t605 t607 t608 x10_2 (wrap64 (x14_3 + 1)) t593 t594 t595 t598))) = some r := H
               have A61 := Aside0.mk A610
               clear A610
               replace H := Option.bind_eq_some_iff.mp H
               obtain ⟨t633, A620, H⟩ := H
               replace H : (if (wrap64 (t629 + t633)) < t607 then (some false) else (laws_FnSplit.l1 k3 t599 t602 t605 t607 t608 x10_2 (wrap64 (x14_3 + 1)) t593 t594 t595 t598)) = some r := H
               have A62 := Aside0.mk A620
               clear A620
               by_cases c63 : (wrap64 (t629 + t633)) < t607
               · rw [if_pos c63] at H
                 have c63b0 : decide ((wrap64 (t629 + t633)) < t607) = true := decide_eq_true c63
                 clear c63
                 exact absurd ((Option.some.inj H).trans ht.out) (by decide)
               · rw [if_neg c63] at H
                 have c63b0 : decide ((wrap64 (t629 + t633)) < t607) = false := decide_eq_false c63
                 clear c63
                 have H' := Aside0.mk H
                 clear H
                 try go_wp2
                 have n0_ := Aside0.mk (Kd.R_drew HO_4.out)
                 have n1_ := Aside0.mk (Kd.R_drew HO_5.out)
                 have n2_ := Aside0.mk (Kd.R_drew HO_8.out)
                 have n3_ := Aside0.mk (Kd.R_drew HO_607002.out)
                 have n4_ := Aside0.mk (blk_drew BK606.out)
                 have n5_ := Aside0.mk (below_drew1 HB.out)
                 clear HO_4; clear HO_5; clear HO_8; clear HO_607002; clear BK606; clear HB; have HO_4 := n0_; have HO_5 := n1_; have HO_8 := n2_; have HO_607002 := n3_; have BK606 := n4_; have HB := n5_; clear n0_ n1_ n2_ n3_ n4_ n5_
                 have p626 : 0 ≤ (0 : Int) := (by omega)
                 have q626 : 0 < (t602.length : Int) := of_decide_eq_true nQ
                 obtain ⟨ad626, e626, hx626_0⟩ := Kd.at_int (Kd.R_reads' HO_5.out).2.2 0 p626 q626
                 cases e626
                 have qi626 : (0 < t602.length) = True := eq_true (by omega)
                 (try rw [show ((0 : Int)).toNat = 0 from rfl] at hx626_0)
                 (try rw [Addr.add_zero'] at hx626_0)
                 replace p626 := eq_true p626; replace q626 := eq_true q626
                 have p627 : 0 ≤ (x14_3 : Int) := of_decide_eq_true nQ
                 have q627 : x14_3 < (t602.length : Int) := of_decide_eq_true nQ
                 obtain ⟨ad627, e627, hx627_0⟩ := Kd.at_int (Kd.R_reads' HO_5.out).2.2 x14_3 p627 q627
                 obtain rfl : ad626 = ad627 := (by injection e627)
                 replace p627 := eq_true p627; replace q627 := eq_true q627
                 have p630 : 0 ≤ (x14_3 : Int) := of_decide_eq_true nQ
                 have q630 : x14_3 < (t602.length : Int) := of_decide_eq_true nQ
                 obtain ⟨ad630, e630, hx630_0⟩ := Kd.at_int (Kd.R_reads' HO_5.out).2.2 x14_3 p630 q630
                 obtain rfl : ad626 = ad630 := (by injection e630)
                 replace p630 := eq_true p630; replace q630 := eq_true q630
                 have p631 : 0 ≤ ((ji58) : Int) := of_decide_eq_true nQ
                 have q631 : (ji58) < (t602.length : Int) := of_decide_eq_true nQ
                 obtain ⟨ad631, e631, hx631_0⟩ := Kd.at_int (Kd.R_reads' HO_5.out).2.2 (ji58) p631 q631
                 obtain rfl : ad626 = ad631 := (by injection e631)
                 replace p631 := eq_true p631; replace q631 := eq_true q631
                 refine start_ (n := 31) (S := fun w' => w'.cell? ⟨gb606, 0, none⟩ = some (.int .i64 t593) ∧ w'.cell? ⟨gb606, 1, none⟩ = some (.int .i64 t594) ∧ w'.cell? ⟨gb606, 2, none⟩ = some (.slice Ao11 t595.length co11) ∧ w'.cell? ⟨gb606, 3, none⟩ = some (.int .i64 t598) ∧ w'.cell? ad626 = some (.int .i64 (rd t602 0)) ∧ w'.cell? (ad626.add (x14_3).toNat) = some (.int .i64 (rd t602 x14_3)) ∧ w'.cell? (ad626.add (x14_3).toNat) = some (.int .i64 (rd t602 x14_3)) ∧ w'.cell? (ad626.add ((ji58)).toNat) = some (.int .i64 (rd t602 (ji58)))) (ds := []) #[F,F,F,F,F,F,F,F,F,F,F,F,F,F,F,F,F,F,F,F,F,F,F,F,F,F,F,F,F,F,F] (by kernel_rfl) rfl rfl ⟨(blk_cell BK606.out 0).trans rfl, (blk_cell BK606.out 1).trans rfl, (blk_cell BK606.out 2).trans rfl, (blk_cell BK606.out 3).trans rfl, hx626_0, hx627_0, hx630_0, hx631_0⟩ (fun hHeld => ?_); refine with_tabW laws_FnSplit.tab22 laws_FnSplit.bits22 (fun HT_ HW_ => ?_)
                 generalize wr.drew = w64 at HO_4 HO_5 HO_8 HO_607002 BK606 HB hx626_0 hx627_0 hx630_0 hx631_0 hHeld ⊢
                 refine pU 2 (some 129) #[F,F,T,F,F,F,F,F,F,F,F,F,F,F,F,F,F,F,F,F,F,F,F,F,F,F,F,F,F,F,F] rfl rfl HT_.out ?_
                 refine pU 3 (some 130) #[F,F,T,T,F,F,F,F,F,F,F,F,F,F,F,F,F,F,F,F,F,F,F,F,F,F,F,F,F,F,F] rfl rfl HT_.out ?_
                 refine pU 5 (some 132) #[F,F,T,T,F,T,F,F,F,F,F,F,F,F,F,F,F,F,F,F,F,F,F,F,F,F,F,F,F,F,F] rfl rfl HT_.out ?_
                 refine pU 6 (some 133) #[F,F,T,T,F,T,T,F,F,F,F,F,F,F,F,F,F,F,F,F,F,F,F,F,F,F,F,F,F,F,F] rfl rfl HT_.out ?_
                 refine pU 7 (some 134) #[F,F,T,T,F,T,T,T,F,F,F,F,F,F,F,F,F,F,F,F,F,F,F,F,F,F,F,F,F,F,F] rfl rfl HT_.out ?_
                 refine pU 10 (some 137) #[F,F,T,T,F,T,T,T,F,F,T,F,F,F,F,F,F,F,F,F,F,F,F,F,F,F,F,F,F,F,F] rfl rfl HT_.out ?_
                 refine pU 11 (some 138) #[F,F,T,T,F,T,T,T,F,F,T,T,F,F,F,F,F,F,F,F,F,F,F,F,F,F,F,F,F,F,F] rfl rfl HT_.out ?_
                 refine pU 15 (some 142) #[F,F,T,T,F,T,T,T,F,F,T,T,F,F,F,T,F,F,F,F,F,F,F,F,F,F,F,F,F,F,F] rfl rfl HT_.out ?_
                 refine pU 16 (some 143) #[F,F,T,T,F,T,T,T,F,F,T,T,F,F,F,T,T,F,F,F,F,F,F,F,F,F,F,F,F,F,F] rfl rfl HT_.out ?_
                 refine pU 17 (some 144) #[F,F,T,T,F,T,T,T,F,F,T,T,F,F,F,T,T,T,F,F,F,F,F,F,F,F,F,F,F,F,F] rfl rfl HT_.out ?_
                 refine pU 19 (some 146) #[F,F,T,T,F,T,T,T,F,F,T,T,F,F,F,T,T,T,F,T,F,F,F,F,F,F,F,F,F,F,F] rfl rfl HT_.out ?_
                 refine pU 20 (some 147) #[F,F,T,T,F,T,T,T,F,F,T,T,F,F,F,T,T,T,F,T,T,F,F,F,F,F,F,F,F,F,F] rfl rfl HT_.out ?_
                 refine pU 21 (some 148) #[F,F,T,T,F,T,T,T,F,F,T,T,F,F,F,T,T,T,F,T,T,T,F,F,F,F,F,F,F,F,F] rfl rfl HT_.out ?_
                 refine pU 22 (some 149) #[F,F,T,T,F,T,T,T,F,F,T,T,F,F,F,T,T,T,F,T,T,T,T,F,F,F,F,F,F,F,F] rfl rfl HT_.out ?_
                 refine pU 23 (some 150) #[F,F,T,T,F,T,T,T,F,F,T,T,F,F,F,T,T,T,F,T,T,T,T,T,F,F,F,F,F,F,F] rfl rfl HT_.out ?_
                 refine pU 26 (some 153) #[F,F,T,T,F,T,T,T,F,F,T,T,F,F,F,T,T,T,F,T,T,T,T,T,F,F,T,F,F,F,F] rfl rfl HT_.out ?_
                 refine pU 27 (some 154) #[F,F,T,T,F,T,T,T,F,F,T,T,F,F,F,T,T,T,F,T,T,T,T,T,F,F,T,T,F,F,F] rfl rfl HT_.out ?_
                 refine tU8 0 (some 127) #[T,F,T,T,F,T,T,T,F,F,T,T,F,F,F,T,T,T,F,T,T,T,T,T,F,F,T,T,F,F,F] rfl rfl HT_.out HW_.out hHeld ?_
                 refine tU8 1 (some 128) #[T,T,T,T,F,T,T,T,F,F,T,T,F,F,F,T,T,T,F,T,T,T,T,T,F,F,T,T,F,F,F] rfl rfl HT_.out HW_.out hHeld ?_
                 refine tU8 4 (some 131) #[T,T,T,T,T,T,T,T,F,F,T,T,F,F,F,T,T,T,F,T,T,T,T,T,F,F,T,T,F,F,F] rfl rfl HT_.out HW_.out hHeld ?_
                 refine tU8 8 (some 135) #[T,T,T,T,T,T,T,T,T,F,T,T,F,F,F,T,T,T,F,T,T,T,T,T,F,F,T,T,F,F,F] rfl rfl HT_.out HW_.out hHeld ?_
                 refine tU8 13 (some 140) #[T,T,T,T,T,T,T,T,T,F,T,T,F,T,F,T,T,T,F,T,T,T,T,T,F,F,T,T,F,F,F] rfl rfl HT_.out HW_.out hHeld ?_
                 refine tU8 14 (some 141) #[T,T,T,T,T,T,T,T,T,F,T,T,F,T,T,T,T,T,F,T,T,T,T,T,F,F,T,T,F,F,F] rfl rfl HT_.out HW_.out hHeld ?_
                 refine tU8 18 (some 145) #[T,T,T,T,T,T,T,T,T,F,T,T,F,T,T,T,T,T,T,T,T,T,T,T,F,F,T,T,F,F,F] rfl rfl HT_.out HW_.out hHeld ?_
                 refine tU8 24 (some 151) #[T,T,T,T,T,T,T,T,T,F,T,T,F,T,T,T,T,T,T,T,T,T,T,T,T,F,T,T,F,F,F] rfl rfl HT_.out HW_.out hHeld ?_
                 refine one_ (i := 9) (N := some 136) #[T,T,T,T,T,T,T,T,T,T,T,T,F,T,T,T,T,T,T,T,T,T,T,T,T,F,T,T,F,F,F] rfl rfl (one_of HT_.out (by kernel_rfl)) (by decide) (fun K hK => ?_)
                 refine goes_ Try.func25 (by kernel_rfl) rfl #[.agg #[.int .i64 t593, .int .i64 t594, .slice Ao11 t595.length co11, .int .i64 t598], .int .i64 (rd t602 0), .int .i64 (rd t602 x14_3)] (by rfl) rfl rfl (by (try simp only [List.map_toArray, List.map_cons, List.map_nil]); first | done | rfl | (simp only [List.length_drop, List.length_take]; rfl)) ?_
                 with_reducible refine (impl_Fare.calls k3 t593 t594 _ _ t595 t598 (rd t602 0) (rd t602 x14_3) t628 _ ?side1 ?side2 A56.out).mono ?_
                 (case side1 => repeat (first | exact (Kd.R_reads' HO_607002.out).2.2 | (with_reducible refine Kd.C_alloc ?_ _) | (with_reducible refine Kd.C_drewN ?_ _) | (with_reducible refine Kd.C_drew ?_)))
                 (case side2 => exact (Kd.R_reads' HO_607002.out).2.1)
                 rintro e w65 ⟨rfl, hb⟩
                 have HS4_ := (hb.cell (World.block_lt_of_cell? _ _ (hHeld.2.2.2.2.1))).trans (hHeld.2.2.2.2.1)
                 have HS5_ := (hb.cell (World.block_lt_of_cell? _ _ (hHeld.2.2.2.2.2.1))).trans (hHeld.2.2.2.2.2.1)
                 have HS6_ := (hb.cell (World.block_lt_of_cell? _ _ (hHeld.2.2.2.2.2.2.1))).trans (hHeld.2.2.2.2.2.2.1)
                 have HS7_ := (hb.cell (World.block_lt_of_cell? _ _ (hHeld.2.2.2.2.2.2.2))).trans (hHeld.2.2.2.2.2.2.2)
                 refine ⟨_, rfl, ?_⟩
                 have n0_ := Aside0.mk (Kd.R_below (nR HO_4.out) hb)
                 have n1_ := Aside0.mk (Kd.R_below (nR HO_5.out) hb)
                 have n2_ := Aside0.mk (Kd.R_below (nR HO_8.out) hb)
                 have n3_ := Aside0.mk (Kd.R_below (nR HO_607002.out) hb)
                 have n4_ := Aside0.mk (blk_below (g := gb606) (o := .cells #[.int .i64 t593, .int .i64 t594, .slice Ao11 t595.length co11, .int .i64 t598] 34 (0, 0)) (nB BK606.out) hb)
                 have n5_ := Aside0.mk (below_step (nH1 HB.out GE606.out) hb)
                 clear HO_4; clear HO_5; clear HO_8; clear HO_607002; clear BK606; clear HB; have HO_4 := n0_; have HO_5 := n1_; have HO_8 := n2_; have HO_607002 := n3_; have BK606 := n4_; have HB := n5_; clear n0_ n1_ n2_ n3_ n4_ n5_; (try clear hb); (try clear hb2); (try clear hk); (try clear hi)
                 refine hK.out _ _ ⟨(blk_cell BK606.out 0).trans rfl, (blk_cell BK606.out 1).trans rfl, (blk_cell BK606.out 2).trans rfl, (blk_cell BK606.out 3).trans rfl, HS4_, HS5_, HS6_, HS7_⟩ (fun hHeld => ?_)
                 clear hK K
                 refine norm_ (a' := ?_) ?_ ?_
                 rotate_left
                 · show Act.put _ (some 136) _ = _
                   simp only [Act.put, List.setIfInBounds_toArray, List.set_cons_zero, List.set_cons_succ, i64_w, i32_w]
                   rfl
                 refine one_ (i := 12) (N := some 139) #[T,T,T,T,T,T,T,T,T,T,T,T,T,T,T,T,T,T,T,T,T,T,T,T,T,F,T,T,F,F,F] rfl rfl (one_of HT_.out (by kernel_rfl)) (by decide) (fun K hK => ?_)
                 refine goes_ Try.func29 (by kernel_rfl) rfl #[.agg #[.int .i64 t593, .int .i64 t594, .slice Ao11 t595.length co11, .int .i64 t598], .int .i64 t628, .slice Ao13 t599.length co13, .int .i64 t605] (by rfl) rfl rfl (by (try simp only [List.map_toArray, List.map_cons, List.map_nil]); first | done | rfl | (simp only [List.length_drop, List.length_take]; rfl)) ?_
                 with_reducible refine (impl_Carded.calls k3 t593 t594 _ _ t595 t598 t628 _ _ t599 t605 t629 _ ?side1 ?side2 ?side3 ?side4 A57.out).mono ?_
                 (case side1 => repeat (first | exact (Kd.R_reads' HO_607002.out).2.2 | (with_reducible refine Kd.C_alloc ?_ _) | (with_reducible refine Kd.C_drewN ?_ _) | (with_reducible refine Kd.C_drew ?_)))
                 (case side2 => exact (Kd.R_reads' HO_607002.out).2.1)
                 (case side3 => repeat (first | exact (Kd.R_reads' HO_4.out).2.2 | (with_reducible refine Kd.C_alloc ?_ _) | (with_reducible refine Kd.C_drewN ?_ _) | (with_reducible refine Kd.C_drew ?_)))
                 (case side4 => exact (Kd.R_reads' HO_4.out).2.1)
                 rintro e w66 ⟨rfl, hb⟩
                 have HS4_ := (hb.cell (World.block_lt_of_cell? _ _ (hHeld.2.2.2.2.1))).trans (hHeld.2.2.2.2.1)
                 have HS5_ := (hb.cell (World.block_lt_of_cell? _ _ (hHeld.2.2.2.2.2.1))).trans (hHeld.2.2.2.2.2.1)
                 have HS6_ := (hb.cell (World.block_lt_of_cell? _ _ (hHeld.2.2.2.2.2.2.1))).trans (hHeld.2.2.2.2.2.2.1)
                 have HS7_ := (hb.cell (World.block_lt_of_cell? _ _ (hHeld.2.2.2.2.2.2.2))).trans (hHeld.2.2.2.2.2.2.2)
                 refine ⟨_, rfl, ?_⟩
                 have n0_ := Aside0.mk (Kd.R_below (nR HO_4.out) hb)
                 have n1_ := Aside0.mk (Kd.R_below (nR HO_5.out) hb)
                 have n2_ := Aside0.mk (Kd.R_below (nR HO_8.out) hb)
                 have n3_ := Aside0.mk (Kd.R_below (nR HO_607002.out) hb)
                 have n4_ := Aside0.mk (blk_below (g := gb606) (o := .cells #[.int .i64 t593, .int .i64 t594, .slice Ao11 t595.length co11, .int .i64 t598] 34 (0, 0)) (nB BK606.out) hb)
                 have n5_ := Aside0.mk (below_step (nH1 HB.out GE606.out) hb)
                 clear HO_4; clear HO_5; clear HO_8; clear HO_607002; clear BK606; clear HB; have HO_4 := n0_; have HO_5 := n1_; have HO_8 := n2_; have HO_607002 := n3_; have BK606 := n4_; have HB := n5_; clear n0_ n1_ n2_ n3_ n4_ n5_; (try clear hb); (try clear hb2); (try clear hk); (try clear hi)
                 refine hK.out _ _ ⟨(blk_cell BK606.out 0).trans rfl, (blk_cell BK606.out 1).trans rfl, (blk_cell BK606.out 2).trans rfl, (blk_cell BK606.out 3).trans rfl, HS4_, HS5_, HS6_, HS7_⟩ (fun hHeld => ?_)
                 clear hK K
                 refine norm_ (a' := ?_) ?_ ?_
                 rotate_left
                 · show Act.put _ (some 139) _ = _
                   simp only [Act.put, List.setIfInBounds_toArray, List.set_cons_zero, List.set_cons_succ, i64_w, i32_w]
                   rfl
                 refine one_ (i := 25) (N := some 152) #[T,T,T,T,T,T,T,T,T,T,T,T,T,T,T,T,T,T,T,T,T,T,T,T,T,T,T,T,F,F,F] rfl rfl (one_of HT_.out (by kernel_rfl)) (by decide) (fun K hK => ?_)
                 refine goes_ Try.func25 (by kernel_rfl) rfl #[.agg #[.int .i64 t593, .int .i64 t594, .slice Ao11 t595.length co11, .int .i64 t598], .int .i64 (rd t602 x14_3), .int .i64 (rd t602 (ji58))] (by rfl) rfl rfl (by (try simp only [List.map_toArray, List.map_cons, List.map_nil]); first | done | (simp only [hji58]; rfl) | rfl | (simp only [List.length_drop, List.length_take]; rfl)) ?_
                 with_reducible refine (impl_Fare.calls k3 t593 t594 _ _ t595 t598 (rd t602 x14_3) (rd t602 (ji58)) t632 _ ?side1 ?side2 A61.out).mono ?_
                 (case side1 => repeat (first | exact (Kd.R_reads' HO_607002.out).2.2 | (with_reducible refine Kd.C_alloc ?_ _) | (with_reducible refine Kd.C_drewN ?_ _) | (with_reducible refine Kd.C_drew ?_)))
                 (case side2 => exact (Kd.R_reads' HO_607002.out).2.1)
                 rintro e w67 ⟨rfl, hb⟩
                 have HS4_ := (hb.cell (World.block_lt_of_cell? _ _ (hHeld.2.2.2.2.1))).trans (hHeld.2.2.2.2.1)
                 have HS5_ := (hb.cell (World.block_lt_of_cell? _ _ (hHeld.2.2.2.2.2.1))).trans (hHeld.2.2.2.2.2.1)
                 have HS6_ := (hb.cell (World.block_lt_of_cell? _ _ (hHeld.2.2.2.2.2.2.1))).trans (hHeld.2.2.2.2.2.2.1)
                 have HS7_ := (hb.cell (World.block_lt_of_cell? _ _ (hHeld.2.2.2.2.2.2.2))).trans (hHeld.2.2.2.2.2.2.2)
                 refine ⟨_, rfl, ?_⟩
                 have n0_ := Aside0.mk (Kd.R_below (nR HO_4.out) hb)
                 have n1_ := Aside0.mk (Kd.R_below (nR HO_5.out) hb)
                 have n2_ := Aside0.mk (Kd.R_below (nR HO_8.out) hb)
                 have n3_ := Aside0.mk (Kd.R_below (nR HO_607002.out) hb)
                 have n4_ := Aside0.mk (blk_below (g := gb606) (o := .cells #[.int .i64 t593, .int .i64 t594, .slice Ao11 t595.length co11, .int .i64 t598] 34 (0, 0)) (nB BK606.out) hb)
                 have n5_ := Aside0.mk (below_step (nH1 HB.out GE606.out) hb)
                 clear HO_4; clear HO_5; clear HO_8; clear HO_607002; clear BK606; clear HB; have HO_4 := n0_; have HO_5 := n1_; have HO_8 := n2_; have HO_607002 := n3_; have BK606 := n4_; have HB := n5_; clear n0_ n1_ n2_ n3_ n4_ n5_; (try clear hb); (try clear hb2); (try clear hk); (try clear hi)
                 refine hK.out _ _ ⟨(blk_cell BK606.out 0).trans rfl, (blk_cell BK606.out 1).trans rfl, (blk_cell BK606.out 2).trans rfl, (blk_cell BK606.out 3).trans rfl, HS4_, HS5_, HS6_, HS7_⟩ (fun hHeld => ?_)
                 clear hK K
                 refine norm_ (a' := ?_) ?_ ?_
                 rotate_left
                 · show Act.put _ (some 152) _ = _
                   simp only [Act.put, List.setIfInBounds_toArray, List.set_cons_zero, List.set_cons_succ, i64_w, i32_w]
                   rfl
                 refine one_ (i := 28) (N := some 155) #[T,T,T,T,T,T,T,T,T,T,T,T,T,T,T,T,T,T,T,T,T,T,T,T,T,T,T,T,T,F,F] rfl rfl (one_of HT_.out (by kernel_rfl)) (by decide) (fun K hK => ?_)
                 refine goes_ Try.func29 (by kernel_rfl) rfl #[.agg #[.int .i64 t593, .int .i64 t594, .slice Ao11 t595.length co11, .int .i64 t598], .int .i64 t632, .slice Ao13 t599.length co13, .int .i64 t605] (by rfl) rfl rfl (by (try simp only [List.map_toArray, List.map_cons, List.map_nil]); first | done | rfl | (simp only [List.length_drop, List.length_take]; rfl)) ?_
                 with_reducible refine (impl_Carded.calls k3 t593 t594 _ _ t595 t598 t632 _ _ t599 t605 t633 _ ?side1 ?side2 ?side3 ?side4 A62.out).mono ?_
                 (case side1 => repeat (first | exact (Kd.R_reads' HO_607002.out).2.2 | (with_reducible refine Kd.C_alloc ?_ _) | (with_reducible refine Kd.C_drewN ?_ _) | (with_reducible refine Kd.C_drew ?_)))
                 (case side2 => exact (Kd.R_reads' HO_607002.out).2.1)
                 (case side3 => repeat (first | exact (Kd.R_reads' HO_4.out).2.2 | (with_reducible refine Kd.C_alloc ?_ _) | (with_reducible refine Kd.C_drewN ?_ _) | (with_reducible refine Kd.C_drew ?_)))
                 (case side4 => exact (Kd.R_reads' HO_4.out).2.1)
                 rintro e w68 ⟨rfl, hb⟩
                 have HS4_ := (hb.cell (World.block_lt_of_cell? _ _ (hHeld.2.2.2.2.1))).trans (hHeld.2.2.2.2.1)
                 have HS5_ := (hb.cell (World.block_lt_of_cell? _ _ (hHeld.2.2.2.2.2.1))).trans (hHeld.2.2.2.2.2.1)
                 have HS6_ := (hb.cell (World.block_lt_of_cell? _ _ (hHeld.2.2.2.2.2.2.1))).trans (hHeld.2.2.2.2.2.2.1)
                 have HS7_ := (hb.cell (World.block_lt_of_cell? _ _ (hHeld.2.2.2.2.2.2.2))).trans (hHeld.2.2.2.2.2.2.2)
                 refine ⟨_, rfl, ?_⟩
                 have n0_ := Aside0.mk (Kd.R_below (nR HO_4.out) hb)
                 have n1_ := Aside0.mk (Kd.R_below (nR HO_5.out) hb)
                 have n2_ := Aside0.mk (Kd.R_below (nR HO_8.out) hb)
                 have n3_ := Aside0.mk (Kd.R_below (nR HO_607002.out) hb)
                 have n4_ := Aside0.mk (blk_below (g := gb606) (o := .cells #[.int .i64 t593, .int .i64 t594, .slice Ao11 t595.length co11, .int .i64 t598] 34 (0, 0)) (nB BK606.out) hb)
                 have n5_ := Aside0.mk (below_step (nH1 HB.out GE606.out) hb)
                 clear HO_4; clear HO_5; clear HO_8; clear HO_607002; clear BK606; clear HB; have HO_4 := n0_; have HO_5 := n1_; have HO_8 := n2_; have HO_607002 := n3_; have BK606 := n4_; have HB := n5_; clear n0_ n1_ n2_ n3_ n4_ n5_; (try clear hb); (try clear hb2); (try clear hk); (try clear hi)
                 refine hK.out _ _ ⟨(blk_cell BK606.out 0).trans rfl, (blk_cell BK606.out 1).trans rfl, (blk_cell BK606.out 2).trans rfl, (blk_cell BK606.out 3).trans rfl, HS4_, HS5_, HS6_, HS7_⟩ (fun hHeld => ?_)
                 clear hK K
                 refine norm_ (a' := ?_) ?_ ?_
                 rotate_left
                 · show Act.put _ (some 155) _ = _
                   simp only [Act.put, List.setIfInBounds_toArray, List.set_cons_zero, List.set_cons_succ, i64_w, i32_w]
                   rfl
                 refine pU 29 (some 156) #[T,T,T,T,T,T,T,T,T,T,T,T,T,T,T,T,T,T,T,T,T,T,T,T,T,T,T,T,T,T,F] rfl rfl HT_.out ?_
                 refine pU 30 (some 15) #[T,T,T,T,T,T,T,T,T,T,T,T,T,T,T,T,T,T,T,T,T,T,T,T,T,T,T,T,T,T,T] rfl rfl HT_.out ?_
                 refine done_ (done_of HT_.out (by kernel_rfl)) ?_
                 try go_wp2
                 go_roundg k3
                 case measure => have := HJ6.out; have := HK2.out; have := HK3.out; omega
                 case rel => exact ⟨(wrap64 (x14_3 + 1)), nS, H', ⟨by have := HJ6.out; have := HK2.out; have := HK3.out; omega⟩, ⟨by (with_reducible repeat (first | apply Kd.R_alloc | apply Kd.R_drewN | apply Kd.R_drew)); exact HO_4.out⟩, ⟨by (with_reducible repeat (first | apply Kd.R_alloc | apply Kd.R_drewN | apply Kd.R_drew)); exact HO_5.out⟩, ⟨by (with_reducible repeat (first | apply Kd.R_alloc | apply Kd.R_drewN | apply Kd.R_drew)); exact HO_8.out⟩, ⟨by (with_reducible repeat (first | apply Kd.R_alloc | apply Kd.R_drewN | apply Kd.R_drew)); exact HO_607002.out⟩, ⟨by (with_reducible repeat (first | refine blk_drewN ?_ _ | refine blk_drew ?_ | refine blk_alloc ?_ _)); exact BK606.out⟩, ⟨nH1 HB.out GE606.out⟩⟩
             · rw [if_neg c52] at H
               have c52b0 : decide ((wrap64 (x14_3 + 1)) < (t602.length : Int)) = false := decide_eq_false c52
               clear c52
               replace H := Option.bind_eq_some_iff.mp H
               obtain ⟨⟨t621, t622⟩, A690, H⟩ := H
               replace H : (if x10_2 = t607 then (if t621 = t607 then ((laws_sameInts.f k3 t622 t608).bind fun t625 => (some t625)) else (some false)) else (some false)) = some r := H
               have A69 := Aside0.mk A690
               clear A690
               by_cases c70 : x10_2 = t607
               · rw [if_pos c70] at H
                 have c70b0 : (x10_2 == t607) = true := beq_iff_eq.mpr c70
                 have c70b1 : (x10_2 != t607) = false := bne_eq_false_iff_eq.mpr c70
                 clear c70
                 by_cases c71 : t621 = t607
                 · rw [if_pos c71] at H
                   have c71b0 : (t621 == t607) = true := beq_iff_eq.mpr c71
                   have c71b1 : (t621 != t607) = false := bne_eq_false_iff_eq.mpr c71
                   clear c71
                   replace H := Option.bind_eq_some_iff.mp H
                   obtain ⟨t625, A720, H⟩ := H
                   replace H : (some t625) = some r := H
                   have A72 := Aside0.mk A720
                   clear A720; obtain rfl := Option.some.inj H
                   have hcz73_0 : wr.cell? ⟨gb606, 0, none⟩ = some (.int .i64 t593) := (blk_cell BK606.out 0).trans rfl
                   have hcz73_1 : wr.cell? ⟨gb606, 1, none⟩ = some (.int .i64 t594) := (blk_cell BK606.out 1).trans rfl
                   have hcz73_2 : wr.cell? ⟨gb606, 2, none⟩ = some (.slice Ao11 t595.length co11) := (blk_cell BK606.out 2).trans rfl
                   have hcz73_3 : wr.cell? ⟨gb606, 3, none⟩ = some (.int .i64 t598) := (blk_cell BK606.out 3).trans rfl
                   have hfz73_0 := blk_frozen BK606.out 0
                   have hfz73_1 := blk_frozen BK606.out 1
                   have hfz73_2 := blk_frozen BK606.out 2
                   have hfz73_3 := blk_frozen BK606.out 3
                   go_wp2_with (first | ((with_reducible refine gate_callee (f := 36) rfl ?_); refine goesL_ (some 165) rfl rfl Try.func36 (by kernel_rfl) rfl #[.agg #[.int .i64 t593, .int .i64 t594, .slice Ao11 t595.length co11, .int .i64 t598], .slice Ao12 t602.length co12, .slice Ao13 t599.length co13, .int .i64 t605] rfl (by (try simp only [List.map_toArray, List.map_cons, List.map_nil]); first | done | rfl | (simp only [List.length_drop, List.length_take]; rfl)) ?_; (with_reducible refine (spec_Split.calls k3 t593 t594 _ _ t595 t598 _ _ t602 _ _ t599 t605 t621 t622 _ ?side1 ?side2 ?side3 ?side4 ?side5 ?side6 A69.out).mono ?_); (case side1 => repeat (first | exact (Kd.R_reads' HO_607002.out).2.2 | (with_reducible refine Kd.C_alloc ?_ _) | (with_reducible refine Kd.C_drewN ?_ _) | (with_reducible refine Kd.C_drew ?_))); (case side2 => exact (Kd.R_reads' HO_607002.out).2.1); (case side3 => repeat (first | exact (Kd.R_reads' HO_5.out).2.2 | (with_reducible refine Kd.C_alloc ?_ _) | (with_reducible refine Kd.C_drewN ?_ _) | (with_reducible refine Kd.C_drew ?_))); (case side4 => exact (Kd.R_reads' HO_5.out).2.1); (case side5 => repeat (first | exact (Kd.R_reads' HO_4.out).2.2 | (with_reducible refine Kd.C_alloc ?_ _) | (with_reducible refine Kd.C_drewN ?_ _) | (with_reducible refine Kd.C_drew ?_))); (case side6 => exact (Kd.R_reads' HO_4.out).2.1); rintro e w74 ⟨v623, rfl, ho0, hb⟩; refine ⟨_, rfl, ?_⟩; have n0_ := Aside0.mk (Kd.R_below (nR HO_4.out) hb); have n1_ := Aside0.mk (Kd.R_elder' (nR HO_5.out) (Kd.R_base ho0) hb); have n2_ := Aside0.mk (Kd.R_elder' (nR HO_8.out) (Kd.R_base ho0) hb); have n3_ := Aside0.mk (Kd.R_elder' (nR HO_607002.out) (Kd.R_base ho0) hb); have n4_ := Aside0.mk (Kd.R_lower (Kd.R_new' (Kd.R_new' (Kd.R_new' ho0 (Kd.R_lt (nR HO_5.out))) (Kd.R_lt (nR HO_8.out))) (Kd.R_lt (nR HO_607002.out))) (below_size (nH1 HB.out GE606.out))); have n5_ := Aside0.mk (blk_below (g := gb606) (o := .cells #[.int .i64 t593, .int .i64 t594, .slice Ao11 t595.length co11, .int .i64 t598] 34 (0, 0)) (nB BK606.out) hb); have n6_ := Aside0.mk (below_step (nH1 HB.out GE606.out) hb); clear HO_4; clear HO_5; clear HO_8; clear HO_607002; clear BK606; clear HB; have HO_4 := n0_; have HO_5 := n1_; have HO_8 := n2_; have HO_607002 := n3_; have HO624 := n4_; have BK606 := n5_; have HB := n6_; clear n0_ n1_ n2_ n3_ n4_ n5_ n6_; (try clear hb); (try clear hb2); (try clear hk); (try clear hi); (try clear ho0); obtain ⟨Ao75, co75, eo75⟩ := Kd.R_slice HO624.out; subst eo75) | (go_at_call 37; (with_reducible refine (laws_sameInts.calls k3 _ _ t622 _ _ t608 t625 _ ?side1 ?side2 ?side3 ?side4 A72.out).mono ?_); (case side1 => repeat (first | exact (Kd.R_reads' HO624.out).2.2 | (with_reducible refine Kd.C_alloc ?_ _) | (with_reducible refine Kd.C_drewN ?_ _) | (with_reducible refine Kd.C_drew ?_))); (case side2 => exact (Kd.R_reads' HO624.out).2.1); (case side3 => repeat (first | exact (Kd.R_reads' HO_8.out).2.2 | (with_reducible refine Kd.C_alloc ?_ _) | (with_reducible refine Kd.C_drewN ?_ _) | (with_reducible refine Kd.C_drew ?_))); (case side4 => exact (Kd.R_reads' HO_8.out).2.1); rintro e w' ⟨rfl, ⟨nd, rfl⟩⟩))
                   go_ret
                   exact ⟨by first | rfl | (simp [errW_none, errW_some] <;> rfl) | (simp [*, errW_none, errW_some] <;> first | rfl | (simp [wrap64]; done)), nH1 HB.out GE606.out⟩
                 · rw [if_neg c71] at H
                   have c71b0 : (t621 == t607) = false := beq_eq_false_iff_ne.mpr c71
                   have c71b1 : (t621 != t607) = true := bne_iff_ne.mpr c71
                   exact absurd ((Option.some.inj H).trans ht.out) (by decide)
               · rw [if_neg c70] at H
                 have c70b0 : (x10_2 == t607) = false := beq_eq_false_iff_ne.mpr c70
                 have c70b1 : (x10_2 != t607) = true := bne_iff_ne.mpr c70
                 exact absurd ((Option.some.inj H).trans ht.out) (by decide)
/-- THE ONE PURE STATEMENT of laws_FnSplit: yours. -/
theorem laws_FnSplit.walk (P : laws_FnSplit.Pure) (a0 : Option Addr) (len0 cap0 : Nat) (z0 : List Int) (w : World) (w0 : (a0 = none ∧ len0 = 0 ∧ cap0 = 0 ∧ z0 = []) ∨ ∃ x, a0 = some x ∧ len0 ≤ cap0 ∧ cap0 ≤ maxLen ∧ z0.length = cap0 ∧ (∀ i, i < z0.length → w.cell? (x.add i) = some (.int .u8 (z0.getD i 0))) ∧ ∀ n ∈ z0, (Lit.int .u8 n).wf = true) (y0 : len0 * 1 ≤ 140737488351232) :
 Calls Try.prog 10 #[.slice a0 len0 cap0] w fun e w' => e = .returned (.bool true) ∧ Below w.heap.size w w' := by
 obtain ⟨l0, rfl, hr0, hm0, hw0, hc0⟩ := ReadsInt.ofRowC w0
 obtain ⟨k, h⟩ := P l0 hm0 y0 hw0
 refine (laws_FnSplit.calls k _ _ l0 true w (Kd.C_of_reads (d := (0 : Int)) (h1 := fun _ => rfl) hr0) hc0 ⟨rfl⟩ h).mono ?_
 rintro e w' ⟨rfl, hd⟩
 exact ⟨rfl, hd⟩
end Go.Proofs.Ytcihaeggjfpacaa.P
