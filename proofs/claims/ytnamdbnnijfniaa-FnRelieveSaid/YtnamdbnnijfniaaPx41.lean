/- Contracts of the functions of the program, each one with its plain Lean function; written by a program of the session out of the translation. -/
import Derived.Test.YtnamdbnnijfniaaNb
import Derived.Test.YtnamdbnnijfniaaPx0
import Derived.Test.YtnamdbnnijfniaaPx2
import Derived.Test.YtnamdbnnijfniaaPx16
import Derived.Test.YtnamdbnnijfniaaPx28
import Derived.Test.YtnamdbnnijfniaaPx30
import Derived.Test.YtnamdbnnijfniaaPx33
import Derived.Test.YtnamdbnnijfniaaPx38
import Derived.Test.YtnamdbnnijfniaaPx39
import Derived.Test.YtnamdbnnijfniaaPx40
namespace Go.Proofs.Ytnamdbnnijfniaa.P
open Go.RowKit Go.Proofs.YtnamdbnnijfniaaW.PrintWords Go.Proofs.YtnamdbnnijfniaaW.PrintLast Go.Proofs.YtnamdbnnijfniaaW.PrintMore
attribute [local go_sem] max2_int min2_int max_two min_two max_three min_three max_four min_four   -- for this text's walks alone
set_option linter.unusedVariables false
set_option linter.unusedSimpArgs false
/-! ### laws_FnRelieve: function 9 -/
theorem laws_FnRelieve.mono_l : ∀ k, (∀ y0 y1 y2 y3 y4 y5 y6 y7 y8, LeO (laws_FnRelieve.j0 k y0 y1 y2 y3 y4 y5 y6 y7 y8) (laws_FnRelieve.j0 (k + 1) y0 y1 y2 y3 y4 y5 y6 y7 y8)) ∧ (∀ y0 y1 y2 y3 y4 y5 y6 y7, LeO (laws_FnRelieve.j1 k y0 y1 y2 y3 y4 y5 y6 y7) (laws_FnRelieve.j1 (k + 1) y0 y1 y2 y3 y4 y5 y6 y7)) ∧ (∀ y0 y1 y2 y3 y4 y5 y6 y7 y8, LeO (laws_FnRelieve.l0 k y0 y1 y2 y3 y4 y5 y6 y7 y8) (laws_FnRelieve.l0 (k + 1) y0 y1 y2 y3 y4 y5 y6 y7 y8)) ∧ (∀ y0 y1 y2 y3 y4 y5 y6 y7 y8 y9, LeO (laws_FnRelieve.j3 k y0 y1 y2 y3 y4 y5 y6 y7 y8 y9) (laws_FnRelieve.j3 (k + 1) y0 y1 y2 y3 y4 y5 y6 y7 y8 y9)) ∧ (∀ y0 y1 y2 y3 y4 y5 y6 y7 y8 y9, LeO (laws_FnRelieve.l1 k y0 y1 y2 y3 y4 y5 y6 y7 y8 y9) (laws_FnRelieve.l1 (k + 1) y0 y1 y2 y3 y4 y5 y6 y7 y8 y9))
 | 0 => ⟨fun _ _ _ _ _ _ _ _ _ r h => by simp [laws_FnRelieve.j0] at h, fun _ _ _ _ _ _ _ _ r h => by simp [laws_FnRelieve.j1] at h, fun _ _ _ _ _ _ _ _ _ r h => by simp [laws_FnRelieve.l0] at h, fun _ _ _ _ _ _ _ _ _ _ r h => by simp [laws_FnRelieve.j3] at h, fun _ _ _ _ _ _ _ _ _ _ r h => by simp [laws_FnRelieve.l1] at h⟩
 | k + 1 => by
  obtain ⟨ih0, ih1, ih2, ih3, ih4⟩ := laws_FnRelieve.mono_l k
  refine ⟨?_, ?_, ?_, ?_, ?_⟩
  · intro y0 y1 y2 y3 y4 y5 y6 y7 y8
    unfold laws_FnRelieve.j0
    repeat' first
    | (with_reducible exact ih0 _ _ _ _ _ _ _ _ _)
    | (with_reducible exact ih1 _ _ _ _ _ _ _ _)
    | (with_reducible exact ih2 _ _ _ _ _ _ _ _ _)
    | (with_reducible exact ih3 _ _ _ _ _ _ _ _ _ _)
    | (with_reducible exact ih4 _ _ _ _ _ _ _ _ _ _)
    | (with_reducible exact impl_Driven.mono _ _ _)
    | (with_reducible exact impl_DutyCode.mono _ _ _ _ _ _ _)
    | (with_reducible exact impl_Relieve.mono _ _ _ _ _ _ _)
    | (with_reducible exact laws_sameInts.mono _ _ _)
    | (with_reducible exact spec_DrawRightChain.mono _ _)
    | (with_reducible exact spec_Relieve.mono _ _ _ _ _ _ _)
    | (with_reducible exact LeO.refl _)
    | (with_reducible exact LeO.none _)
    | (with_reducible refine LeO.ite ?_ ?_)
    | (with_reducible refine LeO.bind ?_ (fun _ => ?_))
    | exact ih0 _ _ _ _ _ _ _ _ _
    | exact ih1 _ _ _ _ _ _ _ _
    | exact ih2 _ _ _ _ _ _ _ _ _
    | exact ih3 _ _ _ _ _ _ _ _ _ _
    | exact ih4 _ _ _ _ _ _ _ _ _ _
    | exact impl_Driven.mono _ _ _
    | exact impl_DutyCode.mono _ _ _ _ _ _ _
    | exact impl_Relieve.mono _ _ _ _ _ _ _
    | exact laws_sameInts.mono _ _ _
    | exact spec_DrawRightChain.mono _ _
    | exact spec_Relieve.mono _ _ _ _ _ _ _
    | exact LeO.none _
    | refine LeO.ite ?_ ?_
    | refine LeO.bind ?_ (fun _ => ?_)
  · intro y0 y1 y2 y3 y4 y5 y6 y7
    unfold laws_FnRelieve.j1
    repeat' first
    | (with_reducible exact ih0 _ _ _ _ _ _ _ _ _)
    | (with_reducible exact ih1 _ _ _ _ _ _ _ _)
    | (with_reducible exact ih2 _ _ _ _ _ _ _ _ _)
    | (with_reducible exact ih3 _ _ _ _ _ _ _ _ _ _)
    | (with_reducible exact ih4 _ _ _ _ _ _ _ _ _ _)
    | (with_reducible exact impl_Driven.mono _ _ _)
    | (with_reducible exact impl_DutyCode.mono _ _ _ _ _ _ _)
    | (with_reducible exact impl_Relieve.mono _ _ _ _ _ _ _)
    | (with_reducible exact laws_sameInts.mono _ _ _)
    | (with_reducible exact spec_DrawRightChain.mono _ _)
    | (with_reducible exact spec_Relieve.mono _ _ _ _ _ _ _)
    | (with_reducible exact LeO.refl _)
    | (with_reducible exact LeO.none _)
    | (with_reducible refine LeO.ite ?_ ?_)
    | (with_reducible refine LeO.bind ?_ (fun _ => ?_))
    | exact ih0 _ _ _ _ _ _ _ _ _
    | exact ih1 _ _ _ _ _ _ _ _
    | exact ih2 _ _ _ _ _ _ _ _ _
    | exact ih3 _ _ _ _ _ _ _ _ _ _
    | exact ih4 _ _ _ _ _ _ _ _ _ _
    | exact impl_Driven.mono _ _ _
    | exact impl_DutyCode.mono _ _ _ _ _ _ _
    | exact impl_Relieve.mono _ _ _ _ _ _ _
    | exact laws_sameInts.mono _ _ _
    | exact spec_DrawRightChain.mono _ _
    | exact spec_Relieve.mono _ _ _ _ _ _ _
    | exact LeO.none _
    | refine LeO.ite ?_ ?_
    | refine LeO.bind ?_ (fun _ => ?_)
  · intro y0 y1 y2 y3 y4 y5 y6 y7 y8
    unfold laws_FnRelieve.l0
    repeat' first
    | (with_reducible exact ih0 _ _ _ _ _ _ _ _ _)
    | (with_reducible exact ih1 _ _ _ _ _ _ _ _)
    | (with_reducible exact ih2 _ _ _ _ _ _ _ _ _)
    | (with_reducible exact ih3 _ _ _ _ _ _ _ _ _ _)
    | (with_reducible exact ih4 _ _ _ _ _ _ _ _ _ _)
    | (with_reducible exact impl_Driven.mono _ _ _)
    | (with_reducible exact impl_DutyCode.mono _ _ _ _ _ _ _)
    | (with_reducible exact impl_Relieve.mono _ _ _ _ _ _ _)
    | (with_reducible exact laws_sameInts.mono _ _ _)
    | (with_reducible exact spec_DrawRightChain.mono _ _)
    | (with_reducible exact spec_Relieve.mono _ _ _ _ _ _ _)
    | (with_reducible exact LeO.refl _)
    | (with_reducible exact LeO.none _)
    | (with_reducible refine LeO.ite ?_ ?_)
    | (with_reducible refine LeO.bind ?_ (fun _ => ?_))
    | exact ih0 _ _ _ _ _ _ _ _ _
    | exact ih1 _ _ _ _ _ _ _ _
    | exact ih2 _ _ _ _ _ _ _ _ _
    | exact ih3 _ _ _ _ _ _ _ _ _ _
    | exact ih4 _ _ _ _ _ _ _ _ _ _
    | exact impl_Driven.mono _ _ _
    | exact impl_DutyCode.mono _ _ _ _ _ _ _
    | exact impl_Relieve.mono _ _ _ _ _ _ _
    | exact laws_sameInts.mono _ _ _
    | exact spec_DrawRightChain.mono _ _
    | exact spec_Relieve.mono _ _ _ _ _ _ _
    | exact LeO.none _
    | refine LeO.ite ?_ ?_
    | refine LeO.bind ?_ (fun _ => ?_)
  · intro y0 y1 y2 y3 y4 y5 y6 y7 y8 y9
    unfold laws_FnRelieve.j3
    repeat' first
    | (with_reducible exact ih0 _ _ _ _ _ _ _ _ _)
    | (with_reducible exact ih1 _ _ _ _ _ _ _ _)
    | (with_reducible exact ih2 _ _ _ _ _ _ _ _ _)
    | (with_reducible exact ih3 _ _ _ _ _ _ _ _ _ _)
    | (with_reducible exact ih4 _ _ _ _ _ _ _ _ _ _)
    | (with_reducible exact impl_Driven.mono _ _ _)
    | (with_reducible exact impl_DutyCode.mono _ _ _ _ _ _ _)
    | (with_reducible exact impl_Relieve.mono _ _ _ _ _ _ _)
    | (with_reducible exact laws_sameInts.mono _ _ _)
    | (with_reducible exact spec_DrawRightChain.mono _ _)
    | (with_reducible exact spec_Relieve.mono _ _ _ _ _ _ _)
    | (with_reducible exact LeO.refl _)
    | (with_reducible exact LeO.none _)
    | (with_reducible refine LeO.ite ?_ ?_)
    | (with_reducible refine LeO.bind ?_ (fun _ => ?_))
    | exact ih0 _ _ _ _ _ _ _ _ _
    | exact ih1 _ _ _ _ _ _ _ _
    | exact ih2 _ _ _ _ _ _ _ _ _
    | exact ih3 _ _ _ _ _ _ _ _ _ _
    | exact ih4 _ _ _ _ _ _ _ _ _ _
    | exact impl_Driven.mono _ _ _
    | exact impl_DutyCode.mono _ _ _ _ _ _ _
    | exact impl_Relieve.mono _ _ _ _ _ _ _
    | exact laws_sameInts.mono _ _ _
    | exact spec_DrawRightChain.mono _ _
    | exact spec_Relieve.mono _ _ _ _ _ _ _
    | exact LeO.none _
    | refine LeO.ite ?_ ?_
    | refine LeO.bind ?_ (fun _ => ?_)
  · intro y0 y1 y2 y3 y4 y5 y6 y7 y8 y9
    unfold laws_FnRelieve.l1
    repeat' first
    | (with_reducible exact ih0 _ _ _ _ _ _ _ _ _)
    | (with_reducible exact ih1 _ _ _ _ _ _ _ _)
    | (with_reducible exact ih2 _ _ _ _ _ _ _ _ _)
    | (with_reducible exact ih3 _ _ _ _ _ _ _ _ _ _)
    | (with_reducible exact ih4 _ _ _ _ _ _ _ _ _ _)
    | (with_reducible exact impl_Driven.mono _ _ _)
    | (with_reducible exact impl_DutyCode.mono _ _ _ _ _ _ _)
    | (with_reducible exact impl_Relieve.mono _ _ _ _ _ _ _)
    | (with_reducible exact laws_sameInts.mono _ _ _)
    | (with_reducible exact spec_DrawRightChain.mono _ _)
    | (with_reducible exact spec_Relieve.mono _ _ _ _ _ _ _)
    | (with_reducible exact LeO.refl _)
    | (with_reducible exact LeO.none _)
    | (with_reducible refine LeO.ite ?_ ?_)
    | (with_reducible refine LeO.bind ?_ (fun _ => ?_))
    | exact ih0 _ _ _ _ _ _ _ _ _
    | exact ih1 _ _ _ _ _ _ _ _
    | exact ih2 _ _ _ _ _ _ _ _ _
    | exact ih3 _ _ _ _ _ _ _ _ _ _
    | exact ih4 _ _ _ _ _ _ _ _ _ _
    | exact impl_Driven.mono _ _ _
    | exact impl_DutyCode.mono _ _ _ _ _ _ _
    | exact impl_Relieve.mono _ _ _ _ _ _ _
    | exact laws_sameInts.mono _ _ _
    | exact spec_DrawRightChain.mono _ _
    | exact spec_Relieve.mono _ _ _ _ _ _ _
    | exact LeO.none _
    | refine LeO.ite ?_ ?_
    | refine LeO.bind ?_ (fun _ => ?_)
theorem laws_FnRelieve.mono : ∀ a0 k, LeO (laws_FnRelieve.f k a0) (laws_FnRelieve.f (k + 1) a0) := by
 intro a0 k
 obtain ⟨ih0, ih1, ih2, ih3, ih4⟩ := laws_FnRelieve.mono_l k
 unfold laws_FnRelieve.f
 repeat' first
  | (with_reducible exact ih0 _ _ _ _ _ _ _ _ _)
  | (with_reducible exact ih1 _ _ _ _ _ _ _ _)
  | (with_reducible exact ih2 _ _ _ _ _ _ _ _ _)
  | (with_reducible exact ih3 _ _ _ _ _ _ _ _ _ _)
  | (with_reducible exact ih4 _ _ _ _ _ _ _ _ _ _)
  | (with_reducible exact impl_Driven.mono _ _ _)
  | (with_reducible exact impl_DutyCode.mono _ _ _ _ _ _ _)
  | (with_reducible exact impl_Relieve.mono _ _ _ _ _ _ _)
  | (with_reducible exact laws_sameInts.mono _ _ _)
  | (with_reducible exact spec_DrawRightChain.mono _ _)
  | (with_reducible exact spec_Relieve.mono _ _ _ _ _ _ _)
  | (with_reducible exact LeO.refl _)
  | (with_reducible exact LeO.none _)
  | (with_reducible refine LeO.ite ?_ ?_)
  | (with_reducible refine LeO.bind ?_ (fun _ => ?_))
  | exact ih0 _ _ _ _ _ _ _ _ _
  | exact ih1 _ _ _ _ _ _ _ _
  | exact ih2 _ _ _ _ _ _ _ _ _
  | exact ih3 _ _ _ _ _ _ _ _ _ _
  | exact ih4 _ _ _ _ _ _ _ _ _ _
  | exact impl_Driven.mono _ _ _
  | exact impl_DutyCode.mono _ _ _ _ _ _ _
  | exact impl_Relieve.mono _ _ _ _ _ _ _
  | exact laws_sameInts.mono _ _ _
  | exact spec_DrawRightChain.mono _ _
  | exact spec_Relieve.mono _ _ _ _ _ _ _
  | exact LeO.none _
  | refine LeO.ite ?_ ?_
  | refine LeO.bind ?_ (fun _ => ?_)
def laws_FnRelieve.T19 : Bool × List (List Nat × List Nat) := (true, [([], []), ([], []), ([], []), ([1, 2], [1, 2]), ([3], [3]), ([0, 4], [0, 4]), ([5], [5]), ([6], [6]), ([6], [6]), ([6], [6]), ([6], [6]), ([9, 10, 6], [6, 9, 10]), ([11, 6], [6, 11]), ([6], [6]), ([8, 12, 13, 6], [6, 8, 12, 13]), ([6], [6]), ([7, 14, 15, 6, 6], [6, 7, 14, 15]), ([16, 6], [6, 16]), ([6, 17], [6, 17])])
def laws_FnRelieve.B19 : List Nat := [0, 0, 0, 6, 14, 31, 63, 127, 127, 127, 127, 1663, 3711, 127, 16255, 127, 65535, 131071, 262143]
theorem laws_FnRelieve.tab19 : rtab .any (opsOf Try.f9 19) = laws_FnRelieve.T19 := by kernel_rfl
theorem laws_FnRelieve.bits19 : waitsOk laws_FnRelieve.T19.2 laws_FnRelieve.B19 = true := by kernel_rfl
def laws_FnRelieve.T26 : Bool × List (List Nat × List Nat) := (true, [([], []), ([], []), ([], []), ([], []), ([2, 3], [2, 3]), ([4], [4]), ([1, 5], [1, 5]), ([6], [6]), ([7], [7]), ([0, 8], [0, 8]), ([], []), ([], []), ([], []), ([11, 12], [11, 12]), ([13], [13]), ([10, 14], [10, 14]), ([15], [15]), ([16], [16]), ([9, 17], [9, 17]), ([18, 0, 1, 2, 3, 4, 5, 6, 7, 8, 9, 10, 11, 12, 13, 14, 15, 16, 17, 18], [0, 18])])
def laws_FnRelieve.B26 : List Nat := [0, 0, 0, 0, 12, 28, 62, 126, 254, 511, 0, 0, 0, 6144, 14336, 31744, 64512, 130048, 262143, 524287]
theorem laws_FnRelieve.tab26 : rtab .any (opsOf Try.f9 26) = laws_FnRelieve.T26 := by kernel_rfl
theorem laws_FnRelieve.bits26 : waitsOk laws_FnRelieve.T26.2 laws_FnRelieve.B26 = true := by kernel_rfl
set_option maxHeartbeats 8000000 in
set_option maxRecDepth 100000 in
theorem laws_FnRelieve.calls (k : Nat) (A0 : Option Addr) (c0 : Nat) (l0 : List Int) (r : Bool) (w : World) (hr0 : Kd.C (Kd.int .u8) w A0 l0.length l0) (hc0 : l0.length ≤ c0) (ht : Aside0 (r = true)) (h : laws_FnRelieve.f k l0 = some r) :
 Calls Try.prog 9 #[.slice A0 l0.length c0] w fun e w' => e = .returned (.bool r) ∧ Below w.heap.size w w' := by
 have hu25 := Try.underlying25
 have HR0 := Aside0.mk hr0
 have HC0 := Aside0.mk hc0
 clear hr0 hc0
 have HB := Aside0.mk (Below.refl w.heap.size w)
 have H : ((laws_big.f l0).bind fun t539 => (if t539 = true then (some true) else ((spec_DrawRightChain.f k l0).bind fun bt540 => ((impl_Relieve.f k bt540.1 bt540.2.1 bt540.2.2.1 bt540.2.2.2.1 bt540.2.2.2.2.1 bt540.2.2.2.2.2).bind fun bt551 => ((spec_Relieve.f k bt540.1 bt540.2.1 bt540.2.2.1 bt540.2.2.2.1 bt540.2.2.2.2.1 bt540.2.2.2.2.2).bind fun bt555 => ((impl_RuleOk.f bt540.2.2.1 bt540.2.2.2.1 bt540.2.2.2.2.1 bt540.2.2.2.2.2).bind fun t559 => (if t559 = true then (if (bt551.2 != bt555.2) = true then (laws_FnRelieve.j0 k bt540.1 bt540.2.1 bt551.1 bt551.2 true bt540.2.2.1 bt540.2.2.2.1 bt540.2.2.2.2.1 bt540.2.2.2.2.2) else ((laws_sameInts.f k bt551.1 bt555.1).bind fun t560 => (laws_FnRelieve.j0 k bt540.1 bt540.2.1 bt551.1 bt551.2 (!t560) bt540.2.2.1 bt540.2.2.2.1 bt540.2.2.2.2.1 bt540.2.2.2.2.2))) else (laws_FnRelieve.j0 k bt540.1 bt540.2.1 bt551.1 bt551.2 true bt540.2.2.1 bt540.2.2.2.1 bt540.2.2.2.2.1 bt540.2.2.2.2.2)))))))) = some r := h
 clear h
 replace H := Option.bind_eq_some_iff.mp H
 obtain ⟨t539, A20, H⟩ := H
 replace H : (if t539 = true then (some true) else ((spec_DrawRightChain.f k l0).bind fun bt540 => ((impl_Relieve.f k bt540.1 bt540.2.1 bt540.2.2.1 bt540.2.2.2.1 bt540.2.2.2.2.1 bt540.2.2.2.2.2).bind fun bt551 => ((spec_Relieve.f k bt540.1 bt540.2.1 bt540.2.2.1 bt540.2.2.2.1 bt540.2.2.2.2.1 bt540.2.2.2.2.2).bind fun bt555 => ((impl_RuleOk.f bt540.2.2.1 bt540.2.2.2.1 bt540.2.2.2.2.1 bt540.2.2.2.2.2).bind fun t559 => (if t559 = true then (if (bt551.2 != bt555.2) = true then (laws_FnRelieve.j0 k bt540.1 bt540.2.1 bt551.1 bt551.2 true bt540.2.2.1 bt540.2.2.2.1 bt540.2.2.2.2.1 bt540.2.2.2.2.2) else ((laws_sameInts.f k bt551.1 bt555.1).bind fun t560 => (laws_FnRelieve.j0 k bt540.1 bt540.2.1 bt551.1 bt551.2 (!t560) bt540.2.2.1 bt540.2.2.2.1 bt540.2.2.2.2.1 bt540.2.2.2.2.2))) else (laws_FnRelieve.j0 k bt540.1 bt540.2.1 bt551.1 bt551.2 true bt540.2.2.1 bt540.2.2.2.1 bt540.2.2.2.2.1 bt540.2.2.2.2.2))))))) = some r := H
 have A2 := Aside0.mk A20
 clear A20
 by_cases c3 : t539 = true
 · subst c3
   have H1 : (some true) = some r := by rw [if_pos rfl] at H; exact H
   clear H; have H := H1; clear H1; obtain rfl := Option.some.inj H
   go_enter Try.func9, Try.ntmps9
   go_wp2_with (first | ((with_reducible refine gate_callee (f := 24) rfl ?_); refine goesL_ (some 16) rfl rfl Try.func24 (by kernel_rfl) rfl #[.slice A0 l0.length c0] rfl (by (try simp only [List.map_toArray, List.map_cons, List.map_nil]); first | done | rfl | (simp only [List.length_drop, List.length_take]; rfl)) ?_; (with_reducible refine (laws_big.calls _ _ l0 true _ ?side1 ?side2 A2.out).mono ?_); (case side1 => repeat (first | exact HR0.out | (with_reducible refine Kd.C_alloc ?_ _) | (with_reducible refine Kd.C_drewN ?_ _) | (with_reducible refine Kd.C_drew ?_))); (case side2 => exact HC0.out); rintro e w' ⟨rfl, ⟨nd, rfl⟩⟩; refine ⟨_, rfl, ?_⟩))
   go_ret
   exact ⟨by first | rfl | (simp [errW_none, errW_some] <;> rfl) | (simp [*, errW_none, errW_some] <;> first | rfl | (simp [wrap64]; done)), nH HB.out⟩
 · replace c3 := Bool.eq_false_iff.mpr c3
   subst c3
   have H1 : ((spec_DrawRightChain.f k l0).bind fun bt540 => ((impl_Relieve.f k bt540.1 bt540.2.1 bt540.2.2.1 bt540.2.2.2.1 bt540.2.2.2.2.1 bt540.2.2.2.2.2).bind fun bt551 => ((spec_Relieve.f k bt540.1 bt540.2.1 bt540.2.2.1 bt540.2.2.2.1 bt540.2.2.2.2.1 bt540.2.2.2.2.2).bind fun bt555 => ((impl_RuleOk.f bt540.2.2.1 bt540.2.2.2.1 bt540.2.2.2.2.1 bt540.2.2.2.2.2).bind fun t559 => (if t559 = true then (if (bt551.2 != bt555.2) = true then (laws_FnRelieve.j0 k bt540.1 bt540.2.1 bt551.1 bt551.2 true bt540.2.2.1 bt540.2.2.2.1 bt540.2.2.2.2.1 bt540.2.2.2.2.2) else ((laws_sameInts.f k bt551.1 bt555.1).bind fun t560 => (laws_FnRelieve.j0 k bt540.1 bt540.2.1 bt551.1 bt551.2 (!t560) bt540.2.2.1 bt540.2.2.2.1 bt540.2.2.2.2.1 bt540.2.2.2.2.2))) else (laws_FnRelieve.j0 k bt540.1 bt540.2.1 bt551.1 bt551.2 true bt540.2.2.1 bt540.2.2.2.1 bt540.2.2.2.2.1 bt540.2.2.2.2.2)))))) = some r := by rw [if_neg (show ¬ (false = true) by decide)] at H; exact H
   clear H; have H := H1; clear H1
   replace H := Option.bind_eq_some_iff.mp H
   obtain ⟨⟨t540, t543, t546, t547, t548, t549⟩, A40, H⟩ := H
   replace H : ((impl_Relieve.f k t540 t543 t546 t547 t548 t549).bind fun bt551 => ((spec_Relieve.f k t540 t543 t546 t547 t548 t549).bind fun bt555 => ((impl_RuleOk.f t546 t547 t548 t549).bind fun t559 => (if t559 = true then (if (bt551.2 != bt555.2) = true then (laws_FnRelieve.j0 k t540 t543 bt551.1 bt551.2 true t546 t547 t548 t549) else ((laws_sameInts.f k bt551.1 bt555.1).bind fun t560 => (laws_FnRelieve.j0 k t540 t543 bt551.1 bt551.2 (!t560) t546 t547 t548 t549))) else (laws_FnRelieve.j0 k t540 t543 bt551.1 bt551.2 true t546 t547 t548 t549))))) = some r := H
   have A4 := Aside0.mk A40
   clear A40
   replace H := Option.bind_eq_some_iff.mp H
   obtain ⟨⟨t551, t554⟩, A50, H⟩ := H
   replace H : ((spec_Relieve.f k t540 t543 t546 t547 t548 t549).bind fun bt555 => ((impl_RuleOk.f t546 t547 t548 t549).bind fun t559 => (if t559 = true then (if (t554 != bt555.2) = true then (laws_FnRelieve.j0 k t540 t543 t551 t554 true t546 t547 t548 t549) else ((laws_sameInts.f k t551 bt555.1).bind fun t560 => (laws_FnRelieve.j0 k t540 t543 t551 t554 (!t560) t546 t547 t548 t549))) else (laws_FnRelieve.j0 k t540 t543 t551 t554 true t546 t547 t548 t549)))) = some r := H
   have A5 := Aside0.mk A50
   clear A50
   replace H := Option.bind_eq_some_iff.mp H
   obtain ⟨⟨t555, t558⟩, A60, H⟩ := H
   replace H : ((impl_RuleOk.f t546 t547 t548 t549).bind fun t559 => (if t559 = true then (if (t554 != t558) = true then (laws_FnRelieve.j0 k t540 t543 t551 t554 true t546 t547 t548 t549) else ((laws_sameInts.f k t551 t555).bind fun t560 => (laws_FnRelieve.j0 k t540 t543 t551 t554 (!t560) t546 t547 t548 t549))) else (laws_FnRelieve.j0 k t540 t543 t551 t554 true t546 t547 t548 t549))) = some r := H
   have A6 := Aside0.mk A60
   clear A60
   have HC7 := Aside0.mk H
   clear H
   go_enter Try.func9, Try.ntmps9
   go_upto_region 6 with (first | ((with_reducible refine gate_callee (f := 24) rfl ?_); refine goesL_ (some 16) rfl rfl Try.func24 (by kernel_rfl) rfl #[.slice A0 l0.length c0] rfl (by (try simp only [List.map_toArray, List.map_cons, List.map_nil]); first | done | rfl | (simp only [List.length_drop, List.length_take]; rfl)) ?_; (with_reducible refine (laws_big.calls _ _ l0 false _ ?side1 ?side2 A2.out).mono ?_); (case side1 => repeat (first | exact HR0.out | (with_reducible refine Kd.C_alloc ?_ _) | (with_reducible refine Kd.C_drewN ?_ _) | (with_reducible refine Kd.C_drew ?_))); (case side2 => exact HC0.out); rintro e w' ⟨rfl, ⟨nd, rfl⟩⟩; refine ⟨_, rfl, ?_⟩) | ((with_reducible refine gate_callee (f := 25) rfl ?_); refine goesL_ (some 19) rfl rfl Try.func25 (by kernel_rfl) rfl #[.slice A0 l0.length c0] rfl (by (try simp only [List.map_toArray, List.map_cons, List.map_nil]); first | done | rfl | (simp only [List.length_drop, List.length_take]; rfl)) ?_; (with_reducible refine (spec_DrawRightChain.calls k _ _ l0 t540 t543 t546 t547 t548 t549 _ ?side1 ?side2 A4.out).mono ?_); (case side1 => repeat (first | exact HR0.out | (with_reducible refine Kd.C_alloc ?_ _) | (with_reducible refine Kd.C_drewN ?_ _) | (with_reducible refine Kd.C_drew ?_))); (case side2 => exact HC0.out); rintro e w8 ⟨v541, v544, rfl, ho0, ho1, hb⟩; refine ⟨_, rfl, ?_⟩; have n0_ := Aside0.mk (Kd.R_lower ho0 (below_size (nH HB.out))); have n1_ := Aside0.mk (Kd.R_lower ho1 (below_size (nH HB.out))); have n2_ := Aside0.mk (below_step (nH HB.out) hb); clear HB; have HO542 := n0_; have HO545 := n1_; have HB := n2_; clear n0_ n1_ n2_; (try clear hb); (try clear hb2); (try clear hk); (try clear hi); (try clear ho0); (try clear ho1)) | ((with_reducible refine gate_dst (N := 5) rfl ?_); (try (refine gate_guard (by rfl) ?_; dsimp only)); refine box_event ?hg (N := 5) ?hd (cs := #[.int .i64 0, .int .i64 0, .int .i64 0, .int .i64 0]) (t := 25) ?hr ?_; (case hd => rfl); (case hg => rfl); (case hr => first | (go_simp; done) | (go_simp; rfl)); intro gb550 hg w9 hbox hb; have n0_ := Aside0.mk (Kd.R_below (nR HO542.out) hb); have n1_ := Aside0.mk (Kd.R_below (nR HO545.out) hb); have n2_ := Aside0.mk (below_step (nH HB.out) hb); have n3_ := Aside0.mk (hbox); have n4_ := Aside0.mk ((by rw [hg]; exact (below_size (nH HB.out)) : w.heap.size ≤ gb550)); have n5_ := Aside0.mk ((by rw [hg]; exact (below_size (nH HB.out)) : w.heap.size ≤ gb550)); clear HO542; clear HO545; clear HB; have HO542 := n0_; have HO545 := n1_; have HB := n2_; have BK550 := n3_; have GW550 := n4_; have GE550 := n5_; clear n0_ n1_ n2_ n3_ n4_ n5_; clear hb hbox hg; have hcz10_0 : w9.cell? ⟨gb550, 0, none⟩ = some (.int .i64 0) := (blk_cell BK550.out 0).trans rfl; have hcz10_1 : w9.cell? ⟨gb550, 1, none⟩ = some (.int .i64 0) := (blk_cell BK550.out 1).trans rfl; have hcz10_2 : w9.cell? ⟨gb550, 2, none⟩ = some (.int .i64 0) := (blk_cell BK550.out 2).trans rfl; have hcz10_3 : w9.cell? ⟨gb550, 3, none⟩ = some (.int .i64 0) := (blk_cell BK550.out 3).trans rfl; have hfz10_0 := blk_frozen BK550.out 0; have hfz10_1 := blk_frozen BK550.out 1; have hfz10_2 := blk_frozen BK550.out 2; have hfz10_3 := blk_frozen BK550.out 3; obtain ⟨Ao11, co11, eo11⟩ := Kd.R_slice HO542.out; subst eo11; obtain ⟨Ao12, co12, eo12⟩ := Kd.R_slice HO545.out; subst eo12) | ((with_reducible refine gate_callee (f := 29) rfl ?_); refine goesL_ (some 27) rfl rfl Try.func29 (by kernel_rfl) rfl #[.slice Ao11 t540.length co11, .slice Ao12 t543.length co12, .agg #[.int .i64 t546, .int .i64 t547, .int .i64 t548, .int .i64 t549]] rfl (by (try simp only [List.map_toArray, List.map_cons, List.map_nil]); first | done | rfl | (simp only [List.length_drop, List.length_take]; rfl)) ?_; (with_reducible refine (impl_Relieve.calls k _ _ t540 _ _ t543 t546 t547 t548 t549 t551 t554 _ ?side1 ?side2 ?side3 ?side4 A5.out).mono ?_); (case side1 => refine (Kd.R_reads' (e := 52) (base := w.heap.size) (ok := fun k_ => True) (n := t540.length) (c := co11) ?_).2.2; exact (by (with_reducible repeat (first | apply Kd.R_alloc | apply Kd.R_drewN | apply Kd.R_drew)); exact (Kd.R_mono (Kd.R_far (p := ⟨gb550, 3, none⟩) (Kd.R_far (p := ⟨gb550, 2, none⟩) (Kd.R_far (p := ⟨gb550, 1, none⟩) (Kd.R_far (p := ⟨gb550, 0, none⟩) (Kd.R_types HO542.out BK550.out (by decide)) (fun _ hk => hk.2) (.int .i64 t546)) (fun _ hk => hk.2) (.int .i64 t547)) (fun _ hk => hk.2) (.int .i64 t548)) (fun _ hk => hk.2) (.int .i64 t549)) (fun _ h_ => h_.1)))); (case side2 => exact (Kd.R_reads' HO542.out).2.1); (case side3 => refine (Kd.R_reads' (e := 3) (base := w.heap.size) (ok := fun k_ => True) (n := t543.length) (c := co12) ?_).2.2; exact (by (with_reducible repeat (first | apply Kd.R_alloc | apply Kd.R_drewN | apply Kd.R_drew)); exact (Kd.R_mono (Kd.R_far (p := ⟨gb550, 3, none⟩) (Kd.R_far (p := ⟨gb550, 2, none⟩) (Kd.R_far (p := ⟨gb550, 1, none⟩) (Kd.R_far (p := ⟨gb550, 0, none⟩) (Kd.R_types HO545.out BK550.out (by decide)) (fun _ hk => hk.2) (.int .i64 t546)) (fun _ hk => hk.2) (.int .i64 t547)) (fun _ hk => hk.2) (.int .i64 t548)) (fun _ hk => hk.2) (.int .i64 t549)) (fun _ h_ => h_.1)))); (case side4 => exact (Kd.R_reads' HO545.out).2.1); rintro e w13 ⟨v552, rfl, ho0, hb⟩; refine ⟨_, rfl, ?_⟩; have n0_ := Aside0.mk (Kd.R_below (by (with_reducible repeat (first | apply Kd.R_alloc | apply Kd.R_drewN | apply Kd.R_drew)); exact (Kd.R_mono (Kd.R_far (p := ⟨gb550, 3, none⟩) (Kd.R_far (p := ⟨gb550, 2, none⟩) (Kd.R_far (p := ⟨gb550, 1, none⟩) (Kd.R_far (p := ⟨gb550, 0, none⟩) (Kd.R_types HO542.out BK550.out (by decide)) (fun _ hk => hk.2) (.int .i64 t546)) (fun _ hk => hk.2) (.int .i64 t547)) (fun _ hk => hk.2) (.int .i64 t548)) (fun _ hk => hk.2) (.int .i64 t549)) (fun _ h_ => h_.1))) hb); have n1_ := Aside0.mk (Kd.R_elder' (by (with_reducible repeat (first | apply Kd.R_alloc | apply Kd.R_drewN | apply Kd.R_drew)); exact (Kd.R_mono (Kd.R_far (p := ⟨gb550, 3, none⟩) (Kd.R_far (p := ⟨gb550, 2, none⟩) (Kd.R_far (p := ⟨gb550, 1, none⟩) (Kd.R_far (p := ⟨gb550, 0, none⟩) (Kd.R_types HO545.out BK550.out (by decide)) (fun _ hk => hk.2) (.int .i64 t546)) (fun _ hk => hk.2) (.int .i64 t547)) (fun _ hk => hk.2) (.int .i64 t548)) (fun _ hk => hk.2) (.int .i64 t549)) (fun _ h_ => h_.1))) (Kd.R_base ho0) hb); have n2_ := Aside0.mk (Kd.R_lower (Kd.R_new' ho0 (Kd.R_lt (by (with_reducible repeat (first | apply Kd.R_alloc | apply Kd.R_drewN | apply Kd.R_drew)); exact (Kd.R_mono (Kd.R_far (p := ⟨gb550, 3, none⟩) (Kd.R_far (p := ⟨gb550, 2, none⟩) (Kd.R_far (p := ⟨gb550, 1, none⟩) (Kd.R_far (p := ⟨gb550, 0, none⟩) (Kd.R_types HO545.out BK550.out (by decide)) (fun _ hk => hk.2) (.int .i64 t546)) (fun _ hk => hk.2) (.int .i64 t547)) (fun _ hk => hk.2) (.int .i64 t548)) (fun _ hk => hk.2) (.int .i64 t549)) (fun _ h_ => h_.1))))) (below_size (nH1 HB.out GE550.out))); have n3_ := Aside0.mk (blk_below (g := gb550) (o := .cells #[.int .i64 t546, .int .i64 t547, .int .i64 t548, .int .i64 t549] 25 (0, 0)) (by (with_reducible repeat (first | refine blk_drewN ?_ _ | refine blk_drew ?_ | refine blk_alloc ?_ _)); refine blk_put (cs := #[.int .i64 t546, .int .i64 t547, .int .i64 t548, .int .i64 0]) ?_ 3 _ rfl; (with_reducible repeat (first | refine blk_drewN ?_ _ | refine blk_drew ?_ | refine blk_alloc ?_ _)); refine blk_put (cs := #[.int .i64 t546, .int .i64 t547, .int .i64 0, .int .i64 0]) ?_ 2 _ rfl; (with_reducible repeat (first | refine blk_drewN ?_ _ | refine blk_drew ?_ | refine blk_alloc ?_ _)); refine blk_put (cs := #[.int .i64 t546, .int .i64 0, .int .i64 0, .int .i64 0]) ?_ 1 _ rfl; (with_reducible repeat (first | refine blk_drewN ?_ _ | refine blk_drew ?_ | refine blk_alloc ?_ _)); refine blk_put (cs := #[.int .i64 0, .int .i64 0, .int .i64 0, .int .i64 0]) ?_ 0 _ rfl; (with_reducible repeat (first | refine blk_drewN ?_ _ | refine blk_drew ?_ | refine blk_alloc ?_ _)); exact BK550.out) hb); have n4_ := Aside0.mk (below_step (nH1 HB.out GE550.out) hb); clear HO542; clear HO545; clear BK550; clear HB; have HO542 := n0_; have HO545 := n1_; have HO553 := n2_; have BK550 := n3_; have HB := n4_; clear n0_ n1_ n2_ n3_ n4_; (try clear hb); (try clear hb2); (try clear hk); (try clear hi); (try clear ho0); have hcz14_0 : w13.cell? ⟨gb550, 0, none⟩ = some (.int .i64 t546) := (blk_cell BK550.out 0).trans rfl; have hcz14_1 : w13.cell? ⟨gb550, 1, none⟩ = some (.int .i64 t547) := (blk_cell BK550.out 1).trans rfl; have hcz14_2 : w13.cell? ⟨gb550, 2, none⟩ = some (.int .i64 t548) := (blk_cell BK550.out 2).trans rfl; have hcz14_3 : w13.cell? ⟨gb550, 3, none⟩ = some (.int .i64 t549) := (blk_cell BK550.out 3).trans rfl; have hfz14_0 := blk_frozen BK550.out 0; have hfz14_1 := blk_frozen BK550.out 1; have hfz14_2 := blk_frozen BK550.out 2; have hfz14_3 := blk_frozen BK550.out 3) | ((with_reducible refine gate_callee (f := 30) rfl ?_); refine goesL_ (some 34) rfl rfl Try.func30 (by kernel_rfl) rfl #[.slice Ao11 t540.length co11, .slice Ao12 t543.length co12, .agg #[.int .i64 t546, .int .i64 t547, .int .i64 t548, .int .i64 t549]] rfl (by (try simp only [List.map_toArray, List.map_cons, List.map_nil]); first | done | rfl | (simp only [List.length_drop, List.length_take]; rfl)) ?_; (with_reducible refine (spec_Relieve.calls k _ _ t540 _ _ t543 t546 t547 t548 t549 t555 t558 _ ?side1 ?side2 ?side3 ?side4 A6.out).mono ?_); (case side1 => repeat (first | exact (Kd.R_reads' HO542.out).2.2 | (with_reducible refine Kd.C_alloc ?_ _) | (with_reducible refine Kd.C_drewN ?_ _) | (with_reducible refine Kd.C_drew ?_))); (case side2 => exact (Kd.R_reads' HO542.out).2.1); (case side3 => repeat (first | exact (Kd.R_reads' HO545.out).2.2 | (with_reducible refine Kd.C_alloc ?_ _) | (with_reducible refine Kd.C_drewN ?_ _) | (with_reducible refine Kd.C_drew ?_))); (case side4 => exact (Kd.R_reads' HO545.out).2.1); rintro e w15 ⟨v556, rfl, ho0, hb⟩; refine ⟨_, rfl, ?_⟩; have n0_ := Aside0.mk (Kd.R_below (nR HO542.out) hb); have n1_ := Aside0.mk (Kd.R_elder' (nR HO545.out) (Kd.R_base ho0) hb); have n2_ := Aside0.mk (Kd.R_elder' (nR HO553.out) (Kd.R_base ho0) hb); have n3_ := Aside0.mk (Kd.R_lower (Kd.R_new' (Kd.R_new' ho0 (Kd.R_lt (nR HO545.out))) (Kd.R_lt (nR HO553.out))) (below_size (nH1 HB.out GE550.out))); have n4_ := Aside0.mk (blk_below (g := gb550) (o := .cells #[.int .i64 t546, .int .i64 t547, .int .i64 t548, .int .i64 t549] 25 (0, 0)) (nB BK550.out) hb); have n5_ := Aside0.mk (below_step (nH1 HB.out GE550.out) hb); clear HO542; clear HO545; clear HO553; clear BK550; clear HB; have HO542 := n0_; have HO545 := n1_; have HO553 := n2_; have HO557 := n3_; have BK550 := n4_; have HB := n5_; clear n0_ n1_ n2_ n3_ n4_ n5_; (try clear hb); (try clear hb2); (try clear hk); (try clear hi); (try clear ho0)))
   (try simp only [Act.put, List.setIfInBounds_toArray, List.set_cons_zero, List.set_cons_succ])
   go_cut [50] (fun v50 wc => ∃ (kq : Nat) (x50_6 : Bool), v50 = .bool x50_6 ∧ Aside0 (laws_FnRelieve.j0 kq t540 t543 t551 t554 x50_6 t546 t547 t548 t549 = some r) ∧ Aside0 (kq ≤ k) ∧ Aside0 (Kd.R k52 52 wc w.heap.size (fun _ => True) (.slice Ao11 t540.length co11) t540) ∧ Aside0 (Kd.R (Kd.int .i64) 3 wc w.heap.size (fun k_ => some k_ ≠ (v552 : Value).ownBlock) (.slice Ao12 t543.length co12) t543) ∧ Aside0 (Kd.R (Kd.int .i64) 3 wc w.heap.size (fun k_ => some k_ ≠ ((.slice Ao12 t543.length co12) : Value).ownBlock) v552 t551) ∧ Aside0 (wc.heap[gb550]? = some (.cells #[.int .i64 t546, .int .i64 t547, .int .i64 t548, .int .i64 t549] 25 (0, 0))) ∧ Aside0 (Below w.heap.size w wc))
   case first =>
    have H := HC7.out; clear HC7
    replace H := Option.bind_eq_some_iff.mp H
    obtain ⟨t559, A160, H⟩ := H
    replace H : (if t559 = true then (if (t554 != t558) = true then (laws_FnRelieve.j0 k t540 t543 t551 t554 true t546 t547 t548 t549) else ((laws_sameInts.f k t551 t555).bind fun t560 => (laws_FnRelieve.j0 k t540 t543 t551 t554 (!t560) t546 t547 t548 t549))) else (laws_FnRelieve.j0 k t540 t543 t551 t554 true t546 t547 t548 t549)) = some r := H
    have A16 := Aside0.mk A160
    clear A160
    by_cases c17 : t559 = true
    · subst c17
      have H1 : (if (t554 != t558) = true then (laws_FnRelieve.j0 k t540 t543 t551 t554 true t546 t547 t548 t549) else ((laws_sameInts.f k t551 t555).bind fun t560 => (laws_FnRelieve.j0 k t540 t543 t551 t554 (!t560) t546 t547 t548 t549))) = some r := by rw [if_pos rfl] at H; exact H
      clear H; have H := H1; clear H1
      by_cases c18 : (t554 != t558) = true
      · rw [if_pos c18] at H
        have c18b0 : (t554 != t558) = true := c18
        (try (have c18b1 : decide (t554 = t558) = false := by simpa using c18))
        (try (have c18b2 : (t554 == t558) = false := by simpa using c18))
        (try (have c18b3 : ¬ (t554 = t558) := by simpa using c18))
        clear c18
        (first | rw [c18b0] | (simp only [i64_w, i32_w]; rw [c18b0]) | skip)
        have H' := Aside0.mk H
        clear H
        have hcz19_0 : w15.cell? ⟨gb550, 0, none⟩ = some (.int .i64 t546) := (blk_cell BK550.out 0).trans rfl
        have hcz19_1 : w15.cell? ⟨gb550, 1, none⟩ = some (.int .i64 t547) := (blk_cell BK550.out 1).trans rfl
        have hcz19_2 : w15.cell? ⟨gb550, 2, none⟩ = some (.int .i64 t548) := (blk_cell BK550.out 2).trans rfl
        have hcz19_3 : w15.cell? ⟨gb550, 3, none⟩ = some (.int .i64 t549) := (blk_cell BK550.out 3).trans rfl
        have hfz19_0 := blk_frozen BK550.out 0
        have hfz19_1 := blk_frozen BK550.out 1
        have hfz19_2 := blk_frozen BK550.out 2
        have hfz19_3 := blk_frozen BK550.out 3
        go_wp2_with (first | ((with_reducible refine gate_callee (f := 12) rfl ?_); refine goesL_ (some 38) rfl rfl Try.func12 (by kernel_rfl) rfl #[.agg #[.int .i64 t546, .int .i64 t547, .int .i64 t548, .int .i64 t549]] rfl (by (try simp only [List.map_toArray, List.map_cons, List.map_nil]); first | done | rfl | (simp only [List.length_drop, List.length_take]; rfl)) ?_; (with_reducible refine (impl_RuleOk.calls t546 t547 t548 t549 true _ A16.out).mono ?_); rintro e w20 ⟨rfl, hb⟩; refine ⟨_, rfl, ?_⟩; have n0_ := Aside0.mk (Kd.R_below (nR HO542.out) hb); have n1_ := Aside0.mk (Kd.R_below (nR HO545.out) hb); have n2_ := Aside0.mk (Kd.R_below (nR HO553.out) hb); have n3_ := Aside0.mk (Kd.R_below (nR HO557.out) hb); have n4_ := Aside0.mk (blk_below (g := gb550) (o := .cells #[.int .i64 t546, .int .i64 t547, .int .i64 t548, .int .i64 t549] 25 (0, 0)) (nB BK550.out) hb); have n5_ := Aside0.mk (below_step (nH1 HB.out GE550.out) hb); clear HO542; clear HO545; clear HO553; clear HO557; clear BK550; clear HB; have HO542 := n0_; have HO545 := n1_; have HO553 := n2_; have HO557 := n3_; have BK550 := n4_; have HB := n5_; clear n0_ n1_ n2_ n3_ n4_ n5_; (try clear hb); (try clear hb2); (try clear hk); (try clear hi)))
        go_meet
        case rel => exact ⟨_, (true), nS, H', ⟨by first | omega | exact Nat.le_refl _⟩, ⟨by (with_reducible repeat (first | apply Kd.R_alloc | apply Kd.R_drewN | apply Kd.R_drew)); exact HO542.out⟩, ⟨by (with_reducible repeat (first | apply Kd.R_alloc | apply Kd.R_drewN | apply Kd.R_drew)); exact Kd.R_mono HO545.out (fun _ hk => hk.1.2)⟩, ⟨by (with_reducible repeat (first | apply Kd.R_alloc | apply Kd.R_drewN | apply Kd.R_drew)); exact Kd.R_mono HO553.out (fun _ hk => hk.1.2)⟩, ⟨by (with_reducible repeat (first | refine blk_drewN ?_ _ | refine blk_drew ?_ | refine blk_alloc ?_ _)); exact BK550.out⟩, ⟨nH1 HB.out GE550.out⟩⟩
      · rw [if_neg c18] at H
        have c18b0 : (t554 != t558) = false := by simpa using c18
        (try (have c18b1 : decide (t554 = t558) = true := by simpa using c18))
        (try (have c18b2 : (t554 == t558) = true := by simpa using c18))
        clear c18
        (first | rw [c18b0] | (simp only [i64_w, i32_w]; rw [c18b0]) | skip)
        replace H := Option.bind_eq_some_iff.mp H
        obtain ⟨t560, A210, H⟩ := H
        replace H : (laws_FnRelieve.j0 k t540 t543 t551 t554 (!t560) t546 t547 t548 t549) = some r := H
        have A21 := Aside0.mk A210
        clear A210
        have H' := Aside0.mk H
        clear H
        have hcz22_0 : w15.cell? ⟨gb550, 0, none⟩ = some (.int .i64 t546) := (blk_cell BK550.out 0).trans rfl
        have hcz22_1 : w15.cell? ⟨gb550, 1, none⟩ = some (.int .i64 t547) := (blk_cell BK550.out 1).trans rfl
        have hcz22_2 : w15.cell? ⟨gb550, 2, none⟩ = some (.int .i64 t548) := (blk_cell BK550.out 2).trans rfl
        have hcz22_3 : w15.cell? ⟨gb550, 3, none⟩ = some (.int .i64 t549) := (blk_cell BK550.out 3).trans rfl
        have hfz22_0 := blk_frozen BK550.out 0
        have hfz22_1 := blk_frozen BK550.out 1
        have hfz22_2 := blk_frozen BK550.out 2
        have hfz22_3 := blk_frozen BK550.out 3
        go_wp2_with (first | ((with_reducible refine gate_callee (f := 12) rfl ?_); refine goesL_ (some 38) rfl rfl Try.func12 (by kernel_rfl) rfl #[.agg #[.int .i64 t546, .int .i64 t547, .int .i64 t548, .int .i64 t549]] rfl (by (try simp only [List.map_toArray, List.map_cons, List.map_nil]); first | done | rfl | (simp only [List.length_drop, List.length_take]; rfl)) ?_; (with_reducible refine (impl_RuleOk.calls t546 t547 t548 t549 true _ A16.out).mono ?_); rintro e w23 ⟨rfl, hb⟩; refine ⟨_, rfl, ?_⟩; have n0_ := Aside0.mk (Kd.R_below (nR HO542.out) hb); have n1_ := Aside0.mk (Kd.R_below (nR HO545.out) hb); have n2_ := Aside0.mk (Kd.R_below (nR HO553.out) hb); have n3_ := Aside0.mk (Kd.R_below (nR HO557.out) hb); have n4_ := Aside0.mk (blk_below (g := gb550) (o := .cells #[.int .i64 t546, .int .i64 t547, .int .i64 t548, .int .i64 t549] 25 (0, 0)) (nB BK550.out) hb); have n5_ := Aside0.mk (below_step (nH1 HB.out GE550.out) hb); clear HO542; clear HO545; clear HO553; clear HO557; clear BK550; clear HB; have HO542 := n0_; have HO545 := n1_; have HO553 := n2_; have HO557 := n3_; have BK550 := n4_; have HB := n5_; clear n0_ n1_ n2_ n3_ n4_ n5_; (try clear hb); (try clear hb2); (try clear hk); (try clear hi); obtain ⟨Ao24, co24, eo24⟩ := Kd.R_slice HO553.out; subst eo24; obtain ⟨Ao25, co25, eo25⟩ := Kd.R_slice HO557.out; subst eo25) | (go_at_call 31; (with_reducible refine (laws_sameInts.calls k _ _ t551 _ _ t555 t560 _ ?side1 ?side2 ?side3 ?side4 A21.out).mono ?_); (case side1 => repeat (first | exact (Kd.R_reads' HO553.out).2.2 | (with_reducible refine Kd.C_alloc ?_ _) | (with_reducible refine Kd.C_drewN ?_ _) | (with_reducible refine Kd.C_drew ?_))); (case side2 => exact (Kd.R_reads' HO553.out).2.1); (case side3 => repeat (first | exact (Kd.R_reads' HO557.out).2.2 | (with_reducible refine Kd.C_alloc ?_ _) | (with_reducible refine Kd.C_drewN ?_ _) | (with_reducible refine Kd.C_drew ?_))); (case side4 => exact (Kd.R_reads' HO557.out).2.1); rintro e w' ⟨rfl, ⟨nd, rfl⟩⟩))
        go_meet
        case rel => exact ⟨_, (!t560), nS, H', ⟨by first | omega | exact Nat.le_refl _⟩, ⟨by (with_reducible repeat (first | apply Kd.R_alloc | apply Kd.R_drewN | apply Kd.R_drew)); exact HO542.out⟩, ⟨by (with_reducible repeat (first | apply Kd.R_alloc | apply Kd.R_drewN | apply Kd.R_drew)); exact Kd.R_mono HO545.out (fun _ hk => hk.1.2)⟩, ⟨by (with_reducible repeat (first | apply Kd.R_alloc | apply Kd.R_drewN | apply Kd.R_drew)); exact Kd.R_mono HO553.out (fun _ hk => hk.1.2)⟩, ⟨by (with_reducible repeat (first | refine blk_drewN ?_ _ | refine blk_drew ?_ | refine blk_alloc ?_ _)); exact BK550.out⟩, ⟨nH1 HB.out GE550.out⟩⟩
    · replace c17 := Bool.eq_false_iff.mpr c17
      subst c17
      have H1 : (laws_FnRelieve.j0 k t540 t543 t551 t554 true t546 t547 t548 t549) = some r := by rw [if_neg (show ¬ (false = true) by decide)] at H; exact H
      clear H; have H := H1; clear H1
      have H' := Aside0.mk H
      clear H
      have hcz26_0 : w15.cell? ⟨gb550, 0, none⟩ = some (.int .i64 t546) := (blk_cell BK550.out 0).trans rfl
      have hcz26_1 : w15.cell? ⟨gb550, 1, none⟩ = some (.int .i64 t547) := (blk_cell BK550.out 1).trans rfl
      have hcz26_2 : w15.cell? ⟨gb550, 2, none⟩ = some (.int .i64 t548) := (blk_cell BK550.out 2).trans rfl
      have hcz26_3 : w15.cell? ⟨gb550, 3, none⟩ = some (.int .i64 t549) := (blk_cell BK550.out 3).trans rfl
      have hfz26_0 := blk_frozen BK550.out 0
      have hfz26_1 := blk_frozen BK550.out 1
      have hfz26_2 := blk_frozen BK550.out 2
      have hfz26_3 := blk_frozen BK550.out 3
      go_wp2_with (first | ((with_reducible refine gate_callee (f := 12) rfl ?_); refine goesL_ (some 38) rfl rfl Try.func12 (by kernel_rfl) rfl #[.agg #[.int .i64 t546, .int .i64 t547, .int .i64 t548, .int .i64 t549]] rfl (by (try simp only [List.map_toArray, List.map_cons, List.map_nil]); first | done | rfl | (simp only [List.length_drop, List.length_take]; rfl)) ?_; (with_reducible refine (impl_RuleOk.calls t546 t547 t548 t549 false _ A16.out).mono ?_); rintro e w27 ⟨rfl, hb⟩; refine ⟨_, rfl, ?_⟩; have n0_ := Aside0.mk (Kd.R_below (nR HO542.out) hb); have n1_ := Aside0.mk (Kd.R_below (nR HO545.out) hb); have n2_ := Aside0.mk (Kd.R_below (nR HO553.out) hb); have n3_ := Aside0.mk (Kd.R_below (nR HO557.out) hb); have n4_ := Aside0.mk (blk_below (g := gb550) (o := .cells #[.int .i64 t546, .int .i64 t547, .int .i64 t548, .int .i64 t549] 25 (0, 0)) (nB BK550.out) hb); have n5_ := Aside0.mk (below_step (nH1 HB.out GE550.out) hb); clear HO542; clear HO545; clear HO553; clear HO557; clear BK550; clear HB; have HO542 := n0_; have HO545 := n1_; have HO553 := n2_; have HO557 := n3_; have BK550 := n4_; have HB := n5_; clear n0_ n1_ n2_ n3_ n4_ n5_; (try clear hb); (try clear hb2); (try clear hk); (try clear hi)))
      go_meet
      case rel => exact ⟨_, (true), nS, H', ⟨by first | omega | exact Nat.le_refl _⟩, ⟨by (with_reducible repeat (first | apply Kd.R_alloc | apply Kd.R_drewN | apply Kd.R_drew)); exact HO542.out⟩, ⟨by (with_reducible repeat (first | apply Kd.R_alloc | apply Kd.R_drewN | apply Kd.R_drew)); exact Kd.R_mono HO545.out (fun _ hk => hk.1.2)⟩, ⟨by (with_reducible repeat (first | apply Kd.R_alloc | apply Kd.R_drewN | apply Kd.R_drew)); exact Kd.R_mono HO553.out (fun _ hk => hk.1.2)⟩, ⟨by (with_reducible repeat (first | refine blk_drewN ?_ _ | refine blk_drew ?_ | refine blk_alloc ?_ _)); exact BK550.out⟩, ⟨nH1 HB.out GE550.out⟩⟩
   case rest =>
    clear HC7; try clear c1; try clear c2; try clear p2; try clear c3; try clear p6; try clear c9; try clear c12; try clear c17; try clear c18; try clear c18b0; try clear c18b1; try clear c18b2; try clear c24; try clear c25; try clear hcz10_0; try clear hcz10_1; try clear hcz10_2; try clear hcz10_3; try clear hcz14_0; try clear hcz14_1; try clear hcz14_2; try clear hcz14_3; try clear hcz19_0; try clear hcz19_1; try clear hcz19_2; try clear hcz19_3; try clear hcz22_0; try clear hcz22_1; try clear hcz22_2; try clear hcz22_3; try clear hcz26_0; try clear hcz26_1; try clear hcz26_2; try clear hcz26_3
    try clear hfz10_0; try clear hfz10_1; try clear hfz10_2; try clear hfz10_3; try clear hfz14_0; try clear hfz14_1; try clear hfz14_2; try clear hfz14_3; try clear hfz19_0; try clear hfz19_1; try clear hfz19_2; try clear hfz19_3; try clear hfz22_0; try clear hfz22_1; try clear hfz22_2; try clear hfz22_3; try clear hfz26_0; try clear hfz26_1; try clear hfz26_2; try clear hfz26_3
    obtain ⟨kq, x50_6, rfl, HA, HJ6, HO_3, HO_4, HO_6, BK550, HB⟩ := hcut
    cases kq with
    | zero => exact absurd HA.out (by simp [laws_FnRelieve.j0])
    | succ kj6 =>
     have H := HA.out; clear HA
     simp only [laws_FnRelieve.j0] at H
     by_cases c28 : x50_6 = true
     · subst c28
       have H1 : (some false) = some r := by rw [if_pos rfl] at H; exact H
       clear H; have H := H1; clear H1
       exact absurd ((Option.some.inj H).trans ht.out) (by decide)
     · replace c28 := Bool.eq_false_iff.mpr c28
       subst c28
       have H1 : (if t554 = true then (if (t551.length : Int) = 0 then (laws_FnRelieve.j1 kj6 t540 t543 t551 true t546 t547 t548 t549) else (if 0 < (t551.length : Int) then (laws_FnRelieve.j1 kj6 t540 t543 t551 ((rd t551 0) != 0) t546 t547 t548 t549) else (none))) else (if (t551.length : Int) = 0 then (if (t543.length : Int) > 12 then (some true) else ((impl_DutyCode.f kj6 t540 t543 t546 t547 t548 t549).bind fun t561 => (some (t561 != 0)))) else (some false))) = some r := by rw [if_neg (show ¬ (false = true) by decide)] at H; exact H
       clear H; have H := H1; clear H1
       by_cases c29 : t554 = true
       · subst c29
         have H1 : (if (t551.length : Int) = 0 then (laws_FnRelieve.j1 kj6 t540 t543 t551 true t546 t547 t548 t549) else (if 0 < (t551.length : Int) then (laws_FnRelieve.j1 kj6 t540 t543 t551 ((rd t551 0) != 0) t546 t547 t548 t549) else (none))) = some r := by rw [if_pos rfl] at H; exact H
         clear H; have H := H1; clear H1
         have HC30 := Aside0.mk H
         clear H
         go_upto_region 10 with (fail)
         go_cut [76] (fun v76 wc => ∃ (kq : Nat) (x76_29 : Bool), v76 = .bool x76_29 ∧ Aside0 (laws_FnRelieve.j1 kq t540 t543 t551 x76_29 t546 t547 t548 t549 = some r) ∧ Aside0 (kq ≤ kj6) ∧ Aside0 (Kd.R k52 52 wc w.heap.size (fun _ => True) (.slice Ao11 t540.length co11) t540) ∧ Aside0 (Kd.R (Kd.int .i64) 3 wc w.heap.size (fun k_ => some k_ ≠ (v552 : Value).ownBlock) (.slice Ao12 t543.length co12) t543) ∧ Aside0 (Kd.R (Kd.int .i64) 3 wc w.heap.size (fun k_ => some k_ ≠ ((.slice Ao12 t543.length co12) : Value).ownBlock) v552 t551) ∧ Aside0 (wc.heap[gb550]? = some (.cells #[.int .i64 t546, .int .i64 t547, .int .i64 t548, .int .i64 t549] 25 (0, 0))) ∧ Aside0 (Below w.heap.size w wc))
         case first =>
          have H := HC30.out; clear HC30
          by_cases c31 : (t551.length : Int) = 0
          · rw [if_pos c31] at H
            have c31b0 : ((t551.length : Int) == 0) = true := beq_iff_eq.mpr c31
            have c31b1 : ((t551.length : Int) != 0) = false := bne_eq_false_iff_eq.mpr c31
            clear c31
            (first | rw [c31b0] | (simp only [i64_w, i32_w]; rw [c31b0]) | skip)
            have H' := Aside0.mk H
            clear H
            obtain ⟨Ao32, co32, eo32⟩ := Kd.R_slice HO_6.out
            subst eo32
            go_wp2
            go_meet
            case rel => exact ⟨_, (true), nS, H', ⟨by have := HJ6.out; first | omega | exact Nat.le_refl _⟩, ⟨by (with_reducible repeat (first | apply Kd.R_alloc | apply Kd.R_drewN | apply Kd.R_drew)); exact HO_3.out⟩, ⟨by (with_reducible repeat (first | apply Kd.R_alloc | apply Kd.R_drewN | apply Kd.R_drew)); exact HO_4.out⟩, ⟨by (with_reducible repeat (first | apply Kd.R_alloc | apply Kd.R_drewN | apply Kd.R_drew)); exact HO_6.out⟩, ⟨by (with_reducible repeat (first | refine blk_drewN ?_ _ | refine blk_drew ?_ | refine blk_alloc ?_ _)); exact BK550.out⟩, ⟨nH1 HB.out GE550.out⟩⟩
          · rw [if_neg c31] at H
            have c31b0 : ((t551.length : Int) == 0) = false := beq_eq_false_iff_ne.mpr c31
            have c31b1 : ((t551.length : Int) != 0) = true := bne_iff_ne.mpr c31
            have c31b2 : ¬ (t551 = []) := fun h_ => c31 (by rw [h_]; rfl)
            (first | rw [c31b0] | (simp only [i64_w, i32_w]; rw [c31b0]) | skip)
            by_cases c33 : 0 < (t551.length : Int)
            rotate_left
            · (rw [if_neg c33] at H; exact absurd H (by simp))
            rw [if_pos c33] at H
            have c33b0 : decide (0 < (t551.length : Int)) = true := decide_eq_true c33
            have c33b1 : decide (0 < t551.length) = true := decide_eq_true (by omega)
            clear c33
            have H' := Aside0.mk H
            clear H
            obtain ⟨Ao34, co34, eo34⟩ := Kd.R_slice HO_6.out
            subst eo34
            have p562 : 0 ≤ (0 : Int) := (by omega)
            have q562 : 0 < (t551.length : Int) := of_decide_eq_true nQ
            obtain ⟨ad562, e562, hx562_0⟩ := Kd.at_int (Kd.R_reads' HO_6.out).2.2 0 p562 q562
            cases e562
            have qi562 : (0 < t551.length) = True := eq_true (by omega)
            (try rw [show ((0 : Int)).toNat = 0 from rfl] at hx562_0)
            (try rw [Addr.add_zero'] at hx562_0)
            replace p562 := eq_true p562; replace q562 := eq_true q562; go_wp2
            go_meet
            case rel => exact ⟨_, (((rd t551 0) != 0)), nS, H', ⟨by have := HJ6.out; first | omega | exact Nat.le_refl _⟩, ⟨by (with_reducible repeat (first | apply Kd.R_alloc | apply Kd.R_drewN | apply Kd.R_drew)); exact HO_3.out⟩, ⟨by (with_reducible repeat (first | apply Kd.R_alloc | apply Kd.R_drewN | apply Kd.R_drew)); exact HO_4.out⟩, ⟨by (with_reducible repeat (first | apply Kd.R_alloc | apply Kd.R_drewN | apply Kd.R_drew)); exact HO_6.out⟩, ⟨by (with_reducible repeat (first | refine blk_drewN ?_ _ | refine blk_drew ?_ | refine blk_alloc ?_ _)); exact BK550.out⟩, ⟨nH1 HB.out GE550.out⟩⟩
         case rest =>
          clear HC30; try clear c1; try clear c2; try clear p2; try clear c3; try clear p5; try clear q5; try clear hx5; try clear qi5; try clear p6; try clear c9; try clear c12; try clear c17; try clear c18; try clear c18b0; try clear c18b1; try clear c18b2; try clear c24; try clear c25; try clear c28; try clear c29; try clear c30; try clear c31; try clear c31b0; try clear c31b1; try clear c31b2; try clear c33; try clear c33b0; try clear c33b1; try clear hcz10_0; try clear hcz10_1; try clear hcz10_2; try clear hcz10_3; try clear hcz14_0; try clear hcz14_1; try clear hcz14_2; try clear hcz14_3
          try clear hcz19_0; try clear hcz19_1; try clear hcz19_2; try clear hcz19_3; try clear hcz22_0; try clear hcz22_1; try clear hcz22_2; try clear hcz22_3; try clear hcz26_0; try clear hcz26_1; try clear hcz26_2; try clear hcz26_3; try clear hfz10_0; try clear hfz10_1; try clear hfz10_2; try clear hfz10_3; try clear hfz14_0; try clear hfz14_1; try clear hfz14_2; try clear hfz14_3; try clear hfz19_0; try clear hfz19_1; try clear hfz19_2; try clear hfz19_3; try clear hfz22_0; try clear hfz22_1; try clear hfz22_2; try clear hfz22_3; try clear hfz26_0; try clear hfz26_1; try clear hfz26_2; try clear hfz26_3
          try clear hx562_0; try clear p2; try clear p562; try clear p6; try clear q562
          obtain ⟨kq, x76_29, rfl, HA, HJ29, HO_3, HO_4, HO_6, BK550, HB⟩ := hcut
          cases kq with
          | zero => exact absurd HA.out (by simp [laws_FnRelieve.j1])
          | succ kj29 =>
           have H := HA.out; clear HA
           simp only [laws_FnRelieve.j1] at H
           by_cases c35 : x76_29 = true
           · subst c35
             have H1 : (some false) = some r := by rw [if_pos rfl] at H; exact H
             clear H; have H := H1; clear H1
             exact absurd ((Option.some.inj H).trans ht.out) (by decide)
           · replace c35 := Bool.eq_false_iff.mpr c35
             subst c35
             have H1 : (laws_FnRelieve.l0 kj29 t540 t543 t551 0 0 t546 t547 t548 t549) = some r := by rw [if_neg (show ¬ (false = true) by decide)] at H; exact H
             clear H; have H := H1; clear H1
             have H' := Aside0.mk H
             clear H; go_wp2
             go_loopg [10, 11] kj29 (fun kq v10 v11 w' => ∃ (x10_3 : Int) (x11_3 : Int), v10 = .int .i64 x10_3 ∧ v11 = .int .i64 x11_3 ∧ Aside0 (laws_FnRelieve.l0 kq t540 t543 t551 x10_3 x11_3 t546 t547 t548 t549 = some r) ∧ Aside0 (kq ≤ kj29) ∧ Aside0 (Kd.R k52 52 w' w.heap.size (fun _ => True) (.slice Ao11 t540.length co11) t540) ∧ Aside0 (Kd.R (Kd.int .i64) 3 w' w.heap.size (fun k_ => some k_ ≠ (v552 : Value).ownBlock) (.slice Ao12 t543.length co12) t543) ∧ Aside0 (Kd.R (Kd.int .i64) 3 w' w.heap.size (fun k_ => some k_ ≠ ((.slice Ao12 t543.length co12) : Value).ownBlock) v552 t551) ∧ Aside0 (w'.heap[gb550]? = some (.cells #[.int .i64 t546, .int .i64 t547, .int .i64 t548, .int .i64 t549] 25 (0, 0))) ∧ Aside0 (Below w.heap.size w w'))
             case atStart => exact ⟨(0), (0), nS, nS, H', ⟨Nat.le_refl _⟩, ⟨by (with_reducible repeat (first | apply Kd.R_alloc | apply Kd.R_drewN | apply Kd.R_drew)); exact HO_3.out⟩, ⟨by (with_reducible repeat (first | apply Kd.R_alloc | apply Kd.R_drewN | apply Kd.R_drew)); exact HO_4.out⟩, ⟨by (with_reducible repeat (first | apply Kd.R_alloc | apply Kd.R_drewN | apply Kd.R_drew)); exact HO_6.out⟩, ⟨by (with_reducible repeat (first | refine blk_drewN ?_ _ | refine blk_drew ?_ | refine blk_alloc ?_ _)); exact BK550.out⟩, ⟨nH1 HB.out GE550.out⟩⟩
             case round =>
              clear H'
              try clear c1; try clear c2; try clear p2; try clear c3; try clear p5; try clear q5; try clear hx5; try clear qi5; try clear p6; try clear c9; try clear c12; try clear c17; try clear c18; try clear c18b0; try clear c18b1; try clear c18b2; try clear c24; try clear c25; try clear c28; try clear c29; try clear c30; try clear c31; try clear c31b0; try clear c31b1; try clear c31b2; try clear c33; try clear c33b0; try clear c33b1; try clear c35; try clear hcz10_0; try clear hcz10_1; try clear hcz10_2; try clear hcz10_3; try clear hcz14_0; try clear hcz14_1; try clear hcz14_2; try clear hcz14_3
              try clear hcz19_0; try clear hcz19_1; try clear hcz19_2; try clear hcz19_3; try clear hcz22_0; try clear hcz22_1; try clear hcz22_2; try clear hcz22_3; try clear hcz26_0; try clear hcz26_1; try clear hcz26_2; try clear hcz26_3; try clear hfz10_0; try clear hfz10_1; try clear hfz10_2; try clear hfz10_3; try clear hfz14_0; try clear hfz14_1; try clear hfz14_2; try clear hfz14_3; try clear hfz19_0; try clear hfz19_1; try clear hfz19_2; try clear hfz19_3; try clear hfz22_0; try clear hfz22_1; try clear hfz22_2; try clear hfz22_3; try clear hfz26_0; try clear hfz26_1; try clear hfz26_2
              try clear hfz26_3; try clear hx562_0; try clear p2; try clear p5; try clear p562; try clear p6; try clear q5; try clear q562
              obtain ⟨x10_3, x11_3, rfl, rfl, HA, HK3, HO_3, HO_4, HO_6, BK550, HB⟩ := hrel
              cases gk with
              | zero => exact absurd HA.out (by simp [laws_FnRelieve.l0])
              | succ k3 =>
               have H := HA.out; clear HA
               simp only [laws_FnRelieve.l0] at H
               by_cases c36 : x11_3 < (t551.length : Int)
               · rw [if_pos c36] at H
                 have c36b0 : decide (x11_3 < (t551.length : Int)) = true := decide_eq_true c36
                 clear c36
                 have HC37 := Aside0.mk H
                 clear H
                 obtain ⟨Ao38, co38, eo38⟩ := Kd.R_slice HO_6.out
                 subst eo38
                 go_upto_if 89 with (fail)
                 go_cut [12] (fun v12 wc => ∃ (kq : Nat) (x12_36 : Int), v12 = .int .i64 x12_36 ∧ Aside0 (laws_FnRelieve.j3 kq t540 t543 t551 x10_3 x11_3 x12_36 t546 t547 t548 t549 = some r) ∧ Aside0 (kq ≤ k3) ∧ Aside0 (Kd.R k52 52 wc w.heap.size (fun _ => True) (.slice Ao11 t540.length co11) t540) ∧ Aside0 (Kd.R (Kd.int .i64) 3 wc w.heap.size (fun k_ => some k_ ≠ ((.slice Ao38 t551.length co38) : Value).ownBlock) (.slice Ao12 t543.length co12) t543) ∧ Aside0 (Kd.R (Kd.int .i64) 3 wc w.heap.size (fun k_ => some k_ ≠ ((.slice Ao12 t543.length co12) : Value).ownBlock) (.slice Ao38 t551.length co38) t551) ∧ Aside0 (wc.heap[gb550]? = some (.cells #[.int .i64 t546, .int .i64 t547, .int .i64 t548, .int .i64 t549] 25 (0, 0))) ∧ Aside0 (Below w.heap.size w wc))
                 case first =>
                  have H := HC37.out; clear HC37
                  by_cases c39 : (wrap64 (x11_3 + 1)) < (t551.length : Int)
                  · rw [if_pos c39] at H
                    have c39b0 : decide ((wrap64 (x11_3 + 1)) < (t551.length : Int)) = true := decide_eq_true c39
                    clear c39
                    (first | rw [c39b0] | (simp only [i64_w, i32_w]; rw [c39b0]) | skip)
                    obtain ⟨ji40, hji40⟩ : ∃ j_ : Int, (wrap64 (x11_3 + 1)) = j_ := ⟨_, rfl⟩
                    replace H : (if 0 ≤ (ji40) then (laws_FnRelieve.j3 k3 t540 t543 t551 x10_3 x11_3 (rd t551 (ji40)) t546 t547 t548 t549) else (none)) = some r := by first | (rw [hji40] at H; exact H) | (simp only [hji40] at H ⊢; exact H)
                    (try rw [hji40] at c39b0)
                    have hji40w : (IntKind.i64.wrap (x11_3 + 1)) = ji40 := (i64_w _).trans hji40
                    by_cases c41 : 0 ≤ (ji40)
                    rotate_left
                    · (rw [if_neg c41] at H; exact absurd H (by simp))
                    rw [if_pos c41] at H
                    have c41b0 : decide (0 ≤ (ji40)) = true := decide_eq_true c41
                    clear c41
                    have H' := Aside0.mk H
                    clear H
                    have p563 : 0 ≤ ((ji40) : Int) := of_decide_eq_true nQ
                    have q563 : (ji40) < (t551.length : Int) := of_decide_eq_true nQ
                    obtain ⟨ad563, e563, hx563_0⟩ := Kd.at_int (Kd.R_reads' HO_6.out).2.2 (ji40) p563 q563
                    cases e563; replace p563 := eq_true p563; replace q563 := eq_true q563; go_wp2
                    go_meet
                    case rel => exact ⟨_, (rd t551 (ji40)), (by first | rfl | (simp; done) | (simp only [← hji40] <;> (first | rfl | simp)) | (simp [*]; done)), H', ⟨by have := HJ6.out; have := HJ29.out; have := HK3.out; first | omega | exact Nat.le_refl _⟩, ⟨by (with_reducible repeat (first | apply Kd.R_alloc | apply Kd.R_drewN | apply Kd.R_drew)); exact HO_3.out⟩, ⟨by (with_reducible repeat (first | apply Kd.R_alloc | apply Kd.R_drewN | apply Kd.R_drew)); exact HO_4.out⟩, ⟨by (with_reducible repeat (first | apply Kd.R_alloc | apply Kd.R_drewN | apply Kd.R_drew)); exact HO_6.out⟩, ⟨by (with_reducible repeat (first | refine blk_drewN ?_ _ | refine blk_drew ?_ | refine blk_alloc ?_ _)); exact BK550.out⟩, ⟨nH1 HB.out GE550.out⟩⟩
                  · rw [if_neg c39] at H
                    have c39b0 : decide ((wrap64 (x11_3 + 1)) < (t551.length : Int)) = false := decide_eq_false c39
                    clear c39
                    (first | rw [c39b0] | (simp only [i64_w, i32_w]; rw [c39b0]) | skip)
                    have H' := Aside0.mk H
                    clear H; go_wp2
                    go_meet
                    case rel => exact ⟨_, ((t543.length : Int)), nS, H', ⟨by have := HJ6.out; have := HJ29.out; have := HK3.out; first | omega | exact Nat.le_refl _⟩, ⟨by (with_reducible repeat (first | apply Kd.R_alloc | apply Kd.R_drewN | apply Kd.R_drew)); exact HO_3.out⟩, ⟨by (with_reducible repeat (first | apply Kd.R_alloc | apply Kd.R_drewN | apply Kd.R_drew)); exact HO_4.out⟩, ⟨by (with_reducible repeat (first | apply Kd.R_alloc | apply Kd.R_drewN | apply Kd.R_drew)); exact HO_6.out⟩, ⟨by (with_reducible repeat (first | refine blk_drewN ?_ _ | refine blk_drew ?_ | refine blk_alloc ?_ _)); exact BK550.out⟩, ⟨nH1 HB.out GE550.out⟩⟩
                 case rest =>
                  clear HC37; try clear c1; try clear c2; try clear p2; try clear c3; try clear c4; try clear p5; try clear q5; try clear hx5; try clear qi5; try clear p6; try clear c9; try clear c12; try clear c17; try clear c18; try clear c18b0; try clear c18b1; try clear c18b2; try clear c24; try clear c25; try clear c28; try clear c29; try clear c30; try clear c31; try clear c31b0; try clear c31b1; try clear c31b2; try clear c33; try clear c33b0; try clear c33b1; try clear c35; try clear c36; try clear c36b0; try clear c39; try clear c39b0; try clear c41; try clear c41b0; try clear hcz10_0
                  try clear hcz10_1; try clear hcz10_2; try clear hcz10_3; try clear hcz14_0; try clear hcz14_1; try clear hcz14_2; try clear hcz14_3; try clear hcz19_0; try clear hcz19_1; try clear hcz19_2; try clear hcz19_3; try clear hcz22_0; try clear hcz22_1; try clear hcz22_2; try clear hcz22_3; try clear hcz26_0; try clear hcz26_1; try clear hcz26_2; try clear hcz26_3; try clear hfz10_0; try clear hfz10_1; try clear hfz10_2; try clear hfz10_3; try clear hfz14_0; try clear hfz14_1; try clear hfz14_2; try clear hfz14_3; try clear hfz19_0; try clear hfz19_1; try clear hfz19_2; try clear hfz19_3
                  try clear hfz22_0; try clear hfz22_1; try clear hfz22_2; try clear hfz22_3; try clear hfz26_0; try clear hfz26_1; try clear hfz26_2; try clear hfz26_3; try clear hx562_0; try clear hx563_0; try clear p2; try clear p5; try clear p562; try clear p563; try clear p6; try clear q5; try clear q562; try clear q563
                  obtain ⟨kq, x12_36, rfl, HA, HJ36, HO_3, HO_4, HO_6, BK550, HB⟩ := hcut
                  cases kq with
                  | zero => exact absurd HA.out (by simp [laws_FnRelieve.j3])
                  | succ kj36 =>
                   have H := HA.out; clear HA
                   simp only [laws_FnRelieve.j3] at H
                   by_cases c42 : 0 ≤ x11_3
                   rotate_left
                   · (rw [if_neg c42] at H; exact absurd H (by simp))
                   rw [if_pos c42] at H
                   have c42b0 : decide (0 ≤ x11_3) = true := decide_eq_true c42
                   clear c42
                   by_cases c43 : x11_3 < (t551.length : Int)
                   rotate_left
                   · (rw [if_neg c43] at H; exact absurd H (by simp))
                   rw [if_pos c43] at H
                   have c43b0 : decide (x11_3 < (t551.length : Int)) = true := decide_eq_true c43
                   clear c43
                   by_cases c44 : x12_36 ≤ (rd t551 x11_3)
                   · rw [if_pos c44] at H
                     have c44b0 : decide (x12_36 ≤ (rd t551 x11_3)) = true := decide_eq_true c44
                     clear c44
                     exact absurd ((Option.some.inj H).trans ht.out) (by decide)
                   · rw [if_neg c44] at H
                     have c44b0 : decide (x12_36 ≤ (rd t551 x11_3)) = false := decide_eq_false c44
                     clear c44
                     by_cases c45 : 0 ≤ (rd t551 x11_3)
                     rotate_left
                     · (rw [if_neg c45] at H; exact absurd H (by simp))
                     rw [if_pos c45] at H
                     have c45b0 := eq_true c45
                     have c45b1 : decide (0 ≤ (rd t551 x11_3)) = true := decide_eq_true c45
                     clear c45
                     by_cases c46 : (rd t551 x11_3) ≤ x12_36
                     rotate_left
                     · (rw [if_neg c46] at H; exact absurd H (by simp))
                     rw [if_pos c46] at H
                     have c46b0 := eq_true c46
                     have c46b1 : decide ((rd t551 x11_3) ≤ x12_36) = true := decide_eq_true c46
                     clear c46
                     by_cases c47 : x12_36 ≤ (t543.length : Int)
                     rotate_left
                     · (rw [if_neg c47] at H; exact absurd H (by simp))
                     rw [if_pos c47] at H
                     have c47b0 := eq_true c47
                     have c47b1 : decide (x12_36 ≤ (t543.length : Int)) = true := decide_eq_true c47
                     clear c47
                     obtain ⟨y566, hy566⟩ : ∃ y_ : List Int, y_ = ((t543.take (x12_36 : Int).toNat).drop ((rd t551 x11_3) : Int).toNat) := ⟨_, rfl⟩
                     replace H : ((impl_DutyCode.f kj36 t540 y566 t546 t547 t548 t549).bind fun t570 => (if t570 = 0 then ((impl_Driven.f kj36 t540 ((t543.take (x12_36 : Int).toNat).drop ((rd t551 x11_3) : Int).toNat)).bind fun t576 => (laws_FnRelieve.l0 kj36 t540 t543 t551 (wrap64 (x10_3 + t576)) (wrap64 (x11_3 + 1)) t546 t547 t548 t549)) else (some false))) = some r := by first | (rw [hy566]; with_reducible exact H) | (have H2_ := (Option.bind_some _ _).symm.trans H; rw [hy566]; with_reducible exact H2_) | (have H2_ := (Option.bind_some _ _).symm.trans H; with_reducible exact H2_) | with_reducible exact H | (rw [hy566]; exact H) | exact H
                     have Ny566 := Aside0.mk hy566
                     clear hy566
                     replace H := Option.bind_eq_some_iff.mp H
                     obtain ⟨t570, A480, H⟩ := H
                     replace H : (if t570 = 0 then ((impl_Driven.f kj36 t540 ((t543.take (x12_36 : Int).toNat).drop ((rd t551 x11_3) : Int).toNat)).bind fun t576 => (laws_FnRelieve.l0 kj36 t540 t543 t551 (wrap64 (x10_3 + t576)) (wrap64 (x11_3 + 1)) t546 t547 t548 t549)) else (some false)) = some r := H
                     have A48 := Aside0.mk A480
                     clear A480
                     by_cases c49 : t570 = 0
                     · rw [if_pos c49] at H
                       have c49b0 : (t570 == 0) = true := beq_iff_eq.mpr c49
                       have c49b1 : (t570 != 0) = false := bne_eq_false_iff_eq.mpr c49
                       clear c49
                       have c50b0 := eq_true (of_decide_eq_true nQ : 0 ≤ (rd t551 x11_3))
                       have c51b0 := eq_true (of_decide_eq_true nQ : (rd t551 x11_3) ≤ x12_36)
                       have c52b0 := eq_true (of_decide_eq_true nQ : x12_36 ≤ (t543.length : Int))
                       obtain ⟨y572, hy572⟩ : ∃ y_ : List Int, y_ = ((t543.take (x12_36 : Int).toNat).drop ((rd t551 x11_3) : Int).toNat) := ⟨_, rfl⟩
                       replace H : ((impl_Driven.f kj36 t540 y572).bind fun t576 => (laws_FnRelieve.l0 kj36 t540 t543 t551 (wrap64 (x10_3 + t576)) (wrap64 (x11_3 + 1)) t546 t547 t548 t549)) = some r := by first | (rw [hy572]; with_reducible exact H) | (have H2_ := (Option.bind_some _ _).symm.trans H; rw [hy572]; with_reducible exact H2_) | (have H2_ := (Option.bind_some _ _).symm.trans H; with_reducible exact H2_) | with_reducible exact H | (rw [hy572]; exact H) | exact H
                       have Ny572 := Aside0.mk hy572
                       clear hy572
                       replace H := Option.bind_eq_some_iff.mp H
                       obtain ⟨t576, A530, H⟩ := H
                       replace H : (laws_FnRelieve.l0 kj36 t540 t543 t551 (wrap64 (x10_3 + t576)) (wrap64 (x11_3 + 1)) t546 t547 t548 t549) = some r := H
                       have A53 := Aside0.mk A530
                       clear A530
                       have H' := Aside0.mk H
                       clear H
                       try go_wp2
                       have n0_ := Aside0.mk (Kd.R_drew HO_3.out)
                       have n1_ := Aside0.mk (Kd.R_drew HO_4.out)
                       have n2_ := Aside0.mk (Kd.R_drew HO_6.out)
                       have n3_ := Aside0.mk (blk_drew BK550.out)
                       have n4_ := Aside0.mk (below_drew1 HB.out)
                       clear HO_3; clear HO_4; clear HO_6; clear BK550; clear HB; have HO_3 := n0_; have HO_4 := n1_; have HO_6 := n2_; have BK550 := n3_; have HB := n4_; clear n0_ n1_ n2_ n3_ n4_
                       have p564 : 0 ≤ (x11_3 : Int) := of_decide_eq_true nQ
                       have q564 : x11_3 < (t551.length : Int) := of_decide_eq_true nQ
                       obtain ⟨ad564, e564, hx564_0⟩ := Kd.at_int (Kd.R_reads' HO_6.out).2.2 x11_3 p564 q564
                       cases e564; replace p564 := eq_true p564; replace q564 := eq_true q564
                       have p565 : 0 ≤ (x11_3 : Int) := of_decide_eq_true nQ
                       have q565 : x11_3 < (t551.length : Int) := of_decide_eq_true nQ
                       obtain ⟨ad565, e565, hx565_0⟩ := Kd.at_int (Kd.R_reads' HO_6.out).2.2 x11_3 p565 q565
                       obtain rfl : ad564 = ad565 := (by injection e565)
                       replace p565 := eq_true p565; replace q565 := eq_true q565
                       have q55 : (x12_36 : Int) ≤ ((t543.length : Int) : Int) := of_decide_eq_true nQ
                       obtain ⟨i055, hi055, _, hsz55, _⟩ := info_parts info3
                       have hroom55 : t543.length ≤ co12 := (Kd.R_reads' HO_4.out).2.1
                       have hC55 : Kd.C (Kd.int .i64) _ Ao12 t543.length t543 := (Kd.R_reads' HO_4.out).2.2
                       have ql55 : ((rd t551 x11_3) : Int) ≤ (x12_36 : Int) := of_decide_eq_true nQ
                       have q055 : (0 : Int) ≤ ((rd t551 x11_3) : Int) := of_decide_eq_true nQ
                       have hcut55 := cut_mid (P := Try.prog) 29 3 .i64 .i64 Try.underlying29 hi055 1 hsz55 Ao12 t543.length co12 (rd t551 x11_3) x12_36 q055 ql55 q55 hroom55
                       have hr55 := Kd.C_mid (lo := ((rd t551 x11_3) : Int).toNat) (hi := (x12_36 : Int).toNat) (c := co12) hC55 (by omega) (by omega) hroom55
                       obtain ⟨A55, hA55⟩ : ∃ A1, A1 = (if co12 = ((rd t551 x11_3) : Int).toNat then Ao12 else (Ao12 : Option Addr).map (·.add (((rd t551 x11_3) : Int).toNat * 1))) := ⟨_, rfl⟩
                       obtain ⟨c55, hc55⟩ : ∃ c1, c1 = co12 - ((rd t551 x11_3) : Int).toNat := ⟨_, rfl⟩
                       have hy55 : y566.length = (x12_36 : Int).toNat - ((rd t551 x11_3) : Int).toNat := (by rw [Ny566.out, List.length_drop, List.length_take] <;> omega)
                       rw [show ((t543).take (x12_36 : Int).toNat).drop ((rd t551 x11_3) : Int).toNat = y566 from Ny566.out.symm] at hr55
                       replace hr55 : Kd.C (Kd.int .i64) _ A55 y566.length y566 := (by rw [hA55]; exact hr55)
                       rw [← hy55, ← hA55, ← hc55] at hcut55
                       have HR569 := Aside0.mk hr55
                       have HC569 := Aside0.mk (show y566.length ≤ c55 from by rw [hy55, hc55]; exact Nat.sub_le_sub_right (Nat.le_trans (by omega) hroom55) _)
                       clear hr55 hC55 hroom55 hi055 hsz55 hc55
                       have KY55 := Aside0.mk hy55
                       have KA55 := Aside0.mk hA55
                       clear hy55 hA55
                       have KL55 := Aside0.mk (show (x12_36 : Int).toNat ≤ t543.length from by omega)
                       have KM55 := Aside0.mk (show ((rd t551 x11_3) : Int).toNat ≤ (x12_36 : Int).toNat from by omega)
                       replace q55 := eq_true q55
                       refine start_ (n := 19) (S := fun w' => w'.cell? ⟨gb550, 0, none⟩ = some (.int .i64 t546) ∧ w'.cell? ⟨gb550, 1, none⟩ = some (.int .i64 t547) ∧ w'.cell? ⟨gb550, 2, none⟩ = some (.int .i64 t548) ∧ w'.cell? ⟨gb550, 3, none⟩ = some (.int .i64 t549) ∧ w'.cell? (ad564.add (x11_3).toNat) = some (.int .i64 (rd t551 x11_3)) ∧ w'.cell? (ad564.add (x11_3).toNat) = some (.int .i64 (rd t551 x11_3))) (ds := []) #[F,F,F,F,F,F,F,F,F,F,F,F,F,F,F,F,F,F,F] (by kernel_rfl) rfl rfl ⟨(blk_cell BK550.out 0).trans rfl, (blk_cell BK550.out 1).trans rfl, (blk_cell BK550.out 2).trans rfl, (blk_cell BK550.out 3).trans rfl, hx564_0, hx565_0⟩ (fun hHeld => ?_); refine with_tabW laws_FnRelieve.tab19 laws_FnRelieve.bits19 (fun HT_ HW_ => ?_)
                       generalize wc.drew = w54 at HO_3 HO_4 HO_6 BK550 HB HR569 hx564_0 hx565_0 hHeld ⊢
                       refine pU 0 (some 95) #[T,F,F,F,F,F,F,F,F,F,F,F,F,F,F,F,F,F,F] rfl rfl HT_.out ?_
                       refine pU 1 (some 96) #[T,T,F,F,F,F,F,F,F,F,F,F,F,F,F,F,F,F,F] rfl rfl HT_.out ?_
                       refine pU 2 (some 97) #[T,T,T,F,F,F,F,F,F,F,F,F,F,F,F,F,F,F,F] rfl rfl HT_.out ?_
                       refine pU 3 (some 98) #[T,T,T,T,F,F,F,F,F,F,F,F,F,F,F,F,F,F,F] rfl rfl HT_.out ?_
                       refine tU6 4 (some 99) #[T,T,T,T,T,F,F,F,F,F,F,F,F,F,F,F,F,F,F] rfl rfl HT_.out HW_.out hHeld ?_
                       refine pU 5 (some 100) #[T,T,T,T,T,T,F,F,F,F,F,F,F,F,F,F,F,F,F] rfl rfl HT_.out ?_
                       refine pU 6 (some 101) #[T,T,T,T,T,T,T,F,F,F,F,F,F,F,F,F,F,F,F] rfl rfl HT_.out ?_
                       refine pU 7 (some 102) #[T,T,T,T,T,T,T,T,F,F,F,F,F,F,F,F,F,F,F] rfl rfl HT_.out ?_
                       refine pU 8 (some 103) #[T,T,T,T,T,T,T,T,T,F,F,F,F,F,F,F,F,F,F] rfl rfl HT_.out ?_
                       refine pU 9 (some 104) #[T,T,T,T,T,T,T,T,T,T,F,F,F,F,F,F,F,F,F] rfl rfl HT_.out ?_
                       refine pU 10 (some 105) #[T,T,T,T,T,T,T,T,T,T,T,F,F,F,F,F,F,F,F] rfl rfl HT_.out ?_
                       refine pU 11 (some 106) #[T,T,T,T,T,T,T,T,T,T,T,T,F,F,F,F,F,F,F] rfl rfl HT_.out ?_
                       refine pU 13 (some 108) #[T,T,T,T,T,T,T,T,T,T,T,T,F,T,F,F,F,F,F] rfl rfl HT_.out ?_
                       refine tU6 12 (some 107) #[T,T,T,T,T,T,T,T,T,T,T,T,T,T,F,F,F,F,F] rfl rfl HT_.out HW_.out hHeld ?_
                       refine pU 14 (some 109) #[T,T,T,T,T,T,T,T,T,T,T,T,T,T,T,F,F,F,F] rfl rfl HT_.out ?_
                       refine tU6 15 (some 110) #[T,T,T,T,T,T,T,T,T,T,T,T,T,T,T,T,F,F,F] rfl rfl HT_.out HW_.out hHeld ?_
                       refine one_ (i := 16) (N := some 111) #[T,T,T,T,T,T,T,T,T,T,T,T,T,T,T,T,T,F,F] rfl rfl (one_of HT_.out (by kernel_rfl)) (by decide) (fun K hK => ?_)
                       refine goes_ Try.func23 (by kernel_rfl) rfl #[.slice Ao11 t540.length co11, .slice A55 y566.length c55, .agg #[.int .i64 t546, .int .i64 t547, .int .i64 t548, .int .i64 t549]] (by rfl) rfl rfl (by (try simp only [List.map_toArray, List.map_cons, List.map_nil]); first | done | rfl | (simp only [List.length_drop, List.length_take]; rfl)) ?_
                       with_reducible refine (impl_DutyCode.calls kj36 _ _ t540 _ _ y566 t546 t547 t548 t549 t570 _ ?side1 ?side2 ?side3 ?side4 A48.out).mono ?_
                       (case side1 => repeat (first | exact (Kd.R_reads' HO_3.out).2.2 | (with_reducible refine Kd.C_alloc ?_ _) | (with_reducible refine Kd.C_drewN ?_ _) | (with_reducible refine Kd.C_drew ?_)))
                       (case side2 => exact (Kd.R_reads' HO_3.out).2.1)
                       (case side3 => repeat (first | exact (by repeat (first | (with_reducible exact HR569.out) | (with_reducible refine Kd.C_alloc ?_ _) | (with_reducible refine Kd.C_drewN ?_ _) | (with_reducible refine Kd.C_drew ?_) | exact HR569.out)) | (with_reducible refine Kd.C_alloc ?_ _) | (with_reducible refine Kd.C_drewN ?_ _) | (with_reducible refine Kd.C_drew ?_)))
                       (case side4 => exact HC569.out)
                       rintro e w56 ⟨rfl, hb⟩
                       have HS4_ := (hb.cell (World.block_lt_of_cell? _ _ (hHeld.2.2.2.2.1))).trans (hHeld.2.2.2.2.1)
                       have HS5_ := (hb.cell (World.block_lt_of_cell? _ _ (hHeld.2.2.2.2.2))).trans (hHeld.2.2.2.2.2)
                       refine ⟨_, rfl, ?_⟩
                       have n0_ := Aside0.mk (Kd.R_below (nR HO_3.out) hb)
                       have n1_ := Aside0.mk (Kd.R_below (nR HO_4.out) hb)
                       have n2_ := Aside0.mk (Kd.R_below (nR HO_6.out) hb)
                       have n3_ := Aside0.mk (blk_below (g := gb550) (o := .cells #[.int .i64 t546, .int .i64 t547, .int .i64 t548, .int .i64 t549] 25 (0, 0)) (nB BK550.out) hb)
                       have n4_ := Aside0.mk (Kd.C_below (by repeat (first | (with_reducible exact HR569.out) | (with_reducible refine Kd.C_alloc ?_ _) | (with_reducible refine Kd.C_drewN ?_ _) | (with_reducible refine Kd.C_drew ?_) | exact HR569.out)) hb)
                       have n5_ := Aside0.mk (below_step (nH1 HB.out GE550.out) hb)
                       clear HO_3; clear HO_4; clear HO_6; clear BK550; clear HR569; clear HB; have HO_3 := n0_; have HO_4 := n1_; have HO_6 := n2_; have BK550 := n3_; have HR569 := n4_; have HB := n5_; clear n0_ n1_ n2_ n3_ n4_ n5_; (try clear hb); (try clear hb2); (try clear hk); (try clear hi)
                       refine hK.out _ _ ⟨(blk_cell BK550.out 0).trans rfl, (blk_cell BK550.out 1).trans rfl, (blk_cell BK550.out 2).trans rfl, (blk_cell BK550.out 3).trans rfl, HS4_, HS5_⟩ (fun hHeld => ?_)
                       clear hK K
                       refine norm_ (a' := ?_) ?_ ?_
                       rotate_left
                       · show Act.put _ (some 111) _ = _
                         simp only [Act.put, List.setIfInBounds_toArray, List.set_cons_zero, List.set_cons_succ, i64_w, i32_w]
                         rfl
                       refine pU 17 (some 112) #[T,T,T,T,T,T,T,T,T,T,T,T,T,T,T,T,T,T,F] rfl rfl HT_.out ?_
                       refine pU 18 (some 113) #[T,T,T,T,T,T,T,T,T,T,T,T,T,T,T,T,T,T,T] rfl rfl HT_.out ?_
                       refine done_ (done_of HT_.out (by kernel_rfl)) ?_
                       have p571 : 0 ≤ (x11_3 : Int) := of_decide_eq_true nQ
                       have q571 : x11_3 < (t551.length : Int) := of_decide_eq_true nQ
                       obtain ⟨ad571, e571, hx571_0⟩ := Kd.at_int (Kd.R_reads' HO_6.out).2.2 x11_3 p571 q571
                       obtain rfl : ad564 = ad571 := (by injection e571)
                       replace p571 := eq_true p571; replace q571 := eq_true q571
                       have q57 : (x12_36 : Int) ≤ ((t543.length : Int) : Int) := of_decide_eq_true nQ
                       obtain ⟨i057, hi057, _, hsz57, _⟩ := info_parts info3
                       have hroom57 : t543.length ≤ co12 := (Kd.R_reads' HO_4.out).2.1
                       have hC57 : Kd.C (Kd.int .i64) _ Ao12 t543.length t543 := (Kd.R_reads' HO_4.out).2.2
                       have ql57 : ((rd t551 x11_3) : Int) ≤ (x12_36 : Int) := of_decide_eq_true nQ
                       have q057 : (0 : Int) ≤ ((rd t551 x11_3) : Int) := of_decide_eq_true nQ
                       have hcut57 := cut_mid (P := Try.prog) 29 3 .i64 .i64 Try.underlying29 hi057 1 hsz57 Ao12 t543.length co12 (rd t551 x11_3) x12_36 q057 ql57 q57 hroom57
                       have hr57 := Kd.C_mid (lo := ((rd t551 x11_3) : Int).toNat) (hi := (x12_36 : Int).toNat) (c := co12) hC57 (by omega) (by omega) hroom57
                       obtain ⟨A57, hA57⟩ : ∃ A1, A1 = (if co12 = ((rd t551 x11_3) : Int).toNat then Ao12 else (Ao12 : Option Addr).map (·.add (((rd t551 x11_3) : Int).toNat * 1))) := ⟨_, rfl⟩
                       obtain ⟨c57, hc57⟩ : ∃ c1, c1 = co12 - ((rd t551 x11_3) : Int).toNat := ⟨_, rfl⟩
                       have hy57 : y572.length = (x12_36 : Int).toNat - ((rd t551 x11_3) : Int).toNat := (by rw [Ny572.out, List.length_drop, List.length_take] <;> omega)
                       rw [show ((t543).take (x12_36 : Int).toNat).drop ((rd t551 x11_3) : Int).toNat = y572 from Ny572.out.symm] at hr57
                       replace hr57 : Kd.C (Kd.int .i64) _ A57 y572.length y572 := (by rw [hA57]; exact hr57)
                       rw [← hy57, ← hA57, ← hc57] at hcut57
                       have HR575 := Aside0.mk hr57
                       have HC575 := Aside0.mk (show y572.length ≤ c57 from by rw [hy57, hc57]; exact Nat.sub_le_sub_right (Nat.le_trans (by omega) hroom57) _)
                       clear hr57 hC57 hroom57 hi057 hsz57 hc57
                       have KY57 := Aside0.mk hy57
                       have KA57 := Aside0.mk hA57
                       clear hy57 hA57
                       have KL57 := Aside0.mk (show (x12_36 : Int).toNat ≤ t543.length from by omega)
                       have KM57 := Aside0.mk (show ((rd t551 x11_3) : Int).toNat ≤ (x12_36 : Int).toNat from by omega)
                       replace q57 := eq_true q57; clear hcut55
                       try go_wp2_with (first | ((with_reducible refine gate_callee (f := 17) rfl ?_); refine goesL_ (some 123) rfl rfl Try.func17 (by kernel_rfl) rfl #[.slice Ao11 t540.length co11, .slice A57 y572.length c57] rfl (by (try simp only [List.map_toArray, List.map_cons, List.map_nil]); first | done | rfl | (simp only [List.length_drop, List.length_take]; rfl)) ?_; (with_reducible refine (impl_Driven.calls kj36 _ _ t540 _ _ y572 t576 _ ?side1 ?side2 ?side3 ?side4 A53.out).mono ?_); (case side1 => repeat (first | exact (Kd.R_reads' HO_3.out).2.2 | (with_reducible refine Kd.C_alloc ?_ _) | (with_reducible refine Kd.C_drewN ?_ _) | (with_reducible refine Kd.C_drew ?_))); (case side2 => exact (Kd.R_reads' HO_3.out).2.1); (case side3 => repeat (first | exact (by repeat (first | (with_reducible exact HR575.out) | (with_reducible refine Kd.C_alloc ?_ _) | (with_reducible refine Kd.C_drewN ?_ _) | (with_reducible refine Kd.C_drew ?_) | exact HR575.out)) | (with_reducible refine Kd.C_alloc ?_ _) | (with_reducible refine Kd.C_drewN ?_ _) | (with_reducible refine Kd.C_drew ?_))); (case side4 => exact HC575.out); rintro e w58 ⟨rfl, hb⟩; refine ⟨_, rfl, ?_⟩; have n0_ := Aside0.mk (Kd.R_below (nR HO_3.out) hb); have n1_ := Aside0.mk (Kd.R_below (nR HO_4.out) hb); have n2_ := Aside0.mk (Kd.R_below (nR HO_6.out) hb); have n3_ := Aside0.mk (blk_below (g := gb550) (o := .cells #[.int .i64 t546, .int .i64 t547, .int .i64 t548, .int .i64 t549] 25 (0, 0)) (nB BK550.out) hb); have n4_ := Aside0.mk (Kd.C_below (by repeat (first | (with_reducible exact HR569.out) | (with_reducible refine Kd.C_alloc ?_ _) | (with_reducible refine Kd.C_drewN ?_ _) | (with_reducible refine Kd.C_drew ?_) | exact HR569.out)) hb); have n5_ := Aside0.mk (Kd.C_below (by repeat (first | (with_reducible exact HR575.out) | (with_reducible refine Kd.C_alloc ?_ _) | (with_reducible refine Kd.C_drewN ?_ _) | (with_reducible refine Kd.C_drew ?_) | exact HR575.out)) hb); have n6_ := Aside0.mk (below_step (nH1 HB.out GE550.out) hb); clear HO_3; clear HO_4; clear HO_6; clear BK550; clear HR569; clear HR575; clear HB; have HO_3 := n0_; have HO_4 := n1_; have HO_6 := n2_; have BK550 := n3_; have HR569 := n4_; have HR575 := n5_; have HB := n6_; clear n0_ n1_ n2_ n3_ n4_ n5_ n6_; (try clear hb); (try clear hb2); (try clear hk); (try clear hi)))
                       go_roundg kj36
                       case measure => have := HJ6.out; have := HJ29.out; have := HK3.out; have := HJ36.out; omega
                       case rel => exact ⟨(wrap64 (x10_3 + t576)), (wrap64 (x11_3 + 1)), nS, nS, H', ⟨by have := HJ6.out; have := HJ29.out; have := HK3.out; have := HJ36.out; omega⟩, ⟨by (with_reducible repeat (first | apply Kd.R_alloc | apply Kd.R_drewN | apply Kd.R_drew)); exact HO_3.out⟩, ⟨by (with_reducible repeat (first | apply Kd.R_alloc | apply Kd.R_drewN | apply Kd.R_drew)); exact HO_4.out⟩, ⟨by (with_reducible repeat (first | apply Kd.R_alloc | apply Kd.R_drewN | apply Kd.R_drew)); exact HO_6.out⟩, ⟨by (with_reducible repeat (first | refine blk_drewN ?_ _ | refine blk_drew ?_ | refine blk_alloc ?_ _)); exact BK550.out⟩, ⟨nH1 HB.out GE550.out⟩⟩
                     · rw [if_neg c49] at H
                       have c49b0 : (t570 == 0) = false := beq_eq_false_iff_ne.mpr c49
                       have c49b1 : (t570 != 0) = true := bne_iff_ne.mpr c49
                       exact absurd ((Option.some.inj H).trans ht.out) (by decide)
               · rw [if_neg c36] at H
                 have c36b0 : decide (x11_3 < (t551.length : Int)) = false := decide_eq_false c36
                 clear c36
                 have H' := Aside0.mk H
                 clear H
                 obtain ⟨Ao59, co59, eo59⟩ := Kd.R_slice HO_6.out
                 subst eo59
                 go_wp2
                 go_loopg [13, 14] k3 (fun kq v13 v14 w' => ∃ (x13_4 : Int) (x14_4 : Int), v13 = .int .i64 x13_4 ∧ v14 = .int .i64 x14_4 ∧ Aside0 (laws_FnRelieve.l1 kq t540 t543 t551 x10_3 x13_4 x14_4 t546 t547 t548 t549 = some r) ∧ Aside0 (kq ≤ k3) ∧ Aside0 (Kd.R k52 52 w' w.heap.size (fun _ => True) (.slice Ao11 t540.length co11) t540) ∧ Aside0 (Kd.R (Kd.int .i64) 3 w' w.heap.size (fun k_ => some k_ ≠ ((.slice Ao59 t551.length co59) : Value).ownBlock) (.slice Ao12 t543.length co12) t543) ∧ Aside0 (Kd.R (Kd.int .i64) 3 w' w.heap.size (fun k_ => some k_ ≠ ((.slice Ao12 t543.length co12) : Value).ownBlock) (.slice Ao59 t551.length co59) t551) ∧ Aside0 (w'.heap[gb550]? = some (.cells #[.int .i64 t546, .int .i64 t547, .int .i64 t548, .int .i64 t549] 25 (0, 0))) ∧ Aside0 (Below w.heap.size w w'))
                 case atStart => exact ⟨(0), (0), nS, nS, H', ⟨Nat.le_refl _⟩, ⟨by (with_reducible repeat (first | apply Kd.R_alloc | apply Kd.R_drewN | apply Kd.R_drew)); exact HO_3.out⟩, ⟨by (with_reducible repeat (first | apply Kd.R_alloc | apply Kd.R_drewN | apply Kd.R_drew)); exact HO_4.out⟩, ⟨by (with_reducible repeat (first | apply Kd.R_alloc | apply Kd.R_drewN | apply Kd.R_drew)); exact HO_6.out⟩, ⟨by (with_reducible repeat (first | refine blk_drewN ?_ _ | refine blk_drew ?_ | refine blk_alloc ?_ _)); exact BK550.out⟩, ⟨nH1 HB.out GE550.out⟩⟩
                 case round =>
                  clear H'
                  try clear c1; try clear c2; try clear p2; try clear c3; try clear c4; try clear c5; try clear p5; try clear q5; try clear hx5; try clear qi5; try clear p6; try clear c9; try clear c12; try clear c17; try clear c18; try clear c18b0; try clear c18b1; try clear c18b2; try clear c23; try clear c24; try clear c25; try clear c28; try clear c29; try clear c30; try clear c31; try clear c31b0; try clear c31b1; try clear c31b2; try clear c33; try clear c33b0; try clear c33b1; try clear c35; try clear c36; try clear c36b0; try clear c39; try clear c39b0; try clear c41; try clear c41b0; try clear c42
                  try clear c42b0; try clear c43; try clear c43b0; try clear c44; try clear c44b0; try clear c45; try clear c45b0; try clear c45b1; try clear c46; try clear c46b0; try clear c46b1; try clear c47; try clear c47b0; try clear c47b1; try clear c49; try clear c49b0; try clear c49b1; try clear c50; try clear c50b0; try clear c51; try clear c51b0; try clear c52; try clear c52b0; try clear c55; try clear q55; try clear p56; try clear q56; try clear hx56; try clear c57; try clear p57; try clear q57; try clear hx57; try clear hcz10_0; try clear hcz10_1; try clear hcz10_2; try clear hcz10_3
                  try clear hcz14_0; try clear hcz14_1; try clear hcz14_2; try clear hcz14_3; try clear hcz19_0; try clear hcz19_1; try clear hcz19_2; try clear hcz19_3; try clear hcz22_0; try clear hcz22_1; try clear hcz22_2; try clear hcz22_3; try clear hcz26_0; try clear hcz26_1; try clear hcz26_2; try clear hcz26_3; try clear hfz10_0; try clear hfz10_1; try clear hfz10_2; try clear hfz10_3; try clear hfz14_0; try clear hfz14_1; try clear hfz14_2; try clear hfz14_3; try clear hfz19_0; try clear hfz19_1; try clear hfz19_2; try clear hfz19_3; try clear hfz22_0; try clear hfz22_1; try clear hfz22_2
                  try clear hfz22_3; try clear hfz26_0; try clear hfz26_1; try clear hfz26_2; try clear hfz26_3; try clear hx562_0; try clear hx563_0; try clear hx564_0; try clear hx565_0; try clear hx571_0; try clear p2; try clear p5; try clear p562; try clear p563; try clear p564; try clear p565; try clear p571; try clear p6; try clear q055; try clear q057; try clear q5; try clear q55; try clear q562; try clear q563; try clear q564; try clear q565; try clear q57; try clear q571
                  obtain ⟨x13_4, x14_4, rfl, rfl, HA, HK4, HO_3, HO_4, HO_6, BK550, HB⟩ := hrel
                  cases gk with
                  | zero => exact absurd HA.out (by simp [laws_FnRelieve.l1])
                  | succ k4 =>
                   have H := HA.out; clear HA
                   simp only [laws_FnRelieve.l1] at H
                   by_cases c60 : x14_4 < (t543.length : Int)
                   · rw [if_pos c60] at H
                     have c60b0 : decide (x14_4 < (t543.length : Int)) = true := decide_eq_true c60
                     clear c60
                     by_cases c61 : 0 ≤ x14_4
                     rotate_left
                     · (rw [if_neg c61] at H; exact absurd H (by simp))
                     rw [if_pos c61] at H
                     have c61b0 : decide (0 ≤ x14_4) = true := decide_eq_true c61
                     clear c61
                     by_cases c62 : 0 ≤ (rd t543 x14_4)
                     rotate_left
                     · (rw [if_neg c62] at H; exact absurd H (by simp))
                     rw [if_pos c62] at H
                     have c62b0 : decide (0 ≤ (rd t543 x14_4)) = true := decide_eq_true c62
                     clear c62
                     by_cases c63 : (rd t543 x14_4) < (t540.length : Int)
                     rotate_left
                     · (rw [if_neg c63] at H; exact absurd H (by simp))
                     rw [if_pos c63] at H
                     have c63b0 : decide ((rd t543 x14_4) < (t540.length : Int)) = true := decide_eq_true c63
                     clear c63
                     have H' := Aside0.mk H
                     clear H
                     try go_wp2
                     have n0_ := Aside0.mk (Kd.R_drew HO_3.out)
                     have n1_ := Aside0.mk (Kd.R_drew HO_4.out)
                     have n2_ := Aside0.mk (Kd.R_drew HO_6.out)
                     have n3_ := Aside0.mk (blk_drew BK550.out)
                     have n4_ := Aside0.mk (below_drew1 HB.out)
                     clear HO_3; clear HO_4; clear HO_6; clear BK550; clear HB; have HO_3 := n0_; have HO_4 := n1_; have HO_6 := n2_; have BK550 := n3_; have HB := n4_; clear n0_ n1_ n2_ n3_ n4_
                     have p577 : 0 ≤ (x14_4 : Int) := of_decide_eq_true nQ
                     have q577 : x14_4 < (t543.length : Int) := of_decide_eq_true nQ
                     obtain ⟨ad577, e577, hx577_0⟩ := Kd.at_int (Kd.R_reads' HO_4.out).2.2 x14_4 p577 q577
                     cases e577; replace p577 := eq_true p577; replace q577 := eq_true q577
                     have p578 : 0 ≤ ((rd t543 x14_4) : Int) := of_decide_eq_true nQ
                     have q578 : (rd t543 x14_4) < (t540.length : Int) := of_decide_eq_true nQ
                     obtain ⟨ad578, e578, hx578_0, hx578_1, hx578_2, hx578_3, hx578_4⟩ := at_T52 (Kd.R_reads' HO_3.out).2.2 (rd t543 x14_4) p578 q578
                     cases e578; replace p578 := eq_true p578; replace q578 := eq_true q578
                     have p579 : 0 ≤ (x14_4 : Int) := of_decide_eq_true nQ
                     have q579 : x14_4 < (t543.length : Int) := of_decide_eq_true nQ
                     obtain ⟨ad579, e579, hx579_0⟩ := Kd.at_int (Kd.R_reads' HO_4.out).2.2 x14_4 p579 q579
                     obtain rfl : ad577 = ad579 := (by injection e579)
                     replace p579 := eq_true p579; replace q579 := eq_true q579
                     have p580 : 0 ≤ ((rd t543 x14_4) : Int) := of_decide_eq_true nQ
                     have q580 : (rd t543 x14_4) < (t540.length : Int) := of_decide_eq_true nQ
                     obtain ⟨ad580, e580, hx580_0, hx580_1, hx580_2, hx580_3, hx580_4⟩ := at_T52 (Kd.R_reads' HO_3.out).2.2 (rd t543 x14_4) p580 q580
                     obtain rfl : ad578 = ad580 := (by injection e580)
                     replace p580 := eq_true p580; replace q580 := eq_true q580
                     refine start_ (n := 20) (S := fun w' => w'.cell? (ad577.add (x14_4).toNat) = some (.int .i64 (rd t543 x14_4)) ∧ w'.cell? (ad578.add (((rd t543 x14_4)).toNat * 5)) = some (.int .i64 ((rd_T52 t540 (rd t543 x14_4)).f0)) ∧ w'.cell? ⟨(ad578.add (((rd t543 x14_4)).toNat * 5)).block, (ad578.add (((rd t543 x14_4)).toNat * 5)).off + 1, none⟩ = some (.int .i64 ((rd_T52 t540 (rd t543 x14_4)).f1)) ∧ w'.cell? ⟨(ad578.add (((rd t543 x14_4)).toNat * 5)).block, (ad578.add (((rd t543 x14_4)).toNat * 5)).off + 2, none⟩ = some (.int .i64 ((rd_T52 t540 (rd t543 x14_4)).f2)) ∧ w'.cell? ⟨(ad578.add (((rd t543 x14_4)).toNat * 5)).block, (ad578.add (((rd t543 x14_4)).toNat * 5)).off + 3, none⟩ = some (.int .i64 ((rd_T52 t540 (rd t543 x14_4)).f3)) ∧ w'.cell? ⟨(ad578.add (((rd t543 x14_4)).toNat * 5)).block, (ad578.add (((rd t543 x14_4)).toNat * 5)).off + 4, none⟩ = some (.int .i64 ((rd_T52 t540 (rd t543 x14_4)).f4)) ∧ w'.cell? (ad577.add (x14_4).toNat) = some (.int .i64 (rd t543 x14_4)) ∧ w'.cell? (ad578.add (((rd t543 x14_4)).toNat * 5)) = some (.int .i64 ((rd_T52 t540 (rd t543 x14_4)).f0)) ∧ w'.cell? ⟨(ad578.add (((rd t543 x14_4)).toNat * 5)).block, (ad578.add (((rd t543 x14_4)).toNat * 5)).off + 1, none⟩ = some (.int .i64 ((rd_T52 t540 (rd t543 x14_4)).f1)) ∧ w'.cell? ⟨(ad578.add (((rd t543 x14_4)).toNat * 5)).block, (ad578.add (((rd t543 x14_4)).toNat * 5)).off + 2, none⟩ = some (.int .i64 ((rd_T52 t540 (rd t543 x14_4)).f2)) ∧ w'.cell? ⟨(ad578.add (((rd t543 x14_4)).toNat * 5)).block, (ad578.add (((rd t543 x14_4)).toNat * 5)).off + 3, none⟩ = some (.int .i64 ((rd_T52 t540 (rd t543 x14_4)).f3)) ∧ w'.cell? ⟨(ad578.add (((rd t543 x14_4)).toNat * 5)).block, (ad578.add (((rd t543 x14_4)).toNat * 5)).off + 4, none⟩ = some (.int .i64 ((rd_T52 t540 (rd t543 x14_4)).f4))) (ds := []) #[F,F,F,F,F,F,F,F,F,F,F,F,F,F,F,F,F,F,F,F] (by kernel_rfl) rfl rfl ⟨hx577_0, hx578_0, hx578_1, hx578_2, hx578_3, hx578_4, hx579_0, hx580_0, hx580_1, hx580_2, hx580_3, hx580_4⟩ (fun hHeld => ?_); refine with_tabW laws_FnRelieve.tab26 laws_FnRelieve.bits26 (fun HT_ HW_ => ?_)
                     generalize wr.drew = w64 at HO_3 HO_4 HO_6 BK550 HB hx577_0 hx578_0 hx578_1 hx578_2 hx578_3 hx578_4 hx579_0 hx580_0 hx580_1 hx580_2 hx580_3 hx580_4 hHeld ⊢
                     refine pU 0 (some 131) #[T,F,F,F,F,F,F,F,F,F,F,F,F,F,F,F,F,F,F,F] rfl rfl HT_.out ?_
                     refine pU 1 (some 132) #[T,T,F,F,F,F,F,F,F,F,F,F,F,F,F,F,F,F,F,F] rfl rfl HT_.out ?_
                     refine pU 2 (some 133) #[T,T,T,F,F,F,F,F,F,F,F,F,F,F,F,F,F,F,F,F] rfl rfl HT_.out ?_
                     refine pU 3 (some 134) #[T,T,T,T,F,F,F,F,F,F,F,F,F,F,F,F,F,F,F,F] rfl rfl HT_.out ?_
                     refine pU 4 (some 135) #[T,T,T,T,T,F,F,F,F,F,F,F,F,F,F,F,F,F,F,F] rfl rfl HT_.out ?_
                     refine pU 10 (some 141) #[T,T,T,T,T,F,F,F,F,F,T,F,F,F,F,F,F,F,F,F] rfl rfl HT_.out ?_
                     refine pU 11 (some 142) #[T,T,T,T,T,F,F,F,F,F,T,T,F,F,F,F,F,F,F,F] rfl rfl HT_.out ?_
                     refine pU 12 (some 143) #[T,T,T,T,T,F,F,F,F,F,T,T,T,F,F,F,F,F,F,F] rfl rfl HT_.out ?_
                     refine pU 13 (some 144) #[T,T,T,T,T,F,F,F,F,F,T,T,T,T,F,F,F,F,F,F] rfl rfl HT_.out ?_
                     refine tU12 5 (some 136) #[T,T,T,T,T,T,F,F,F,F,T,T,T,T,F,F,F,F,F,F] rfl rfl HT_.out HW_.out hHeld ?_
                     refine pU 6 (some 137) #[T,T,T,T,T,T,T,F,F,F,T,T,T,T,F,F,F,F,F,F] rfl rfl HT_.out ?_
                     refine pU 7 (some 138) #[T,T,T,T,T,T,T,T,F,F,T,T,T,T,F,F,F,F,F,F] rfl rfl HT_.out ?_
                     refine tU12 8 (some 139) #[T,T,T,T,T,T,T,T,T,F,T,T,T,T,F,F,F,F,F,F] rfl rfl HT_.out HW_.out hHeld ?_
                     refine pU 9 (some 140) #[T,T,T,T,T,T,T,T,T,T,T,T,T,T,F,F,F,F,F,F] rfl rfl HT_.out ?_
                     refine tU12 14 (some 145) #[T,T,T,T,T,T,T,T,T,T,T,T,T,T,T,F,F,F,F,F] rfl rfl HT_.out HW_.out hHeld ?_
                     refine pU 15 (some 146) #[T,T,T,T,T,T,T,T,T,T,T,T,T,T,T,T,F,F,F,F] rfl rfl HT_.out ?_
                     refine pU 16 (some 147) #[T,T,T,T,T,T,T,T,T,T,T,T,T,T,T,T,T,F,F,F] rfl rfl HT_.out ?_
                     refine tU12 17 (some 148) #[T,T,T,T,T,T,T,T,T,T,T,T,T,T,T,T,T,T,F,F] rfl rfl HT_.out HW_.out hHeld ?_
                     refine pU 18 (some 149) #[T,T,T,T,T,T,T,T,T,T,T,T,T,T,T,T,T,T,T,F] rfl rfl HT_.out ?_
                     refine pU 19 (some 13) #[T,T,T,T,T,T,T,T,T,T,T,T,T,T,T,T,T,T,T,T] rfl rfl HT_.out ?_
                     refine done_ (done_of HT_.out (by kernel_rfl)) ?_
                     try go_wp2
                     go_roundg k4
                     case measure => have := HJ6.out; have := HJ29.out; have := HK3.out; have := HK4.out; omega
                     case rel => exact ⟨(wrap64 ((wrap64 (x13_4 + ((rd_T52 t540 (rd t543 x14_4)).f3))) - ((rd_T52 t540 (rd t543 x14_4)).f2))), (wrap64 (x14_4 + 1)), nS, nS, H', ⟨by have := HJ6.out; have := HJ29.out; have := HK3.out; have := HK4.out; omega⟩, ⟨by (with_reducible repeat (first | apply Kd.R_alloc | apply Kd.R_drewN | apply Kd.R_drew)); exact HO_3.out⟩, ⟨by (with_reducible repeat (first | apply Kd.R_alloc | apply Kd.R_drewN | apply Kd.R_drew)); exact HO_4.out⟩, ⟨by (with_reducible repeat (first | apply Kd.R_alloc | apply Kd.R_drewN | apply Kd.R_drew)); exact HO_6.out⟩, ⟨by (with_reducible repeat (first | refine blk_drewN ?_ _ | refine blk_drew ?_ | refine blk_alloc ?_ _)); exact BK550.out⟩, ⟨nH1 HB.out GE550.out⟩⟩
                   · rw [if_neg c60] at H
                     have c60b0 : decide (x14_4 < (t543.length : Int)) = false := decide_eq_false c60
                     clear c60
                     by_cases c65 : x10_3 = x13_4
                     · rw [if_pos c65] at H
                       have c65b0 : (x10_3 == x13_4) = true := beq_iff_eq.mpr c65
                       have c65b1 : (x10_3 != x13_4) = false := bne_eq_false_iff_eq.mpr c65
                       clear c65
                       by_cases c66 : (t543.length : Int) ≤ 12
                       · rw [if_pos c66] at H
                         have c66b0 : decide ((t543.length : Int) ≤ 12) = true := decide_eq_true c66
                         have c66b1 : decide (t543.length ≤ 12) = true := decide_eq_true (by omega)
                         clear c66
                         replace H := Option.bind_eq_some_iff.mp H
                         obtain ⟨t581, A670, H⟩ := H
                         replace H : (some (((t551.length : Int) == 1) == (t581 == 0))) = some r := H
                         have A67 := Aside0.mk A670
                         clear A670; obtain rfl := Option.some.inj H
                         have hcz68_0 : wr.cell? ⟨gb550, 0, none⟩ = some (.int .i64 t546) := (blk_cell BK550.out 0).trans rfl
                         have hcz68_1 : wr.cell? ⟨gb550, 1, none⟩ = some (.int .i64 t547) := (blk_cell BK550.out 1).trans rfl
                         have hcz68_2 : wr.cell? ⟨gb550, 2, none⟩ = some (.int .i64 t548) := (blk_cell BK550.out 2).trans rfl
                         have hcz68_3 : wr.cell? ⟨gb550, 3, none⟩ = some (.int .i64 t549) := (blk_cell BK550.out 3).trans rfl
                         have hfz68_0 := blk_frozen BK550.out 0
                         have hfz68_1 := blk_frozen BK550.out 1
                         have hfz68_2 := blk_frozen BK550.out 2
                         have hfz68_3 := blk_frozen BK550.out 3
                         go_wp2_with (first | (go_at_call 23; (with_reducible refine (impl_DutyCode.calls k4 _ _ t540 _ _ t543 t546 t547 t548 t549 t581 _ ?side1 ?side2 ?side3 ?side4 A67.out).mono ?_); (case side1 => repeat (first | exact (Kd.R_reads' HO_3.out).2.2 | (with_reducible refine Kd.C_alloc ?_ _) | (with_reducible refine Kd.C_drewN ?_ _) | (with_reducible refine Kd.C_drew ?_))); (case side2 => exact (Kd.R_reads' HO_3.out).2.1); (case side3 => repeat (first | exact (Kd.R_reads' HO_4.out).2.2 | (with_reducible refine Kd.C_alloc ?_ _) | (with_reducible refine Kd.C_drewN ?_ _) | (with_reducible refine Kd.C_drew ?_))); (case side4 => exact (Kd.R_reads' HO_4.out).2.1); rintro e w69 ⟨rfl, hb⟩; have n0_ := Aside0.mk (Kd.R_below (nR HO_3.out) hb); have n1_ := Aside0.mk (Kd.R_below (nR HO_4.out) hb); have n2_ := Aside0.mk (Kd.R_below (nR HO_6.out) hb); have n3_ := Aside0.mk (blk_below (g := gb550) (o := .cells #[.int .i64 t546, .int .i64 t547, .int .i64 t548, .int .i64 t549] 25 (0, 0)) (nB BK550.out) hb); have n4_ := Aside0.mk (below_step (nH1 HB.out GE550.out) hb); clear HO_3; clear HO_4; clear HO_6; clear BK550; clear HB; have HO_3 := n0_; have HO_4 := n1_; have HO_6 := n2_; have BK550 := n3_; have HB := n4_; clear n0_ n1_ n2_ n3_ n4_; (try clear hb); (try clear hb2); (try clear hk); (try clear hi)))
                         go_ret
                         exact ⟨by first | rfl | (simp [errW_none, errW_some] <;> rfl) | (simp [*, errW_none, errW_some] <;> first | rfl | (simp [wrap64]; done)), nH1 HB.out GE550.out⟩
                       · rw [if_neg c66] at H
                         have c66b0 : decide ((t543.length : Int) ≤ 12) = false := decide_eq_false c66
                         have c66b1 : decide (t543.length ≤ 12) = false := decide_eq_false (by omega)
                         clear c66; obtain rfl := Option.some.inj H; go_wp2; go_ret
                         exact ⟨by first | rfl | (simp [errW_none, errW_some] <;> rfl) | (simp [*, errW_none, errW_some] <;> first | rfl | (simp [wrap64]; done)), nH1 HB.out GE550.out⟩
                     · rw [if_neg c65] at H
                       have c65b0 : (x10_3 == x13_4) = false := beq_eq_false_iff_ne.mpr c65
                       have c65b1 : (x10_3 != x13_4) = true := bne_iff_ne.mpr c65
                       exact absurd ((Option.some.inj H).trans ht.out) (by decide)
       · replace c29 := Bool.eq_false_iff.mpr c29
         subst c29
         have H1 : (if (t551.length : Int) = 0 then (if (t543.length : Int) > 12 then (some true) else ((impl_DutyCode.f kj6 t540 t543 t546 t547 t548 t549).bind fun t561 => (some (t561 != 0)))) else (some false)) = some r := by rw [if_neg (show ¬ (false = true) by decide)] at H; exact H
         clear H; have H := H1; clear H1
         by_cases c70 : (t551.length : Int) = 0
         · rw [if_pos c70] at H
           have c70b0 : ((t551.length : Int) == 0) = true := beq_iff_eq.mpr c70
           have c70b1 : ((t551.length : Int) != 0) = false := bne_eq_false_iff_eq.mpr c70
           clear c70
           by_cases c71 : (t543.length : Int) > 12
           · rw [if_pos c71] at H
             have c71b0 : decide (12 < (t543.length : Int)) = true := decide_eq_true c71
             have c71b1 : decide (12 < t543.length) = true := decide_eq_true (by omega)
             clear c71; obtain rfl := Option.some.inj H
             obtain ⟨Ao72, co72, eo72⟩ := Kd.R_slice HO_6.out
             subst eo72
             go_wp2; go_ret
             exact ⟨by first | rfl | (simp [errW_none, errW_some] <;> rfl) | (simp [*, errW_none, errW_some] <;> first | rfl | (simp [wrap64]; done)), nH1 HB.out GE550.out⟩
           · rw [if_neg c71] at H
             have c71b0 : decide (12 < (t543.length : Int)) = false := decide_eq_false c71
             have c71b1 : decide (12 < t543.length) = false := decide_eq_false (by omega)
             clear c71
             replace H := Option.bind_eq_some_iff.mp H
             obtain ⟨t561, A730, H⟩ := H
             replace H : (some (t561 != 0)) = some r := H
             have A73 := Aside0.mk A730
             clear A730; obtain rfl := Option.some.inj H
             obtain ⟨Ao74, co74, eo74⟩ := Kd.R_slice HO_6.out
             subst eo74
             have hcz75_0 : wc.cell? ⟨gb550, 0, none⟩ = some (.int .i64 t546) := (blk_cell BK550.out 0).trans rfl
             have hcz75_1 : wc.cell? ⟨gb550, 1, none⟩ = some (.int .i64 t547) := (blk_cell BK550.out 1).trans rfl
             have hcz75_2 : wc.cell? ⟨gb550, 2, none⟩ = some (.int .i64 t548) := (blk_cell BK550.out 2).trans rfl
             have hcz75_3 : wc.cell? ⟨gb550, 3, none⟩ = some (.int .i64 t549) := (blk_cell BK550.out 3).trans rfl
             have hfz75_0 := blk_frozen BK550.out 0
             have hfz75_1 := blk_frozen BK550.out 1
             have hfz75_2 := blk_frozen BK550.out 2
             have hfz75_3 := blk_frozen BK550.out 3
             go_wp2_with (first | (go_at_call 23; (with_reducible refine (impl_DutyCode.calls kj6 _ _ t540 _ _ t543 t546 t547 t548 t549 t561 _ ?side1 ?side2 ?side3 ?side4 A73.out).mono ?_); (case side1 => repeat (first | exact (Kd.R_reads' HO_3.out).2.2 | (with_reducible refine Kd.C_alloc ?_ _) | (with_reducible refine Kd.C_drewN ?_ _) | (with_reducible refine Kd.C_drew ?_))); (case side2 => exact (Kd.R_reads' HO_3.out).2.1); (case side3 => repeat (first | exact (Kd.R_reads' HO_4.out).2.2 | (with_reducible refine Kd.C_alloc ?_ _) | (with_reducible refine Kd.C_drewN ?_ _) | (with_reducible refine Kd.C_drew ?_))); (case side4 => exact (Kd.R_reads' HO_4.out).2.1); rintro e w76 ⟨rfl, hb⟩; have n0_ := Aside0.mk (Kd.R_below (nR HO_3.out) hb); have n1_ := Aside0.mk (Kd.R_below (nR HO_4.out) hb); have n2_ := Aside0.mk (Kd.R_below (nR HO_6.out) hb); have n3_ := Aside0.mk (blk_below (g := gb550) (o := .cells #[.int .i64 t546, .int .i64 t547, .int .i64 t548, .int .i64 t549] 25 (0, 0)) (nB BK550.out) hb); have n4_ := Aside0.mk (below_step (nH1 HB.out GE550.out) hb); clear HO_3; clear HO_4; clear HO_6; clear BK550; clear HB; have HO_3 := n0_; have HO_4 := n1_; have HO_6 := n2_; have BK550 := n3_; have HB := n4_; clear n0_ n1_ n2_ n3_ n4_; (try clear hb); (try clear hb2); (try clear hk); (try clear hi)))
             go_ret
             exact ⟨by first | rfl | (simp [errW_none, errW_some] <;> rfl) | (simp [*, errW_none, errW_some] <;> first | rfl | (simp [wrap64]; done)), nH1 HB.out GE550.out⟩
         · rw [if_neg c70] at H
           have c70b0 : ((t551.length : Int) == 0) = false := beq_eq_false_iff_ne.mpr c70
           have c70b1 : ((t551.length : Int) != 0) = true := bne_iff_ne.mpr c70
           have c70b2 : ¬ (t551 = []) := fun h_ => c70 (by rw [h_]; rfl)
           exact absurd ((Option.some.inj H).trans ht.out) (by decide)
/-- THE ONE PURE STATEMENT of laws_FnRelieve: yours. -/
theorem laws_FnRelieve.walk (P : laws_FnRelieve.Pure) (a0 : Option Addr) (len0 cap0 : Nat) (z0 : List Int) (w : World) (w0 : (a0 = none ∧ len0 = 0 ∧ cap0 = 0 ∧ z0 = []) ∨ ∃ x, a0 = some x ∧ len0 ≤ cap0 ∧ cap0 ≤ maxLen ∧ z0.length = cap0 ∧ (∀ i, i < z0.length → w.cell? (x.add i) = some (.int .u8 (z0.getD i 0))) ∧ ∀ n ∈ z0, (Lit.int .u8 n).wf = true) (y0 : len0 * 1 ≤ 140737488351232) :
 Calls Try.prog 9 #[.slice a0 len0 cap0] w fun e w' => e = .returned (.bool true) ∧ Below w.heap.size w w' := by
 obtain ⟨l0, rfl, hr0, hm0, hw0, hc0⟩ := ReadsInt.ofRowC w0
 obtain ⟨k, h⟩ := P l0 hm0 y0 hw0
 refine (laws_FnRelieve.calls k _ _ l0 true w (Kd.C_of_reads (d := (0 : Int)) (h1 := fun _ => rfl) hr0) hc0 ⟨rfl⟩ h).mono ?_
 rintro e w' ⟨rfl, hd⟩
 exact ⟨rfl, hd⟩
end Go.Proofs.Ytnamdbnnijfniaa.P
