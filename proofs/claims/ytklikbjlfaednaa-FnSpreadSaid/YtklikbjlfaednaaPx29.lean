/- Contracts of the functions of the program, each one with its plain Lean function; written by a program of the session out of the translation. -/
import Derived.Test.YtklikbjlfaednaaNb
import Derived.Test.YtklikbjlfaednaaPx0
import Derived.Test.YtklikbjlfaednaaPx6
import Derived.Test.YtklikbjlfaednaaPx10
import Derived.Test.YtklikbjlfaednaaPx11
import Derived.Test.YtklikbjlfaednaaPx12
import Derived.Test.YtklikbjlfaednaaPx26
import Derived.Test.YtklikbjlfaednaaPx27
import Derived.Test.YtklikbjlfaednaaPx28
namespace Go.Proofs.Ytklikbjlfaednaa.P
open Go.RowKit Go.Proofs.YtklikbjlfaednaaW.PrintWords Go.Proofs.YtklikbjlfaednaaW.PrintLast Go.Proofs.YtklikbjlfaednaaW.PrintMore
attribute [local go_sem] max2_int min2_int max_two min_two max_three min_three max_four min_four   -- for this text's walks alone
set_option linter.unusedVariables false
set_option linter.unusedSimpArgs false
/-! ### laws_FnSpread: function 8 -/
theorem laws_FnSpread.mono_l : ∀ k, (∀ y0 y1 y2 y3 y4, LeO (laws_FnSpread.l0 k y0 y1 y2 y3 y4) (laws_FnSpread.l0 (k + 1) y0 y1 y2 y3 y4)) ∧ (∀ y0 y1 y2 y3 y4 y5 y6 y7, LeO (laws_FnSpread.l1 k y0 y1 y2 y3 y4 y5 y6 y7) (laws_FnSpread.l1 (k + 1) y0 y1 y2 y3 y4 y5 y6 y7))
 | 0 => ⟨fun _ _ _ _ _ r h => by simp [laws_FnSpread.l0] at h, fun _ _ _ _ _ _ _ _ r h => by simp [laws_FnSpread.l1] at h⟩
 | k + 1 => by
  obtain ⟨ih0, ih1⟩ := laws_FnSpread.mono_l k
  refine ⟨?_, ?_⟩
  · intro y0 y1 y2 y3 y4
    unfold laws_FnSpread.l0
    repeat' first
    | (with_reducible exact ih0 _ _ _ _ _)
    | (with_reducible exact ih1 _ _ _ _ _ _ _ _)
    | (with_reducible exact laws_sameInts.mono _ _ _)
    | (with_reducible exact laws_within.mono _ _ _)
    | (with_reducible exact spec_DrawRightTrain.mono _ _)
    | (with_reducible exact spec_Spread.mono _ _ _ _ _ _)
    | (with_reducible exact LeO.refl _)
    | (with_reducible exact LeO.none _)
    | (with_reducible refine LeO.ite ?_ ?_)
    | (with_reducible refine LeO.bind ?_ (fun _ => ?_))
    | exact ih0 _ _ _ _ _
    | exact ih1 _ _ _ _ _ _ _ _
    | exact laws_sameInts.mono _ _ _
    | exact laws_within.mono _ _ _
    | exact spec_DrawRightTrain.mono _ _
    | exact spec_Spread.mono _ _ _ _ _ _
    | exact LeO.none _
    | refine LeO.ite ?_ ?_
    | refine LeO.bind ?_ (fun _ => ?_)
  · intro y0 y1 y2 y3 y4 y5 y6 y7
    unfold laws_FnSpread.l1
    repeat' first
    | (with_reducible exact ih0 _ _ _ _ _)
    | (with_reducible exact ih1 _ _ _ _ _ _ _ _)
    | (with_reducible exact laws_sameInts.mono _ _ _)
    | (with_reducible exact laws_within.mono _ _ _)
    | (with_reducible exact spec_DrawRightTrain.mono _ _)
    | (with_reducible exact spec_Spread.mono _ _ _ _ _ _)
    | (with_reducible exact LeO.refl _)
    | (with_reducible exact LeO.none _)
    | (with_reducible refine LeO.ite ?_ ?_)
    | (with_reducible refine LeO.bind ?_ (fun _ => ?_))
    | exact ih0 _ _ _ _ _
    | exact ih1 _ _ _ _ _ _ _ _
    | exact laws_sameInts.mono _ _ _
    | exact laws_within.mono _ _ _
    | exact spec_DrawRightTrain.mono _ _
    | exact spec_Spread.mono _ _ _ _ _ _
    | exact LeO.none _
    | refine LeO.ite ?_ ?_
    | refine LeO.bind ?_ (fun _ => ?_)
theorem laws_FnSpread.mono : ∀ a0 k, LeO (laws_FnSpread.f k a0) (laws_FnSpread.f (k + 1) a0) := by
 intro a0 k
 obtain ⟨ih0, ih1⟩ := laws_FnSpread.mono_l k
 unfold laws_FnSpread.f
 repeat' first
  | (with_reducible exact ih0 _ _ _ _ _)
  | (with_reducible exact ih1 _ _ _ _ _ _ _ _)
  | (with_reducible exact laws_sameInts.mono _ _ _)
  | (with_reducible exact laws_within.mono _ _ _)
  | (with_reducible exact spec_DrawRightTrain.mono _ _)
  | (with_reducible exact spec_Spread.mono _ _ _ _ _ _)
  | (with_reducible exact LeO.refl _)
  | (with_reducible exact LeO.none _)
  | (with_reducible refine LeO.ite ?_ ?_)
  | (with_reducible refine LeO.bind ?_ (fun _ => ?_))
  | exact ih0 _ _ _ _ _
  | exact ih1 _ _ _ _ _ _ _ _
  | exact laws_sameInts.mono _ _ _
  | exact laws_within.mono _ _ _
  | exact spec_DrawRightTrain.mono _ _
  | exact spec_Spread.mono _ _ _ _ _ _
  | exact LeO.none _
  | refine LeO.ite ?_ ?_
  | refine LeO.bind ?_ (fun _ => ?_)
def laws_FnSpread.T5 : Bool × List (List Nat × List Nat) := (true, [([], []), ([0], [0]), ([], []), ([2], [2]), ([], []), ([4], [4]), ([], []), ([5, 6], [5, 6]), ([3, 7], [3, 7]), ([1, 8], [1, 8]), ([9, 3, 0, 1, 2, 3, 4, 5, 6, 7, 8, 9], [9])])
def laws_FnSpread.B5 : List Nat := [0, 1, 0, 4, 0, 16, 0, 112, 252, 511, 1023]
theorem laws_FnSpread.tab5 : rtab .any (opsOf Try.f8 5) = laws_FnSpread.T5 := by kernel_rfl
theorem laws_FnSpread.bits5 : waitsOk laws_FnSpread.T5.2 laws_FnSpread.B5 = true := by kernel_rfl
def laws_FnSpread.T22 : Bool × List (List Nat × List Nat) := (true, [([], []), ([], []), ([], []), ([1, 2], [1, 2]), ([], []), ([], []), ([4, 5], [4, 5]), ([6], [6]), ([0, 3, 7], [0, 3, 7]), ([], []), ([], []), ([9, 10], [9, 10]), ([11], [11]), ([8, 12, 8], [8, 12]), ([13], [13])])
def laws_FnSpread.B22 : List Nat := [0, 0, 0, 6, 0, 0, 48, 112, 255, 0, 0, 1536, 3584, 8191, 16383]
theorem laws_FnSpread.tab22 : rtab .any (opsOf Try.f8 22) = laws_FnSpread.T22 := by kernel_rfl
theorem laws_FnSpread.bits22 : waitsOk laws_FnSpread.T22.2 laws_FnSpread.B22 = true := by kernel_rfl
def laws_FnSpread.T24 : Bool × List (List Nat × List Nat) := (true, [([], []), ([], []), ([0, 1], [0, 1]), ([2], [2]), ([], []), ([4], [4]), ([5], [5]), ([3, 6], [3, 6])])
def laws_FnSpread.B24 : List Nat := [0, 0, 3, 7, 0, 16, 48, 127]
theorem laws_FnSpread.tab24 : rtab .any (opsOf Try.f8 24) = laws_FnSpread.T24 := by kernel_rfl
theorem laws_FnSpread.bits24 : waitsOk laws_FnSpread.T24.2 laws_FnSpread.B24 = true := by kernel_rfl
set_option maxHeartbeats 8000000 in
set_option maxRecDepth 100000 in
theorem laws_FnSpread.calls (k : Nat) (A0 : Option Addr) (c0 : Nat) (l0 : List Int) (r : Bool) (w : World) (hr0 : Kd.C (Kd.int .u8) w A0 l0.length l0) (hc0 : l0.length ≤ c0) (ht : Aside0 (r = true)) (h : laws_FnSpread.f k l0 = some r) :
 Calls Try.prog 8 #[.slice A0 l0.length c0] w fun e w' => e = .returned (.bool r) ∧ Below w.heap.size w w' := by
 have hu29 := Try.underlying29
 have HR0 := Aside0.mk hr0
 have HC0 := Aside0.mk hc0
 clear hr0 hc0
 have HB := Aside0.mk (Below.refl w.heap.size w)
 have H : ((laws_big.f l0).bind fun t384 => (if t384 = true then (some true) else ((spec_DrawRightTrain.f k l0).bind fun bt385 => ((laws_at.f l0 3).bind fun t394 => (if bt385.2.1 = 0 then (none) else ((laws_at.f l0 4).bind fun t395 => (if (wrap64 (bt385.2.1 - (Int.tmod t394 bt385.2.1))) = 0 then (none) else ((impl_Spread.f bt385.1 bt385.2.1 bt385.2.2.1 (Int.tmod t394 bt385.2.1) (wrap64 ((wrap64 ((Int.tmod t394 bt385.2.1) + 1)) + (Int.tmod t395 (wrap64 (bt385.2.1 - (Int.tmod t394 bt385.2.1))))))).bind fun t396 => ((spec_Spread.f k bt385.1 bt385.2.1 bt385.2.2.1 (Int.tmod t394 bt385.2.1) (wrap64 ((wrap64 ((Int.tmod t394 bt385.2.1) + 1)) + (Int.tmod t395 (wrap64 (bt385.2.1 - (Int.tmod t394 bt385.2.1))))))).bind fun t399 => ((laws_sameInts.f k t396 t399).bind fun t402 => (if t402 = true then (if (t396.length : Int) = 0 then (laws_FnSpread.l0 k (wrap64 ((wrap64 ((Int.tmod t394 bt385.2.1) + 1)) + (Int.tmod t395 (wrap64 (bt385.2.1 - (Int.tmod t394 bt385.2.1)))))) (Int.tmod t394 bt385.2.1) bt385.1 bt385.2.1 bt385.2.2.1) else (if (t396.length : Int) = (wrap64 ((wrap64 ((wrap64 ((Int.tmod t394 bt385.2.1) + 1)) + (Int.tmod t395 (wrap64 (bt385.2.1 - (Int.tmod t394 bt385.2.1)))))) - (Int.tmod t394 bt385.2.1))) then (laws_FnSpread.l1 k (Int.tmod t394 bt385.2.1) (wrap64 ((wrap64 ((Int.tmod t394 bt385.2.1) + 1)) + (Int.tmod t395 (wrap64 (bt385.2.1 - (Int.tmod t394 bt385.2.1)))))) t396 true 0 bt385.1 bt385.2.1 bt385.2.2.1) else (some false))) else (some false)))))))))))) = some r := h
 clear h
 replace H := Option.bind_eq_some_iff.mp H
 obtain ⟨t384, A20, H⟩ := H
 replace H : (if t384 = true then (some true) else ((spec_DrawRightTrain.f k l0).bind fun bt385 => ((laws_at.f l0 3).bind fun t394 => (if bt385.2.1 = 0 then (none) else ((laws_at.f l0 4).bind fun t395 => (if (wrap64 (bt385.2.1 - (Int.tmod t394 bt385.2.1))) = 0 then (none) else ((impl_Spread.f bt385.1 bt385.2.1 bt385.2.2.1 (Int.tmod t394 bt385.2.1) (wrap64 ((wrap64 ((Int.tmod t394 bt385.2.1) + 1)) + (Int.tmod t395 (wrap64 (bt385.2.1 - (Int.tmod t394 bt385.2.1))))))).bind fun t396 => ((spec_Spread.f k bt385.1 bt385.2.1 bt385.2.2.1 (Int.tmod t394 bt385.2.1) (wrap64 ((wrap64 ((Int.tmod t394 bt385.2.1) + 1)) + (Int.tmod t395 (wrap64 (bt385.2.1 - (Int.tmod t394 bt385.2.1))))))).bind fun t399 => ((laws_sameInts.f k t396 t399).bind fun t402 => (if t402 = true then (if (t396.length : Int) = 0 then (laws_FnSpread.l0 k (wrap64 ((wrap64 ((Int.tmod t394 bt385.2.1) + 1)) + (Int.tmod t395 (wrap64 (bt385.2.1 - (Int.tmod t394 bt385.2.1)))))) (Int.tmod t394 bt385.2.1) bt385.1 bt385.2.1 bt385.2.2.1) else (if (t396.length : Int) = (wrap64 ((wrap64 ((wrap64 ((Int.tmod t394 bt385.2.1) + 1)) + (Int.tmod t395 (wrap64 (bt385.2.1 - (Int.tmod t394 bt385.2.1)))))) - (Int.tmod t394 bt385.2.1))) then (laws_FnSpread.l1 k (Int.tmod t394 bt385.2.1) (wrap64 ((wrap64 ((Int.tmod t394 bt385.2.1) + 1)) + (Int.tmod t395 (wrap64 (bt385.2.1 - (Int.tmod t394 bt385.2.1)))))) t396 true 0 bt385.1 bt385.2.1 bt385.2.2.1) else (some false))) else (some false))))))))))) = some r := H
 have A2 := Aside0.mk A20
 clear A20
 by_cases c3 : t384 = true
 · subst c3
   have H1 : (some true) = some r := by rw [if_pos rfl] at H; exact H
   clear H; have H := H1; clear H1; obtain rfl := Option.some.inj H
   go_enter Try.func8, Try.ntmps8
   go_wp2_with (first | ((with_reducible refine gate_callee (f := 30) rfl ?_); refine goesL_ (some 12) rfl rfl Try.func30 (by kernel_rfl) rfl #[.slice A0 l0.length c0] rfl (by (try simp only [List.map_toArray, List.map_cons, List.map_nil]); first | done | rfl | (simp only [List.length_drop, List.length_take]; rfl)) ?_; (with_reducible refine (laws_big.calls _ _ l0 true _ ?side1 ?side2 A2.out).mono ?_); (case side1 => repeat (first | exact HR0.out | (with_reducible refine Kd.C_alloc ?_ _) | (with_reducible refine Kd.C_drewN ?_ _) | (with_reducible refine Kd.C_drew ?_))); (case side2 => exact HC0.out); rintro e w' ⟨rfl, ⟨nd, rfl⟩⟩; refine ⟨_, rfl, ?_⟩))
   go_ret
   exact ⟨by first | rfl | (simp [errW_none, errW_some] <;> rfl) | (simp [*, errW_none, errW_some] <;> first | rfl | (simp [wrap64]; done)), nH HB.out⟩
 · replace c3 := Bool.eq_false_iff.mpr c3
   subst c3
   have H1 : ((spec_DrawRightTrain.f k l0).bind fun bt385 => ((laws_at.f l0 3).bind fun t394 => (if bt385.2.1 = 0 then (none) else ((laws_at.f l0 4).bind fun t395 => (if (wrap64 (bt385.2.1 - (Int.tmod t394 bt385.2.1))) = 0 then (none) else ((impl_Spread.f bt385.1 bt385.2.1 bt385.2.2.1 (Int.tmod t394 bt385.2.1) (wrap64 ((wrap64 ((Int.tmod t394 bt385.2.1) + 1)) + (Int.tmod t395 (wrap64 (bt385.2.1 - (Int.tmod t394 bt385.2.1))))))).bind fun t396 => ((spec_Spread.f k bt385.1 bt385.2.1 bt385.2.2.1 (Int.tmod t394 bt385.2.1) (wrap64 ((wrap64 ((Int.tmod t394 bt385.2.1) + 1)) + (Int.tmod t395 (wrap64 (bt385.2.1 - (Int.tmod t394 bt385.2.1))))))).bind fun t399 => ((laws_sameInts.f k t396 t399).bind fun t402 => (if t402 = true then (if (t396.length : Int) = 0 then (laws_FnSpread.l0 k (wrap64 ((wrap64 ((Int.tmod t394 bt385.2.1) + 1)) + (Int.tmod t395 (wrap64 (bt385.2.1 - (Int.tmod t394 bt385.2.1)))))) (Int.tmod t394 bt385.2.1) bt385.1 bt385.2.1 bt385.2.2.1) else (if (t396.length : Int) = (wrap64 ((wrap64 ((wrap64 ((Int.tmod t394 bt385.2.1) + 1)) + (Int.tmod t395 (wrap64 (bt385.2.1 - (Int.tmod t394 bt385.2.1)))))) - (Int.tmod t394 bt385.2.1))) then (laws_FnSpread.l1 k (Int.tmod t394 bt385.2.1) (wrap64 ((wrap64 ((Int.tmod t394 bt385.2.1) + 1)) + (Int.tmod t395 (wrap64 (bt385.2.1 - (Int.tmod t394 bt385.2.1)))))) t396 true 0 bt385.1 bt385.2.1 bt385.2.2.1) else (some false))) else (some false)))))))))) = some r := by rw [if_neg (show ¬ (false = true) by decide)] at H; exact H
   clear H; have H := H1; clear H1
   replace H := Option.bind_eq_some_iff.mp H
   obtain ⟨⟨t385, t386, t387, t390⟩, A40, H⟩ := H
   replace H : ((laws_at.f l0 3).bind fun t394 => (if t386 = 0 then (none) else ((laws_at.f l0 4).bind fun t395 => (if (wrap64 (t386 - (Int.tmod t394 t386))) = 0 then (none) else ((impl_Spread.f t385 t386 t387 (Int.tmod t394 t386) (wrap64 ((wrap64 ((Int.tmod t394 t386) + 1)) + (Int.tmod t395 (wrap64 (t386 - (Int.tmod t394 t386))))))).bind fun t396 => ((spec_Spread.f k t385 t386 t387 (Int.tmod t394 t386) (wrap64 ((wrap64 ((Int.tmod t394 t386) + 1)) + (Int.tmod t395 (wrap64 (t386 - (Int.tmod t394 t386))))))).bind fun t399 => ((laws_sameInts.f k t396 t399).bind fun t402 => (if t402 = true then (if (t396.length : Int) = 0 then (laws_FnSpread.l0 k (wrap64 ((wrap64 ((Int.tmod t394 t386) + 1)) + (Int.tmod t395 (wrap64 (t386 - (Int.tmod t394 t386)))))) (Int.tmod t394 t386) t385 t386 t387) else (if (t396.length : Int) = (wrap64 ((wrap64 ((wrap64 ((Int.tmod t394 t386) + 1)) + (Int.tmod t395 (wrap64 (t386 - (Int.tmod t394 t386)))))) - (Int.tmod t394 t386))) then (laws_FnSpread.l1 k (Int.tmod t394 t386) (wrap64 ((wrap64 ((Int.tmod t394 t386) + 1)) + (Int.tmod t395 (wrap64 (t386 - (Int.tmod t394 t386)))))) t396 true 0 t385 t386 t387) else (some false))) else (some false))))))))) = some r := H
   have A4 := Aside0.mk A40
   clear A40
   replace H := Option.bind_eq_some_iff.mp H
   obtain ⟨t394, A50, H⟩ := H
   replace H : (if t386 = 0 then (none) else ((laws_at.f l0 4).bind fun t395 => (if (wrap64 (t386 - (Int.tmod t394 t386))) = 0 then (none) else ((impl_Spread.f t385 t386 t387 (Int.tmod t394 t386) (wrap64 ((wrap64 ((Int.tmod t394 t386) + 1)) + (Int.tmod t395 (wrap64 (t386 - (Int.tmod t394 t386))))))).bind fun t396 => ((spec_Spread.f k t385 t386 t387 (Int.tmod t394 t386) (wrap64 ((wrap64 ((Int.tmod t394 t386) + 1)) + (Int.tmod t395 (wrap64 (t386 - (Int.tmod t394 t386))))))).bind fun t399 => ((laws_sameInts.f k t396 t399).bind fun t402 => (if t402 = true then (if (t396.length : Int) = 0 then (laws_FnSpread.l0 k (wrap64 ((wrap64 ((Int.tmod t394 t386) + 1)) + (Int.tmod t395 (wrap64 (t386 - (Int.tmod t394 t386)))))) (Int.tmod t394 t386) t385 t386 t387) else (if (t396.length : Int) = (wrap64 ((wrap64 ((wrap64 ((Int.tmod t394 t386) + 1)) + (Int.tmod t395 (wrap64 (t386 - (Int.tmod t394 t386)))))) - (Int.tmod t394 t386))) then (laws_FnSpread.l1 k (Int.tmod t394 t386) (wrap64 ((wrap64 ((Int.tmod t394 t386) + 1)) + (Int.tmod t395 (wrap64 (t386 - (Int.tmod t394 t386)))))) t396 true 0 t385 t386 t387) else (some false))) else (some false)))))))) = some r := H
   have A5 := Aside0.mk A50
   clear A50
   by_cases c6 : t386 = 0
   · rw [if_pos c6] at H
     exact absurd H (by simp)
   · rw [if_neg c6] at H
     have c6b0 : (t386 == 0) = false := beq_eq_false_iff_ne.mpr c6
     have c6b1 : (t386 != 0) = true := bne_iff_ne.mpr c6
     replace H := Option.bind_eq_some_iff.mp H
     obtain ⟨t395, A70, H⟩ := H
     replace H : (if (wrap64 (t386 - (Int.tmod t394 t386))) = 0 then (none) else ((impl_Spread.f t385 t386 t387 (Int.tmod t394 t386) (wrap64 ((wrap64 ((Int.tmod t394 t386) + 1)) + (Int.tmod t395 (wrap64 (t386 - (Int.tmod t394 t386))))))).bind fun t396 => ((spec_Spread.f k t385 t386 t387 (Int.tmod t394 t386) (wrap64 ((wrap64 ((Int.tmod t394 t386) + 1)) + (Int.tmod t395 (wrap64 (t386 - (Int.tmod t394 t386))))))).bind fun t399 => ((laws_sameInts.f k t396 t399).bind fun t402 => (if t402 = true then (if (t396.length : Int) = 0 then (laws_FnSpread.l0 k (wrap64 ((wrap64 ((Int.tmod t394 t386) + 1)) + (Int.tmod t395 (wrap64 (t386 - (Int.tmod t394 t386)))))) (Int.tmod t394 t386) t385 t386 t387) else (if (t396.length : Int) = (wrap64 ((wrap64 ((wrap64 ((Int.tmod t394 t386) + 1)) + (Int.tmod t395 (wrap64 (t386 - (Int.tmod t394 t386)))))) - (Int.tmod t394 t386))) then (laws_FnSpread.l1 k (Int.tmod t394 t386) (wrap64 ((wrap64 ((Int.tmod t394 t386) + 1)) + (Int.tmod t395 (wrap64 (t386 - (Int.tmod t394 t386)))))) t396 true 0 t385 t386 t387) else (some false))) else (some false)))))) = some r := H
     have A7 := Aside0.mk A70
     clear A70
     by_cases c8 : (wrap64 (t386 - (Int.tmod t394 t386))) = 0
     · rw [if_pos c8] at H
       exact absurd H (by simp)
     · rw [if_neg c8] at H
       have c8b0 : ((wrap64 (t386 - (Int.tmod t394 t386))) == 0) = false := beq_eq_false_iff_ne.mpr c8
       have c8b1 : ((wrap64 (t386 - (Int.tmod t394 t386))) != 0) = true := bne_iff_ne.mpr c8
       replace H := Option.bind_eq_some_iff.mp H
       obtain ⟨t396, A90, H⟩ := H
       replace H : ((spec_Spread.f k t385 t386 t387 (Int.tmod t394 t386) (wrap64 ((wrap64 ((Int.tmod t394 t386) + 1)) + (Int.tmod t395 (wrap64 (t386 - (Int.tmod t394 t386))))))).bind fun t399 => ((laws_sameInts.f k t396 t399).bind fun t402 => (if t402 = true then (if (t396.length : Int) = 0 then (laws_FnSpread.l0 k (wrap64 ((wrap64 ((Int.tmod t394 t386) + 1)) + (Int.tmod t395 (wrap64 (t386 - (Int.tmod t394 t386)))))) (Int.tmod t394 t386) t385 t386 t387) else (if (t396.length : Int) = (wrap64 ((wrap64 ((wrap64 ((Int.tmod t394 t386) + 1)) + (Int.tmod t395 (wrap64 (t386 - (Int.tmod t394 t386)))))) - (Int.tmod t394 t386))) then (laws_FnSpread.l1 k (Int.tmod t394 t386) (wrap64 ((wrap64 ((Int.tmod t394 t386) + 1)) + (Int.tmod t395 (wrap64 (t386 - (Int.tmod t394 t386)))))) t396 true 0 t385 t386 t387) else (some false))) else (some false)))) = some r := H
       have A9 := Aside0.mk A90
       clear A90
       replace H := Option.bind_eq_some_iff.mp H
       obtain ⟨t399, A100, H⟩ := H
       replace H : ((laws_sameInts.f k t396 t399).bind fun t402 => (if t402 = true then (if (t396.length : Int) = 0 then (laws_FnSpread.l0 k (wrap64 ((wrap64 ((Int.tmod t394 t386) + 1)) + (Int.tmod t395 (wrap64 (t386 - (Int.tmod t394 t386)))))) (Int.tmod t394 t386) t385 t386 t387) else (if (t396.length : Int) = (wrap64 ((wrap64 ((wrap64 ((Int.tmod t394 t386) + 1)) + (Int.tmod t395 (wrap64 (t386 - (Int.tmod t394 t386)))))) - (Int.tmod t394 t386))) then (laws_FnSpread.l1 k (Int.tmod t394 t386) (wrap64 ((wrap64 ((Int.tmod t394 t386) + 1)) + (Int.tmod t395 (wrap64 (t386 - (Int.tmod t394 t386)))))) t396 true 0 t385 t386 t387) else (some false))) else (some false))) = some r := H
       have A10 := Aside0.mk A100
       clear A100
       replace H := Option.bind_eq_some_iff.mp H
       obtain ⟨t402, A110, H⟩ := H
       replace H : (if t402 = true then (if (t396.length : Int) = 0 then (laws_FnSpread.l0 k (wrap64 ((wrap64 ((Int.tmod t394 t386) + 1)) + (Int.tmod t395 (wrap64 (t386 - (Int.tmod t394 t386)))))) (Int.tmod t394 t386) t385 t386 t387) else (if (t396.length : Int) = (wrap64 ((wrap64 ((wrap64 ((Int.tmod t394 t386) + 1)) + (Int.tmod t395 (wrap64 (t386 - (Int.tmod t394 t386)))))) - (Int.tmod t394 t386))) then (laws_FnSpread.l1 k (Int.tmod t394 t386) (wrap64 ((wrap64 ((Int.tmod t394 t386) + 1)) + (Int.tmod t395 (wrap64 (t386 - (Int.tmod t394 t386)))))) t396 true 0 t385 t386 t387) else (some false))) else (some false)) = some r := H
       have A11 := Aside0.mk A110
       clear A110
       by_cases c12 : t402 = true
       · subst c12
         have H1 : (if (t396.length : Int) = 0 then (laws_FnSpread.l0 k (wrap64 ((wrap64 ((Int.tmod t394 t386) + 1)) + (Int.tmod t395 (wrap64 (t386 - (Int.tmod t394 t386)))))) (Int.tmod t394 t386) t385 t386 t387) else (if (t396.length : Int) = (wrap64 ((wrap64 ((wrap64 ((Int.tmod t394 t386) + 1)) + (Int.tmod t395 (wrap64 (t386 - (Int.tmod t394 t386)))))) - (Int.tmod t394 t386))) then (laws_FnSpread.l1 k (Int.tmod t394 t386) (wrap64 ((wrap64 ((Int.tmod t394 t386) + 1)) + (Int.tmod t395 (wrap64 (t386 - (Int.tmod t394 t386)))))) t396 true 0 t385 t386 t387) else (some false))) = some r := by rw [if_pos rfl] at H; exact H
         clear H; have H := H1; clear H1
         by_cases c13 : (t396.length : Int) = 0
         · rw [if_pos c13] at H
           have c13b0 : ((t396.length : Int) == 0) = true := beq_iff_eq.mpr c13
           have c13b1 : ((t396.length : Int) != 0) = false := bne_eq_false_iff_eq.mpr c13
           clear c13
           have H' := Aside0.mk H
           clear H
           go_enter Try.func8, Try.ntmps8
           try go_wp2_with (first | ((with_reducible refine gate_callee (f := 30) rfl ?_); refine goesL_ (some 12) rfl rfl Try.func30 (by kernel_rfl) rfl #[.slice A0 l0.length c0] rfl (by (try simp only [List.map_toArray, List.map_cons, List.map_nil]); first | done | rfl | (simp only [List.length_drop, List.length_take]; rfl)) ?_; (with_reducible refine (laws_big.calls _ _ l0 false _ ?side1 ?side2 A2.out).mono ?_); (case side1 => repeat (first | exact HR0.out | (with_reducible refine Kd.C_alloc ?_ _) | (with_reducible refine Kd.C_drewN ?_ _) | (with_reducible refine Kd.C_drew ?_))); (case side2 => exact HC0.out); rintro e w' ⟨rfl, ⟨nd, rfl⟩⟩; refine ⟨_, rfl, ?_⟩) | ((with_reducible refine gate_callee (f := 31) rfl ?_); refine goesL_ (some 15) rfl rfl Try.func31 (by kernel_rfl) rfl #[.slice A0 l0.length c0] rfl (by (try simp only [List.map_toArray, List.map_cons, List.map_nil]); first | done | rfl | (simp only [List.length_drop, List.length_take]; rfl)) ?_; (with_reducible refine (spec_DrawRightTrain.calls k _ _ l0 t385 t386 t387 t390 _ ?side1 ?side2 A4.out).mono ?_); (case side1 => repeat (first | exact HR0.out | (with_reducible refine Kd.C_alloc ?_ _) | (with_reducible refine Kd.C_drewN ?_ _) | (with_reducible refine Kd.C_drew ?_))); (case side2 => exact HC0.out); rintro e w14 ⟨v388, v391, rfl, ho0, ho1, hb⟩; refine ⟨_, rfl, ?_⟩; have n0_ := Aside0.mk (Kd.R_lower ho0 (below_size (nH HB.out))); have n1_ := Aside0.mk (Kd.R_lower ho1 (below_size (nH HB.out))); have n2_ := Aside0.mk (below_step (nH HB.out) hb); clear HB; have HO389 := n0_; have HO392 := n1_; have HB := n2_; clear n0_ n1_ n2_; (try clear hb); (try clear hb2); (try clear hk); (try clear hi); (try clear ho0); (try clear ho1)) | ((with_reducible refine gate_dst (N := 3) rfl ?_); refine box_event ?hg (N := 3) ?hd (cs := #[.int .i64 0, .int .i64 0, .slice none 0 0]) (t := 29) ?hr ?_; (case hd => rfl); (case hg => rfl); (case hr => first | (go_simp; done) | (go_simp; rfl)); intro gb393 hg w15 hbox hb; have n0_ := Aside0.mk (Kd.R_below (nR HO389.out) hb); have n1_ := Aside0.mk (Kd.R_below (nR HO392.out) hb); have n2_ := Aside0.mk (below_step (nH HB.out) hb); have n3_ := Aside0.mk (hbox); have n4_ := Aside0.mk ((by rw [hg]; exact (below_size (nH HB.out)) : w.heap.size ≤ gb393)); have n5_ := Aside0.mk ((by rw [hg]; exact (below_size (nH HB.out)) : w.heap.size ≤ gb393)); clear HO389; clear HO392; clear HB; have HO389 := n0_; have HO392 := n1_; have HB := n2_; have BK393 := n3_; have GW393 := n4_; have GE393 := n5_; clear n0_ n1_ n2_ n3_ n4_ n5_; clear hb hbox hg; have hcz16_0 : w15.cell? ⟨gb393, 0, none⟩ = some (.int .i64 0) := (blk_cell BK393.out 0).trans rfl; have hcz16_1 : w15.cell? ⟨gb393, 1, none⟩ = some (.int .i64 0) := (blk_cell BK393.out 1).trans rfl; have hcz16_2 : w15.cell? ⟨gb393, 2, none⟩ = some (.slice none 0 0) := (blk_cell BK393.out 2).trans rfl; have hfz16_0 := blk_frozen BK393.out 0; have hfz16_1 := blk_frozen BK393.out 1; have hfz16_2 := blk_frozen BK393.out 2; obtain ⟨Ao17, co17, eo17⟩ := Kd.R_slice HO389.out; subst eo17))
           have n0_ : Aside0 (Kd.R k66 66 (((w15.setCell ⟨gb393, 0, none⟩ (.int .i64 t385)).setCell ⟨gb393, 1, none⟩ (.int .i64 t386)).setCell ⟨gb393, 2, none⟩ (.slice Ao17 t387.length co17)) w.heap.size (fun _ => True) (.slice Ao17 t387.length co17) t387) := ⟨by (with_reducible repeat (first | apply Kd.R_alloc | apply Kd.R_drewN | apply Kd.R_drew)); exact Kd.R_mono (Kd.R_far (p := ⟨gb393, 2, none⟩) (Kd.R_far (p := ⟨gb393, 1, none⟩) (Kd.R_far (p := ⟨gb393, 0, none⟩) (Kd.R_types HO389.out BK393.out (by decide)) (fun _ hk => hk.2) (.int .i64 t385)) (fun _ hk => hk.2) (.int .i64 t386)) (fun _ hk => hk.2) (.slice Ao17 t387.length co17)) (fun _ hk => trivial)⟩
           have n1_ : Aside0 (Kd.R k56 56 (((w15.setCell ⟨gb393, 0, none⟩ (.int .i64 t385)).setCell ⟨gb393, 1, none⟩ (.int .i64 t386)).setCell ⟨gb393, 2, none⟩ (.slice Ao17 t387.length co17)) w.heap.size (fun _ => True) v391 t390) := ⟨by (with_reducible repeat (first | apply Kd.R_alloc | apply Kd.R_drewN | apply Kd.R_drew)); exact Kd.R_mono (Kd.R_far (p := ⟨gb393, 2, none⟩) (Kd.R_far (p := ⟨gb393, 1, none⟩) (Kd.R_far (p := ⟨gb393, 0, none⟩) (Kd.R_types HO392.out BK393.out (by decide)) (fun _ hk => hk.2) (.int .i64 t385)) (fun _ hk => hk.2) (.int .i64 t386)) (fun _ hk => hk.2) (.slice Ao17 t387.length co17)) (fun _ hk => trivial)⟩
           have n2_ : Aside0 ((((w15.setCell ⟨gb393, 0, none⟩ (.int .i64 t385)).setCell ⟨gb393, 1, none⟩ (.int .i64 t386)).setCell ⟨gb393, 2, none⟩ (.slice Ao17 t387.length co17)).heap[gb393]? = some (.cells #[.int .i64 t385, .int .i64 t386, .slice Ao17 t387.length co17] 29 (0, 0))) := ⟨by (with_reducible repeat (first | refine blk_drewN ?_ _ | refine blk_drew ?_ | refine blk_alloc ?_ _)); refine blk_put (cs := #[.int .i64 t385, .int .i64 t386, .slice none 0 0]) ?_ 2 _ rfl; (with_reducible repeat (first | refine blk_drewN ?_ _ | refine blk_drew ?_ | refine blk_alloc ?_ _)); refine blk_put (cs := #[.int .i64 t385, .int .i64 0, .slice none 0 0]) ?_ 1 _ rfl; (with_reducible repeat (first | refine blk_drewN ?_ _ | refine blk_drew ?_ | refine blk_alloc ?_ _)); refine blk_put (cs := #[.int .i64 0, .int .i64 0, .slice none 0 0]) ?_ 0 _ rfl; (with_reducible repeat (first | refine blk_drewN ?_ _ | refine blk_drew ?_ | refine blk_alloc ?_ _)); exact BK393.out⟩
           have n3_ : Aside0 (Below w.heap.size w (((w15.setCell ⟨gb393, 0, none⟩ (.int .i64 t385)).setCell ⟨gb393, 1, none⟩ (.int .i64 t386)).setCell ⟨gb393, 2, none⟩ (.slice Ao17 t387.length co17))) := ⟨nH1 HB.out GE393.out⟩
           (try clear HO389); (try clear HO392); (try clear BK393); (try clear HB)
           generalize (((w15.setCell ⟨gb393, 0, none⟩ (.int .i64 t385)).setCell ⟨gb393, 1, none⟩ (.int .i64 t386)).setCell ⟨gb393, 2, none⟩ (.slice Ao17 t387.length co17)) = w18 at n0_ n1_ n2_ n3_ ⊢
           have HO389 := n0_; have HO392 := n1_; have BK393 := n2_; have HB := n3_; clear n0_ n1_ n2_ n3_
           have n0_ := Aside0.mk (Kd.R_drew HO389.out)
           have n1_ := Aside0.mk (Kd.R_drew HO392.out)
           have n2_ := Aside0.mk (blk_drew BK393.out)
           have n3_ := Aside0.mk (below_drew1 HB.out)
           clear HO389; clear HO392; clear BK393; clear HB; have HO389 := n0_; have HO392 := n1_; have BK393 := n2_; have HB := n3_; clear n0_ n1_ n2_ n3_
           refine start_ (n := 6) (S := fun w' => w'.cell? ⟨gb393, 0, none⟩ = some (.int .i64 t385) ∧ w'.cell? ⟨gb393, 1, none⟩ = some (.int .i64 t386) ∧ w'.cell? ⟨gb393, 2, none⟩ = some (.slice Ao17 t387.length co17)) (ds := []) #[F,F,F,F,F,F] (by kernel_rfl) rfl rfl ⟨(blk_cell BK393.out 0).trans rfl, (blk_cell BK393.out 1).trans rfl, (blk_cell BK393.out 2).trans rfl⟩ (fun hHeld => ?_)
           generalize w18.drew = w19 at HO389 HO392 BK393 HB hHeld ⊢
           refine pK 0 (some 18) #[T,F,F,F,F,F] rfl rfl ?_
           refine pK 2 (some 20) #[T,F,T,F,F,F] rfl rfl ?_
           refine take_ (i := 3) (N := some 21) (v := ?_) (a' := ?_) #[T,F,T,T,F,F] rfl rfl (by kernel_rfl) (fun _ _ _ h => h) (Or.inl ⟨by rfl, ?_⟩) hHeld ?_ ?_
           rotate_left
           · rintro w' ⟨s0, s1, s2⟩
             go_simp; with_reducible rfl
           rotate_left
           · simp only [Act.put, List.setIfInBounds_toArray, List.set_cons_zero, List.set_cons_succ, i64_w, i32_w]
             rfl
           refine one_ (i := 1) (N := some 19) #[T,T,T,T,F,F] rfl rfl (by kernel_rfl) (by decide) (fun K hK => ?_)
           refine goes_ Try.func32 (by kernel_rfl) rfl #[.slice A0 l0.length c0, .int .i64 3] (by rfl) rfl rfl (by (try simp only [List.map_toArray, List.map_cons, List.map_nil]); first | done | rfl | (simp only [List.length_drop, List.length_take]; rfl)) ?_
           with_reducible refine (laws_at.calls _ _ l0 3 t394 _ ?side1 ?side2 A5.out).mono ?_
           (case side1 => repeat (first | exact (Kd.C_below HR0.out HB.out) | (with_reducible refine Kd.C_alloc ?_ _) | (with_reducible refine Kd.C_drewN ?_ _) | (with_reducible refine Kd.C_drew ?_)))
           (case side2 => exact HC0.out)
           rintro e w' ⟨rfl, ⟨nd, rfl⟩⟩
           refine ⟨_, rfl, ?_⟩
           refine hK.out _ _ ⟨(blk_cell BK393.out 0).trans rfl, (blk_cell BK393.out 1).trans rfl, (blk_cell BK393.out 2).trans rfl⟩ (fun hHeld => ?_)
           clear hK K
           refine norm_ (a' := ?_) ?_ ?_
           rotate_left
           · show Act.put _ (some 19) _ = _
             simp only [Act.put, List.setIfInBounds_toArray, List.set_cons_zero, List.set_cons_succ, i64_w, i32_w]
             rfl
           refine pK 4 (some 22) #[T,T,T,T,T,F] rfl rfl ?_
           refine pK 5 (some 5) #[T,T,T,T,T,T] rfl rfl ?_
           refine done_ (by kernel_rfl) ?_
           try go_wp2
           (try (rw [drewN_self w19]; generalize hq_ : World.drewN w19 _ = w19; have n0_ : Aside0 (Kd.R k66 66 w19 w.heap.size (fun _ => True) (.slice Ao17 t387.length co17) t387) := ⟨by rw [← hq_]; exact (nR HO389.out)⟩; have n1_ : Aside0 (Kd.R k56 56 w19 w.heap.size (fun _ => True) v391 t390) := ⟨by rw [← hq_]; exact (nR HO392.out)⟩; have n2_ : Aside0 (w19.heap[gb393]? = some (.cells #[.int .i64 t385, .int .i64 t386, .slice Ao17 t387.length co17] 29 (0, 0))) := ⟨by rw [← hq_]; exact (nB BK393.out)⟩; have n3_ : Aside0 (Below w.heap.size w w19) := ⟨by rw [← hq_]; exact (nH1 HB.out GE393.out)⟩; clear HO389 HO392 BK393 HB hq_; have HO389 := n0_; have HO392 := n1_; have BK393 := n2_; have HB := n3_; clear n0_ n1_ n2_ n3_))
           have n0_ := Aside0.mk (Kd.R_drew HO389.out)
           have n1_ := Aside0.mk (Kd.R_drew HO392.out)
           have n2_ := Aside0.mk (blk_drew BK393.out)
           have n3_ := Aside0.mk (below_drew1 HB.out)
           clear HO389; clear HO392; clear BK393; clear HB; have HO389 := n0_; have HO392 := n1_; have BK393 := n2_; have HB := n3_; clear n0_ n1_ n2_ n3_
           refine start_ (n := 11) (S := fun w' => w'.cell? ⟨gb393, 0, none⟩ = some (.int .i64 t385) ∧ w'.cell? ⟨gb393, 1, none⟩ = some (.int .i64 t386) ∧ w'.cell? ⟨gb393, 2, none⟩ = some (.slice Ao17 t387.length co17)) (ds := []) #[F,F,F,F,F,F,F,F,F,F,F] (by kernel_rfl) rfl rfl ⟨(blk_cell BK393.out 0).trans rfl, (blk_cell BK393.out 1).trans rfl, (blk_cell BK393.out 2).trans rfl⟩ (fun hHeld => ?_); refine with_tabW laws_FnSpread.tab5 laws_FnSpread.bits5 (fun HT_ HW_ => ?_)
           generalize w19.drew = w20 at HO389 HO392 BK393 HB hHeld ⊢
           refine pU 0 (some 23) #[T,F,F,F,F,F,F,F,F,F,F] rfl rfl HT_.out ?_
           refine pU 1 (some 24) #[T,T,F,F,F,F,F,F,F,F,F] rfl rfl HT_.out ?_
           refine pU 2 (some 25) #[T,T,T,F,F,F,F,F,F,F,F] rfl rfl HT_.out ?_
           refine pU 4 (some 27) #[T,T,T,F,T,F,F,F,F,F,F] rfl rfl HT_.out ?_
           refine pU 6 (some 29) #[T,T,T,F,T,F,T,F,F,F,F] rfl rfl HT_.out ?_
           refine tU3 5 (some 28) #[T,T,T,F,T,T,T,F,F,F,F] rfl rfl HT_.out HW_.out hHeld ?_
           refine pU 7 (some 30) #[T,T,T,F,T,T,T,T,F,F,F] rfl rfl HT_.out ?_
           refine one_ (i := 3) (N := some 26) #[T,T,T,T,T,T,T,T,F,F,F] rfl rfl (one_of HT_.out (by kernel_rfl)) (by decide) (fun K hK => ?_)
           refine goes_ Try.func32 (by kernel_rfl) rfl #[.slice A0 l0.length c0, .int .i64 4] (by rfl) rfl rfl (by (try simp only [List.map_toArray, List.map_cons, List.map_nil]); first | done | rfl | (simp only [List.length_drop, List.length_take]; rfl)) ?_
           with_reducible refine (laws_at.calls _ _ l0 4 t395 _ ?side1 ?side2 A7.out).mono ?_
           (case side1 => repeat (first | exact (Kd.C_below HR0.out HB.out) | (with_reducible refine Kd.C_alloc ?_ _) | (with_reducible refine Kd.C_drewN ?_ _) | (with_reducible refine Kd.C_drew ?_)))
           (case side2 => exact HC0.out)
           rintro e w' ⟨rfl, ⟨nd, rfl⟩⟩
           refine ⟨_, rfl, ?_⟩
           refine hK.out _ _ ⟨(blk_cell BK393.out 0).trans rfl, (blk_cell BK393.out 1).trans rfl, (blk_cell BK393.out 2).trans rfl⟩ (fun hHeld => ?_)
           clear hK K
           refine norm_ (a' := ?_) ?_ ?_
           rotate_left
           · show Act.put _ (some 26) _ = _
             simp only [Act.put, List.setIfInBounds_toArray, List.set_cons_zero, List.set_cons_succ, i64_w, i32_w]
             rfl
           refine pU 8 (some 31) #[T,T,T,T,T,T,T,T,T,F,F] rfl rfl HT_.out ?_
           refine pU 9 (some 32) #[T,T,T,T,T,T,T,T,T,T,F] rfl rfl HT_.out ?_
           refine pU 10 (some 6) #[T,T,T,T,T,T,T,T,T,T,T] rfl rfl HT_.out ?_
           refine done_ (done_of HT_.out (by kernel_rfl)) ?_
           have hcz21_0 : w20.cell? ⟨gb393, 0, none⟩ = some (.int .i64 t385) := (blk_cell BK393.out 0).trans rfl
           have hcz21_1 : w20.cell? ⟨gb393, 1, none⟩ = some (.int .i64 t386) := (blk_cell BK393.out 1).trans rfl
           have hcz21_2 : w20.cell? ⟨gb393, 2, none⟩ = some (.slice Ao17 t387.length co17) := (blk_cell BK393.out 2).trans rfl
           have hfz21_0 := blk_frozen BK393.out 0
           have hfz21_1 := blk_frozen BK393.out 1
           have hfz21_2 := blk_frozen BK393.out 2
           try go_wp2_with (first | ((with_reducible refine gate_callee (f := 26) rfl ?_); refine goesL_ (some 36) rfl rfl Try.func26 (by kernel_rfl) rfl #[.agg #[.int .i64 t385, .int .i64 t386, .slice Ao17 t387.length co17], .int .i64 (Int.tmod t394 t386), .int .i64 (wrap64 ((wrap64 ((Int.tmod t394 t386) + 1)) + (Int.tmod t395 (wrap64 (t386 - (Int.tmod t394 t386))))))] rfl (by (try simp only [List.map_toArray, List.map_cons, List.map_nil]); first | done | rfl | (simp only [List.length_drop, List.length_take]; rfl)) ?_; (with_reducible refine (impl_Spread.calls t385 t386 _ _ t387 (Int.tmod t394 t386) (wrap64 ((wrap64 ((Int.tmod t394 t386) + 1)) + (Int.tmod t395 (wrap64 (t386 - (Int.tmod t394 t386)))))) t396 _ ?side1 ?side2 A9.out).mono ?_); (case side1 => repeat (first | exact (Kd.R_reads' HO389.out).2.2 | (with_reducible refine Kd.C_alloc ?_ _) | (with_reducible refine Kd.C_drewN ?_ _) | (with_reducible refine Kd.C_drew ?_))); (case side2 => exact (Kd.R_reads' HO389.out).2.1); rintro e w22 ⟨v397, rfl, ho0, hb⟩; refine ⟨_, rfl, ?_⟩; have n0_ := Aside0.mk (Kd.R_below (nR HO389.out) hb); have n1_ := Aside0.mk (Kd.R_below (nR HO392.out) hb); have n2_ := Aside0.mk (Kd.R_lower ho0 (below_size (nH1 HB.out GE393.out))); have n3_ := Aside0.mk (blk_below (g := gb393) (o := .cells #[.int .i64 t385, .int .i64 t386, .slice Ao17 t387.length co17] 29 (0, 0)) (nB BK393.out) hb); have n4_ := Aside0.mk (below_step (nH1 HB.out GE393.out) hb); clear HO389; clear HO392; clear BK393; clear HB; have HO389 := n0_; have HO392 := n1_; have HO398 := n2_; have BK393 := n3_; have HB := n4_; clear n0_ n1_ n2_ n3_ n4_; (try clear hb); (try clear hb2); (try clear hk); (try clear hi); (try clear ho0); have hcz23_0 : w22.cell? ⟨gb393, 0, none⟩ = some (.int .i64 t385) := (blk_cell BK393.out 0).trans rfl; have hcz23_1 : w22.cell? ⟨gb393, 1, none⟩ = some (.int .i64 t386) := (blk_cell BK393.out 1).trans rfl; have hcz23_2 : w22.cell? ⟨gb393, 2, none⟩ = some (.slice Ao17 t387.length co17) := (blk_cell BK393.out 2).trans rfl; have hfz23_0 := blk_frozen BK393.out 0; have hfz23_1 := blk_frozen BK393.out 1; have hfz23_2 := blk_frozen BK393.out 2) | ((with_reducible refine gate_callee (f := 25) rfl ?_); refine goesL_ (some 41) rfl rfl Try.func25 (by kernel_rfl) rfl #[.agg #[.int .i64 t385, .int .i64 t386, .slice Ao17 t387.length co17], .int .i64 (Int.tmod t394 t386), .int .i64 (wrap64 ((wrap64 ((Int.tmod t394 t386) + 1)) + (Int.tmod t395 (wrap64 (t386 - (Int.tmod t394 t386))))))] rfl (by (try simp only [List.map_toArray, List.map_cons, List.map_nil]); first | done | rfl | (simp only [List.length_drop, List.length_take]; rfl)) ?_; (with_reducible refine (spec_Spread.calls k t385 t386 _ _ t387 (Int.tmod t394 t386) (wrap64 ((wrap64 ((Int.tmod t394 t386) + 1)) + (Int.tmod t395 (wrap64 (t386 - (Int.tmod t394 t386)))))) t399 _ ?side1 ?side2 A10.out).mono ?_); (case side1 => repeat (first | exact (Kd.R_reads' HO389.out).2.2 | (with_reducible refine Kd.C_alloc ?_ _) | (with_reducible refine Kd.C_drewN ?_ _) | (with_reducible refine Kd.C_drew ?_))); (case side2 => exact (Kd.R_reads' HO389.out).2.1); rintro e w24 ⟨v400, rfl, ho0, hb⟩; refine ⟨_, rfl, ?_⟩; have n0_ := Aside0.mk (Kd.R_below (nR HO389.out) hb); have n1_ := Aside0.mk (Kd.R_below (nR HO392.out) hb); have n2_ := Aside0.mk (Kd.R_elder' (nR HO398.out) (Kd.R_base ho0) hb); have n3_ := Aside0.mk (Kd.R_lower (Kd.R_new' ho0 (Kd.R_lt (nR HO398.out))) (below_size (nH1 HB.out GE393.out))); have n4_ := Aside0.mk (blk_below (g := gb393) (o := .cells #[.int .i64 t385, .int .i64 t386, .slice Ao17 t387.length co17] 29 (0, 0)) (nB BK393.out) hb); have n5_ := Aside0.mk (below_step (nH1 HB.out GE393.out) hb); clear HO389; clear HO392; clear HO398; clear BK393; clear HB; have HO389 := n0_; have HO392 := n1_; have HO398 := n2_; have HO401 := n3_; have BK393 := n4_; have HB := n5_; clear n0_ n1_ n2_ n3_ n4_ n5_; (try clear hb); (try clear hb2); (try clear hk); (try clear hi); (try clear ho0); obtain ⟨Ao25, co25, eo25⟩ := Kd.R_slice HO398.out; subst eo25; obtain ⟨Ao26, co26, eo26⟩ := Kd.R_slice HO401.out; subst eo26) | ((with_reducible refine gate_callee (f := 33) rfl ?_); refine goesL_ (some 42) rfl rfl Try.func33 (by kernel_rfl) rfl #[.slice Ao25 t396.length co25, .slice Ao26 t399.length co26] rfl (by (try simp only [List.map_toArray, List.map_cons, List.map_nil]); first | done | rfl | (simp only [List.length_drop, List.length_take]; rfl)) ?_; (with_reducible refine (laws_sameInts.calls k _ _ t396 _ _ t399 true _ ?side1 ?side2 ?side3 ?side4 A11.out).mono ?_); (case side1 => repeat (first | exact (Kd.R_reads' HO398.out).2.2 | (with_reducible refine Kd.C_alloc ?_ _) | (with_reducible refine Kd.C_drewN ?_ _) | (with_reducible refine Kd.C_drew ?_))); (case side2 => exact (Kd.R_reads' HO398.out).2.1); (case side3 => repeat (first | exact (Kd.R_reads' HO401.out).2.2 | (with_reducible refine Kd.C_alloc ?_ _) | (with_reducible refine Kd.C_drewN ?_ _) | (with_reducible refine Kd.C_drew ?_))); (case side4 => exact (Kd.R_reads' HO401.out).2.1); rintro e w' ⟨rfl, ⟨nd, rfl⟩⟩; refine ⟨_, rfl, ?_⟩))
           go_loopg [8] k (fun kq v8 w' => ∃ (x8_1 : Int), v8 = .int .i64 x8_1 ∧ Aside0 (laws_FnSpread.l0 kq (wrap64 ((wrap64 ((Int.tmod t394 t386) + 1)) + (Int.tmod t395 (wrap64 (t386 - (Int.tmod t394 t386)))))) x8_1 t385 t386 t387 = some r) ∧ Aside0 (kq ≤ k) ∧ Aside0 (Kd.R k66 66 w' w.heap.size (fun _ => True) (.slice Ao17 t387.length co17) t387) ∧ Aside0 (w'.heap[gb393]? = some (.cells #[.int .i64 t385, .int .i64 t386, (.slice Ao17 t387.length co17)] 29 (0, 0))) ∧ Aside0 (Below w.heap.size w w'))
           case atStart => exact ⟨(Int.tmod t394 t386), nS, H', ⟨Nat.le_refl _⟩, ⟨by (with_reducible repeat (first | apply Kd.R_alloc | apply Kd.R_drewN | apply Kd.R_drew)); exact HO389.out⟩, ⟨by (with_reducible repeat (first | refine blk_drewN ?_ _ | refine blk_drew ?_ | refine blk_alloc ?_ _)); exact BK393.out⟩, ⟨nH1 HB.out GE393.out⟩⟩
           case round =>
            clear H'
            try clear c1; try clear c2; try clear p2; try clear c3; try clear c6; try clear c6b0; try clear c6b1; try clear p6; try clear c8; try clear c8b0; try clear c8b1; try clear c12; try clear c13; try clear c13b0; try clear c13b1; try clear c25; try clear c26; try clear hcz16_0; try clear hcz16_1; try clear hcz16_2; try clear hcz21_0; try clear hcz21_1; try clear hcz21_2; try clear hcz23_0; try clear hcz23_1; try clear hcz23_2; try clear hfz16_0; try clear hfz16_1; try clear hfz16_2; try clear hfz21_0; try clear hfz21_1; try clear hfz21_2; try clear hfz23_0; try clear hfz23_1; try clear hfz23_2
            obtain ⟨x8_1, rfl, HA, HK1, HO_394002, BK393, HB⟩ := hrel
            cases gk with
            | zero => exact absurd HA.out (by simp [laws_FnSpread.l0])
            | succ k1 =>
             have H := HA.out; clear HA
             simp only [laws_FnSpread.l0] at H
             by_cases c27 : x8_1 < (wrap64 ((wrap64 ((Int.tmod t394 t386) + 1)) + (Int.tmod t395 (wrap64 (t386 - (Int.tmod t394 t386))))))
             · rw [if_pos c27] at H
               have c27b0 : decide (x8_1 < (wrap64 ((wrap64 ((Int.tmod t394 t386) + 1)) + (Int.tmod t395 (wrap64 (t386 - (Int.tmod t394 t386))))))) = true := decide_eq_true c27
               clear c27
               replace H := Option.bind_eq_some_iff.mp H
               obtain ⟨t403, A280, H⟩ := H
               replace H : (if (t403.length : Int) = 0 then (some true) else (laws_FnSpread.l0 k1 (wrap64 ((wrap64 ((Int.tmod t394 t386) + 1)) + (Int.tmod t395 (wrap64 (t386 - (Int.tmod t394 t386)))))) (wrap64 (x8_1 + 1)) t385 t386 t387)) = some r := H
               have A28 := Aside0.mk A280
               clear A280
               by_cases c29 : (t403.length : Int) = 0
               · rw [if_pos c29] at H
                 have c29b0 : ((t403.length : Int) == 0) = true := beq_iff_eq.mpr c29
                 have c29b1 : ((t403.length : Int) != 0) = false := bne_eq_false_iff_eq.mpr c29
                 clear c29; obtain rfl := Option.some.inj H
                 have hcz30_0 : wr.cell? ⟨gb393, 0, none⟩ = some (.int .i64 t385) := (blk_cell BK393.out 0).trans rfl
                 have hcz30_1 : wr.cell? ⟨gb393, 1, none⟩ = some (.int .i64 t386) := (blk_cell BK393.out 1).trans rfl
                 have hcz30_2 : wr.cell? ⟨gb393, 2, none⟩ = some (.slice Ao17 t387.length co17) := (blk_cell BK393.out 2).trans rfl
                 have hfz30_0 := blk_frozen BK393.out 0
                 have hfz30_1 := blk_frozen BK393.out 1
                 have hfz30_2 := blk_frozen BK393.out 2
                 go_wp2_with (first | ((with_reducible refine gate_callee (f := 18) rfl ?_); refine goesL_ (some 57) rfl rfl Try.func18 (by kernel_rfl) rfl #[.agg #[.int .i64 t385, .int .i64 t386, .slice Ao17 t387.length co17], .int .i64 x8_1, .int .i64 (wrap64 (x8_1 + 1))] rfl (by (try simp only [List.map_toArray, List.map_cons, List.map_nil]); first | done | rfl | (simp only [List.length_drop, List.length_take]; rfl)) ?_; (with_reducible refine (impl_FreeSeats.calls t385 t386 _ _ t387 x8_1 (wrap64 (x8_1 + 1)) t403 _ ?side1 ?side2 A28.out).mono ?_); (case side1 => repeat (first | exact (Kd.R_reads' HO_394002.out).2.2 | (with_reducible refine Kd.C_alloc ?_ _) | (with_reducible refine Kd.C_drewN ?_ _) | (with_reducible refine Kd.C_drew ?_))); (case side2 => exact (Kd.R_reads' HO_394002.out).2.1); rintro e w31 ⟨v404, rfl, ho0, hb⟩; refine ⟨_, rfl, ?_⟩; have n0_ := Aside0.mk (Kd.R_below (nR HO_394002.out) hb); have n1_ := Aside0.mk (Kd.R_lower ho0 (below_size (nH1 HB.out GE393.out))); have n2_ := Aside0.mk (blk_below (g := gb393) (o := .cells #[.int .i64 t385, .int .i64 t386, .slice Ao17 t387.length co17] 29 (0, 0)) (nB BK393.out) hb); have n3_ := Aside0.mk (below_step (nH1 HB.out GE393.out) hb); clear HO_394002; clear BK393; clear HB; have HO_394002 := n0_; have HO405 := n1_; have BK393 := n2_; have HB := n3_; clear n0_ n1_ n2_ n3_; (try clear hb); (try clear hb2); (try clear hk); (try clear hi); (try clear ho0); obtain ⟨Ao32, co32, eo32⟩ := Kd.R_slice HO405.out; subst eo32))
                 go_ret
                 exact ⟨by first | rfl | (simp [errW_none, errW_some] <;> rfl) | (simp [*, errW_none, errW_some] <;> first | rfl | (simp [wrap64]; done)), nH1 HB.out GE393.out⟩
               · rw [if_neg c29] at H
                 have c29b0 : ((t403.length : Int) == 0) = false := beq_eq_false_iff_ne.mpr c29
                 have c29b1 : ((t403.length : Int) != 0) = true := bne_iff_ne.mpr c29
                 have c29b2 : ¬ (t403 = []) := fun h_ => c29 (by rw [h_]; rfl)
                 have H' := Aside0.mk H
                 clear H
                 have hcz33_0 : wr.cell? ⟨gb393, 0, none⟩ = some (.int .i64 t385) := (blk_cell BK393.out 0).trans rfl
                 have hcz33_1 : wr.cell? ⟨gb393, 1, none⟩ = some (.int .i64 t386) := (blk_cell BK393.out 1).trans rfl
                 have hcz33_2 : wr.cell? ⟨gb393, 2, none⟩ = some (.slice Ao17 t387.length co17) := (blk_cell BK393.out 2).trans rfl
                 have hfz33_0 := blk_frozen BK393.out 0
                 have hfz33_1 := blk_frozen BK393.out 1
                 have hfz33_2 := blk_frozen BK393.out 2
                 go_wp2_with (first | ((with_reducible refine gate_callee (f := 18) rfl ?_); refine goesL_ (some 57) rfl rfl Try.func18 (by kernel_rfl) rfl #[.agg #[.int .i64 t385, .int .i64 t386, .slice Ao17 t387.length co17], .int .i64 x8_1, .int .i64 (wrap64 (x8_1 + 1))] rfl (by (try simp only [List.map_toArray, List.map_cons, List.map_nil]); first | done | rfl | (simp only [List.length_drop, List.length_take]; rfl)) ?_; (with_reducible refine (impl_FreeSeats.calls t385 t386 _ _ t387 x8_1 (wrap64 (x8_1 + 1)) t403 _ ?side1 ?side2 A28.out).mono ?_); (case side1 => repeat (first | exact (Kd.R_reads' HO_394002.out).2.2 | (with_reducible refine Kd.C_alloc ?_ _) | (with_reducible refine Kd.C_drewN ?_ _) | (with_reducible refine Kd.C_drew ?_))); (case side2 => exact (Kd.R_reads' HO_394002.out).2.1); rintro e w34 ⟨v404, rfl, ho0, hb⟩; refine ⟨_, rfl, ?_⟩; have n0_ := Aside0.mk (Kd.R_below (nR HO_394002.out) hb); have n1_ := Aside0.mk (Kd.R_lower ho0 (below_size (nH1 HB.out GE393.out))); have n2_ := Aside0.mk (blk_below (g := gb393) (o := .cells #[.int .i64 t385, .int .i64 t386, .slice Ao17 t387.length co17] 29 (0, 0)) (nB BK393.out) hb); have n3_ := Aside0.mk (below_step (nH1 HB.out GE393.out) hb); clear HO_394002; clear BK393; clear HB; have HO_394002 := n0_; have HO405 := n1_; have BK393 := n2_; have HB := n3_; clear n0_ n1_ n2_ n3_; (try clear hb); (try clear hb2); (try clear hk); (try clear hi); (try clear ho0); obtain ⟨Ao35, co35, eo35⟩ := Kd.R_slice HO405.out; subst eo35))
                 go_roundg k1
                 case measure => have := HK1.out; omega
                 case rel => exact ⟨(wrap64 (x8_1 + 1)), nS, H', ⟨by have := HK1.out; omega⟩, ⟨by (with_reducible repeat (first | apply Kd.R_alloc | apply Kd.R_drewN | apply Kd.R_drew)); exact HO_394002.out⟩, ⟨by (with_reducible repeat (first | refine blk_drewN ?_ _ | refine blk_drew ?_ | refine blk_alloc ?_ _)); exact BK393.out⟩, ⟨nH1 HB.out GE393.out⟩⟩
             · rw [if_neg c27] at H
               have c27b0 : decide (x8_1 < (wrap64 ((wrap64 ((Int.tmod t394 t386) + 1)) + (Int.tmod t395 (wrap64 (t386 - (Int.tmod t394 t386))))))) = false := decide_eq_false c27
               clear c27
               exact absurd ((Option.some.inj H).trans ht.out) (by decide)
         · rw [if_neg c13] at H
           have c13b0 : ((t396.length : Int) == 0) = false := beq_eq_false_iff_ne.mpr c13
           have c13b1 : ((t396.length : Int) != 0) = true := bne_iff_ne.mpr c13
           have c13b2 : ¬ (t396 = []) := fun h_ => c13 (by rw [h_]; rfl)
           by_cases c36 : (t396.length : Int) = (wrap64 ((wrap64 ((wrap64 ((Int.tmod t394 t386) + 1)) + (Int.tmod t395 (wrap64 (t386 - (Int.tmod t394 t386)))))) - (Int.tmod t394 t386)))
           · rw [if_pos c36] at H
             have c36b0 : ((t396.length : Int) == (wrap64 ((wrap64 ((wrap64 ((Int.tmod t394 t386) + 1)) + (Int.tmod t395 (wrap64 (t386 - (Int.tmod t394 t386)))))) - (Int.tmod t394 t386)))) = true := beq_iff_eq.mpr c36
             have c36b1 : ((t396.length : Int) != (wrap64 ((wrap64 ((wrap64 ((Int.tmod t394 t386) + 1)) + (Int.tmod t395 (wrap64 (t386 - (Int.tmod t394 t386)))))) - (Int.tmod t394 t386)))) = false := bne_eq_false_iff_eq.mpr c36
             clear c36
             have H' := Aside0.mk H
             clear H
             go_enter Try.func8, Try.ntmps8
             try go_wp2_with (first | ((with_reducible refine gate_callee (f := 30) rfl ?_); refine goesL_ (some 12) rfl rfl Try.func30 (by kernel_rfl) rfl #[.slice A0 l0.length c0] rfl (by (try simp only [List.map_toArray, List.map_cons, List.map_nil]); first | done | rfl | (simp only [List.length_drop, List.length_take]; rfl)) ?_; (with_reducible refine (laws_big.calls _ _ l0 false _ ?side1 ?side2 A2.out).mono ?_); (case side1 => repeat (first | exact HR0.out | (with_reducible refine Kd.C_alloc ?_ _) | (with_reducible refine Kd.C_drewN ?_ _) | (with_reducible refine Kd.C_drew ?_))); (case side2 => exact HC0.out); rintro e w' ⟨rfl, ⟨nd, rfl⟩⟩; refine ⟨_, rfl, ?_⟩) | ((with_reducible refine gate_callee (f := 31) rfl ?_); refine goesL_ (some 15) rfl rfl Try.func31 (by kernel_rfl) rfl #[.slice A0 l0.length c0] rfl (by (try simp only [List.map_toArray, List.map_cons, List.map_nil]); first | done | rfl | (simp only [List.length_drop, List.length_take]; rfl)) ?_; (with_reducible refine (spec_DrawRightTrain.calls k _ _ l0 t385 t386 t387 t390 _ ?side1 ?side2 A4.out).mono ?_); (case side1 => repeat (first | exact HR0.out | (with_reducible refine Kd.C_alloc ?_ _) | (with_reducible refine Kd.C_drewN ?_ _) | (with_reducible refine Kd.C_drew ?_))); (case side2 => exact HC0.out); rintro e w37 ⟨v388, v391, rfl, ho0, ho1, hb⟩; refine ⟨_, rfl, ?_⟩; have n0_ := Aside0.mk (Kd.R_lower ho0 (below_size (nH HB.out))); have n1_ := Aside0.mk (Kd.R_lower ho1 (below_size (nH HB.out))); have n2_ := Aside0.mk (below_step (nH HB.out) hb); clear HB; have HO389 := n0_; have HO392 := n1_; have HB := n2_; clear n0_ n1_ n2_; (try clear hb); (try clear hb2); (try clear hk); (try clear hi); (try clear ho0); (try clear ho1)) | ((with_reducible refine gate_dst (N := 3) rfl ?_); refine box_event ?hg (N := 3) ?hd (cs := #[.int .i64 0, .int .i64 0, .slice none 0 0]) (t := 29) ?hr ?_; (case hd => rfl); (case hg => rfl); (case hr => first | (go_simp; done) | (go_simp; rfl)); intro gb393 hg w38 hbox hb; have n0_ := Aside0.mk (Kd.R_below (nR HO389.out) hb); have n1_ := Aside0.mk (Kd.R_below (nR HO392.out) hb); have n2_ := Aside0.mk (below_step (nH HB.out) hb); have n3_ := Aside0.mk (hbox); have n4_ := Aside0.mk ((by rw [hg]; exact (below_size (nH HB.out)) : w.heap.size ≤ gb393)); have n5_ := Aside0.mk ((by rw [hg]; exact (below_size (nH HB.out)) : w.heap.size ≤ gb393)); clear HO389; clear HO392; clear HB; have HO389 := n0_; have HO392 := n1_; have HB := n2_; have BK393 := n3_; have GW393 := n4_; have GE393 := n5_; clear n0_ n1_ n2_ n3_ n4_ n5_; clear hb hbox hg; have hcz39_0 : w38.cell? ⟨gb393, 0, none⟩ = some (.int .i64 0) := (blk_cell BK393.out 0).trans rfl; have hcz39_1 : w38.cell? ⟨gb393, 1, none⟩ = some (.int .i64 0) := (blk_cell BK393.out 1).trans rfl; have hcz39_2 : w38.cell? ⟨gb393, 2, none⟩ = some (.slice none 0 0) := (blk_cell BK393.out 2).trans rfl; have hfz39_0 := blk_frozen BK393.out 0; have hfz39_1 := blk_frozen BK393.out 1; have hfz39_2 := blk_frozen BK393.out 2; obtain ⟨Ao40, co40, eo40⟩ := Kd.R_slice HO389.out; subst eo40))
             have n0_ : Aside0 (Kd.R k66 66 (((w38.setCell ⟨gb393, 0, none⟩ (.int .i64 t385)).setCell ⟨gb393, 1, none⟩ (.int .i64 t386)).setCell ⟨gb393, 2, none⟩ (.slice Ao40 t387.length co40)) w.heap.size (fun _ => True) (.slice Ao40 t387.length co40) t387) := ⟨by (with_reducible repeat (first | apply Kd.R_alloc | apply Kd.R_drewN | apply Kd.R_drew)); exact Kd.R_mono (Kd.R_far (p := ⟨gb393, 2, none⟩) (Kd.R_far (p := ⟨gb393, 1, none⟩) (Kd.R_far (p := ⟨gb393, 0, none⟩) (Kd.R_types HO389.out BK393.out (by decide)) (fun _ hk => hk.2) (.int .i64 t385)) (fun _ hk => hk.2) (.int .i64 t386)) (fun _ hk => hk.2) (.slice Ao40 t387.length co40)) (fun _ hk => trivial)⟩
             have n1_ : Aside0 (Kd.R k56 56 (((w38.setCell ⟨gb393, 0, none⟩ (.int .i64 t385)).setCell ⟨gb393, 1, none⟩ (.int .i64 t386)).setCell ⟨gb393, 2, none⟩ (.slice Ao40 t387.length co40)) w.heap.size (fun _ => True) v391 t390) := ⟨by (with_reducible repeat (first | apply Kd.R_alloc | apply Kd.R_drewN | apply Kd.R_drew)); exact Kd.R_mono (Kd.R_far (p := ⟨gb393, 2, none⟩) (Kd.R_far (p := ⟨gb393, 1, none⟩) (Kd.R_far (p := ⟨gb393, 0, none⟩) (Kd.R_types HO392.out BK393.out (by decide)) (fun _ hk => hk.2) (.int .i64 t385)) (fun _ hk => hk.2) (.int .i64 t386)) (fun _ hk => hk.2) (.slice Ao40 t387.length co40)) (fun _ hk => trivial)⟩
             have n2_ : Aside0 ((((w38.setCell ⟨gb393, 0, none⟩ (.int .i64 t385)).setCell ⟨gb393, 1, none⟩ (.int .i64 t386)).setCell ⟨gb393, 2, none⟩ (.slice Ao40 t387.length co40)).heap[gb393]? = some (.cells #[.int .i64 t385, .int .i64 t386, .slice Ao40 t387.length co40] 29 (0, 0))) := ⟨by (with_reducible repeat (first | refine blk_drewN ?_ _ | refine blk_drew ?_ | refine blk_alloc ?_ _)); refine blk_put (cs := #[.int .i64 t385, .int .i64 t386, .slice none 0 0]) ?_ 2 _ rfl; (with_reducible repeat (first | refine blk_drewN ?_ _ | refine blk_drew ?_ | refine blk_alloc ?_ _)); refine blk_put (cs := #[.int .i64 t385, .int .i64 0, .slice none 0 0]) ?_ 1 _ rfl; (with_reducible repeat (first | refine blk_drewN ?_ _ | refine blk_drew ?_ | refine blk_alloc ?_ _)); refine blk_put (cs := #[.int .i64 0, .int .i64 0, .slice none 0 0]) ?_ 0 _ rfl; (with_reducible repeat (first | refine blk_drewN ?_ _ | refine blk_drew ?_ | refine blk_alloc ?_ _)); exact BK393.out⟩
             have n3_ : Aside0 (Below w.heap.size w (((w38.setCell ⟨gb393, 0, none⟩ (.int .i64 t385)).setCell ⟨gb393, 1, none⟩ (.int .i64 t386)).setCell ⟨gb393, 2, none⟩ (.slice Ao40 t387.length co40))) := ⟨nH1 HB.out GE393.out⟩
             (try clear HO389); (try clear HO392); (try clear BK393); (try clear HB)
             generalize (((w38.setCell ⟨gb393, 0, none⟩ (.int .i64 t385)).setCell ⟨gb393, 1, none⟩ (.int .i64 t386)).setCell ⟨gb393, 2, none⟩ (.slice Ao40 t387.length co40)) = w41 at n0_ n1_ n2_ n3_ ⊢
             have HO389 := n0_; have HO392 := n1_; have BK393 := n2_; have HB := n3_; clear n0_ n1_ n2_ n3_
             have n0_ := Aside0.mk (Kd.R_drew HO389.out)
             have n1_ := Aside0.mk (Kd.R_drew HO392.out)
             have n2_ := Aside0.mk (blk_drew BK393.out)
             have n3_ := Aside0.mk (below_drew1 HB.out)
             clear HO389; clear HO392; clear BK393; clear HB; have HO389 := n0_; have HO392 := n1_; have BK393 := n2_; have HB := n3_; clear n0_ n1_ n2_ n3_
             refine start_ (n := 6) (S := fun w' => w'.cell? ⟨gb393, 0, none⟩ = some (.int .i64 t385) ∧ w'.cell? ⟨gb393, 1, none⟩ = some (.int .i64 t386) ∧ w'.cell? ⟨gb393, 2, none⟩ = some (.slice Ao40 t387.length co40)) (ds := []) #[F,F,F,F,F,F] (by kernel_rfl) rfl rfl ⟨(blk_cell BK393.out 0).trans rfl, (blk_cell BK393.out 1).trans rfl, (blk_cell BK393.out 2).trans rfl⟩ (fun hHeld => ?_)
             generalize w41.drew = w42 at HO389 HO392 BK393 HB hHeld ⊢
             refine pK 0 (some 18) #[T,F,F,F,F,F] rfl rfl ?_
             refine pK 2 (some 20) #[T,F,T,F,F,F] rfl rfl ?_
             refine take_ (i := 3) (N := some 21) (v := ?_) (a' := ?_) #[T,F,T,T,F,F] rfl rfl (by kernel_rfl) (fun _ _ _ h => h) (Or.inl ⟨by rfl, ?_⟩) hHeld ?_ ?_
             rotate_left
             · rintro w' ⟨s0, s1, s2⟩
               go_simp; with_reducible rfl
             rotate_left
             · simp only [Act.put, List.setIfInBounds_toArray, List.set_cons_zero, List.set_cons_succ, i64_w, i32_w]
               rfl
             refine one_ (i := 1) (N := some 19) #[T,T,T,T,F,F] rfl rfl (by kernel_rfl) (by decide) (fun K hK => ?_)
             refine goes_ Try.func32 (by kernel_rfl) rfl #[.slice A0 l0.length c0, .int .i64 3] (by rfl) rfl rfl (by (try simp only [List.map_toArray, List.map_cons, List.map_nil]); first | done | rfl | (simp only [List.length_drop, List.length_take]; rfl)) ?_
             with_reducible refine (laws_at.calls _ _ l0 3 t394 _ ?side1 ?side2 A5.out).mono ?_
             (case side1 => repeat (first | exact (Kd.C_below HR0.out HB.out) | (with_reducible refine Kd.C_alloc ?_ _) | (with_reducible refine Kd.C_drewN ?_ _) | (with_reducible refine Kd.C_drew ?_)))
             (case side2 => exact HC0.out)
             rintro e w' ⟨rfl, ⟨nd, rfl⟩⟩
             refine ⟨_, rfl, ?_⟩
             refine hK.out _ _ ⟨(blk_cell BK393.out 0).trans rfl, (blk_cell BK393.out 1).trans rfl, (blk_cell BK393.out 2).trans rfl⟩ (fun hHeld => ?_)
             clear hK K
             refine norm_ (a' := ?_) ?_ ?_
             rotate_left
             · show Act.put _ (some 19) _ = _
               simp only [Act.put, List.setIfInBounds_toArray, List.set_cons_zero, List.set_cons_succ, i64_w, i32_w]
               rfl
             refine pK 4 (some 22) #[T,T,T,T,T,F] rfl rfl ?_
             refine pK 5 (some 5) #[T,T,T,T,T,T] rfl rfl ?_
             refine done_ (by kernel_rfl) ?_
             try go_wp2
             (try (rw [drewN_self w42]; generalize hq_ : World.drewN w42 _ = w42; have n0_ : Aside0 (Kd.R k66 66 w42 w.heap.size (fun _ => True) (.slice Ao40 t387.length co40) t387) := ⟨by rw [← hq_]; exact (nR HO389.out)⟩; have n1_ : Aside0 (Kd.R k56 56 w42 w.heap.size (fun _ => True) v391 t390) := ⟨by rw [← hq_]; exact (nR HO392.out)⟩; have n2_ : Aside0 (w42.heap[gb393]? = some (.cells #[.int .i64 t385, .int .i64 t386, .slice Ao40 t387.length co40] 29 (0, 0))) := ⟨by rw [← hq_]; exact (nB BK393.out)⟩; have n3_ : Aside0 (Below w.heap.size w w42) := ⟨by rw [← hq_]; exact (nH1 HB.out GE393.out)⟩; clear HO389 HO392 BK393 HB hq_; have HO389 := n0_; have HO392 := n1_; have BK393 := n2_; have HB := n3_; clear n0_ n1_ n2_ n3_))
             have n0_ := Aside0.mk (Kd.R_drew HO389.out)
             have n1_ := Aside0.mk (Kd.R_drew HO392.out)
             have n2_ := Aside0.mk (blk_drew BK393.out)
             have n3_ := Aside0.mk (below_drew1 HB.out)
             clear HO389; clear HO392; clear BK393; clear HB; have HO389 := n0_; have HO392 := n1_; have BK393 := n2_; have HB := n3_; clear n0_ n1_ n2_ n3_
             refine start_ (n := 11) (S := fun w' => w'.cell? ⟨gb393, 0, none⟩ = some (.int .i64 t385) ∧ w'.cell? ⟨gb393, 1, none⟩ = some (.int .i64 t386) ∧ w'.cell? ⟨gb393, 2, none⟩ = some (.slice Ao40 t387.length co40)) (ds := []) #[F,F,F,F,F,F,F,F,F,F,F] (by kernel_rfl) rfl rfl ⟨(blk_cell BK393.out 0).trans rfl, (blk_cell BK393.out 1).trans rfl, (blk_cell BK393.out 2).trans rfl⟩ (fun hHeld => ?_); refine with_tabW laws_FnSpread.tab5 laws_FnSpread.bits5 (fun HT_ HW_ => ?_)
             generalize w42.drew = w43 at HO389 HO392 BK393 HB hHeld ⊢
             refine pU 0 (some 23) #[T,F,F,F,F,F,F,F,F,F,F] rfl rfl HT_.out ?_
             refine pU 1 (some 24) #[T,T,F,F,F,F,F,F,F,F,F] rfl rfl HT_.out ?_
             refine pU 2 (some 25) #[T,T,T,F,F,F,F,F,F,F,F] rfl rfl HT_.out ?_
             refine pU 4 (some 27) #[T,T,T,F,T,F,F,F,F,F,F] rfl rfl HT_.out ?_
             refine pU 6 (some 29) #[T,T,T,F,T,F,T,F,F,F,F] rfl rfl HT_.out ?_
             refine tU3 5 (some 28) #[T,T,T,F,T,T,T,F,F,F,F] rfl rfl HT_.out HW_.out hHeld ?_
             refine pU 7 (some 30) #[T,T,T,F,T,T,T,T,F,F,F] rfl rfl HT_.out ?_
             refine one_ (i := 3) (N := some 26) #[T,T,T,T,T,T,T,T,F,F,F] rfl rfl (one_of HT_.out (by kernel_rfl)) (by decide) (fun K hK => ?_)
             refine goes_ Try.func32 (by kernel_rfl) rfl #[.slice A0 l0.length c0, .int .i64 4] (by rfl) rfl rfl (by (try simp only [List.map_toArray, List.map_cons, List.map_nil]); first | done | rfl | (simp only [List.length_drop, List.length_take]; rfl)) ?_
             with_reducible refine (laws_at.calls _ _ l0 4 t395 _ ?side1 ?side2 A7.out).mono ?_
             (case side1 => repeat (first | exact (Kd.C_below HR0.out HB.out) | (with_reducible refine Kd.C_alloc ?_ _) | (with_reducible refine Kd.C_drewN ?_ _) | (with_reducible refine Kd.C_drew ?_)))
             (case side2 => exact HC0.out)
             rintro e w' ⟨rfl, ⟨nd, rfl⟩⟩
             refine ⟨_, rfl, ?_⟩
             refine hK.out _ _ ⟨(blk_cell BK393.out 0).trans rfl, (blk_cell BK393.out 1).trans rfl, (blk_cell BK393.out 2).trans rfl⟩ (fun hHeld => ?_)
             clear hK K
             refine norm_ (a' := ?_) ?_ ?_
             rotate_left
             · show Act.put _ (some 26) _ = _
               simp only [Act.put, List.setIfInBounds_toArray, List.set_cons_zero, List.set_cons_succ, i64_w, i32_w]
               rfl
             refine pU 8 (some 31) #[T,T,T,T,T,T,T,T,T,F,F] rfl rfl HT_.out ?_
             refine pU 9 (some 32) #[T,T,T,T,T,T,T,T,T,T,F] rfl rfl HT_.out ?_
             refine pU 10 (some 6) #[T,T,T,T,T,T,T,T,T,T,T] rfl rfl HT_.out ?_
             refine done_ (done_of HT_.out (by kernel_rfl)) ?_
             have hcz44_0 : w43.cell? ⟨gb393, 0, none⟩ = some (.int .i64 t385) := (blk_cell BK393.out 0).trans rfl
             have hcz44_1 : w43.cell? ⟨gb393, 1, none⟩ = some (.int .i64 t386) := (blk_cell BK393.out 1).trans rfl
             have hcz44_2 : w43.cell? ⟨gb393, 2, none⟩ = some (.slice Ao40 t387.length co40) := (blk_cell BK393.out 2).trans rfl
             have hfz44_0 := blk_frozen BK393.out 0
             have hfz44_1 := blk_frozen BK393.out 1
             have hfz44_2 := blk_frozen BK393.out 2
             try go_wp2_with (first | ((with_reducible refine gate_callee (f := 26) rfl ?_); refine goesL_ (some 36) rfl rfl Try.func26 (by kernel_rfl) rfl #[.agg #[.int .i64 t385, .int .i64 t386, .slice Ao40 t387.length co40], .int .i64 (Int.tmod t394 t386), .int .i64 (wrap64 ((wrap64 ((Int.tmod t394 t386) + 1)) + (Int.tmod t395 (wrap64 (t386 - (Int.tmod t394 t386))))))] rfl (by (try simp only [List.map_toArray, List.map_cons, List.map_nil]); first | done | rfl | (simp only [List.length_drop, List.length_take]; rfl)) ?_; (with_reducible refine (impl_Spread.calls t385 t386 _ _ t387 (Int.tmod t394 t386) (wrap64 ((wrap64 ((Int.tmod t394 t386) + 1)) + (Int.tmod t395 (wrap64 (t386 - (Int.tmod t394 t386)))))) t396 _ ?side1 ?side2 A9.out).mono ?_); (case side1 => repeat (first | exact (Kd.R_reads' HO389.out).2.2 | (with_reducible refine Kd.C_alloc ?_ _) | (with_reducible refine Kd.C_drewN ?_ _) | (with_reducible refine Kd.C_drew ?_))); (case side2 => exact (Kd.R_reads' HO389.out).2.1); rintro e w45 ⟨v397, rfl, ho0, hb⟩; refine ⟨_, rfl, ?_⟩; have n0_ := Aside0.mk (Kd.R_below (nR HO389.out) hb); have n1_ := Aside0.mk (Kd.R_below (nR HO392.out) hb); have n2_ := Aside0.mk (Kd.R_lower ho0 (below_size (nH1 HB.out GE393.out))); have n3_ := Aside0.mk (blk_below (g := gb393) (o := .cells #[.int .i64 t385, .int .i64 t386, .slice Ao40 t387.length co40] 29 (0, 0)) (nB BK393.out) hb); have n4_ := Aside0.mk (below_step (nH1 HB.out GE393.out) hb); clear HO389; clear HO392; clear BK393; clear HB; have HO389 := n0_; have HO392 := n1_; have HO398 := n2_; have BK393 := n3_; have HB := n4_; clear n0_ n1_ n2_ n3_ n4_; (try clear hb); (try clear hb2); (try clear hk); (try clear hi); (try clear ho0); have hcz46_0 : w45.cell? ⟨gb393, 0, none⟩ = some (.int .i64 t385) := (blk_cell BK393.out 0).trans rfl; have hcz46_1 : w45.cell? ⟨gb393, 1, none⟩ = some (.int .i64 t386) := (blk_cell BK393.out 1).trans rfl; have hcz46_2 : w45.cell? ⟨gb393, 2, none⟩ = some (.slice Ao40 t387.length co40) := (blk_cell BK393.out 2).trans rfl; have hfz46_0 := blk_frozen BK393.out 0; have hfz46_1 := blk_frozen BK393.out 1; have hfz46_2 := blk_frozen BK393.out 2) | ((with_reducible refine gate_callee (f := 25) rfl ?_); refine goesL_ (some 41) rfl rfl Try.func25 (by kernel_rfl) rfl #[.agg #[.int .i64 t385, .int .i64 t386, .slice Ao40 t387.length co40], .int .i64 (Int.tmod t394 t386), .int .i64 (wrap64 ((wrap64 ((Int.tmod t394 t386) + 1)) + (Int.tmod t395 (wrap64 (t386 - (Int.tmod t394 t386))))))] rfl (by (try simp only [List.map_toArray, List.map_cons, List.map_nil]); first | done | rfl | (simp only [List.length_drop, List.length_take]; rfl)) ?_; (with_reducible refine (spec_Spread.calls k t385 t386 _ _ t387 (Int.tmod t394 t386) (wrap64 ((wrap64 ((Int.tmod t394 t386) + 1)) + (Int.tmod t395 (wrap64 (t386 - (Int.tmod t394 t386)))))) t399 _ ?side1 ?side2 A10.out).mono ?_); (case side1 => repeat (first | exact (Kd.R_reads' HO389.out).2.2 | (with_reducible refine Kd.C_alloc ?_ _) | (with_reducible refine Kd.C_drewN ?_ _) | (with_reducible refine Kd.C_drew ?_))); (case side2 => exact (Kd.R_reads' HO389.out).2.1); rintro e w47 ⟨v400, rfl, ho0, hb⟩; refine ⟨_, rfl, ?_⟩; have n0_ := Aside0.mk (Kd.R_below (nR HO389.out) hb); have n1_ := Aside0.mk (Kd.R_below (nR HO392.out) hb); have n2_ := Aside0.mk (Kd.R_elder' (nR HO398.out) (Kd.R_base ho0) hb); have n3_ := Aside0.mk (Kd.R_lower (Kd.R_new' ho0 (Kd.R_lt (nR HO398.out))) (below_size (nH1 HB.out GE393.out))); have n4_ := Aside0.mk (blk_below (g := gb393) (o := .cells #[.int .i64 t385, .int .i64 t386, .slice Ao40 t387.length co40] 29 (0, 0)) (nB BK393.out) hb); have n5_ := Aside0.mk (below_step (nH1 HB.out GE393.out) hb); clear HO389; clear HO392; clear HO398; clear BK393; clear HB; have HO389 := n0_; have HO392 := n1_; have HO398 := n2_; have HO401 := n3_; have BK393 := n4_; have HB := n5_; clear n0_ n1_ n2_ n3_ n4_ n5_; (try clear hb); (try clear hb2); (try clear hk); (try clear hi); (try clear ho0); obtain ⟨Ao48, co48, eo48⟩ := Kd.R_slice HO398.out; subst eo48; obtain ⟨Ao49, co49, eo49⟩ := Kd.R_slice HO401.out; subst eo49) | ((with_reducible refine gate_callee (f := 33) rfl ?_); refine goesL_ (some 42) rfl rfl Try.func33 (by kernel_rfl) rfl #[.slice Ao48 t396.length co48, .slice Ao49 t399.length co49] rfl (by (try simp only [List.map_toArray, List.map_cons, List.map_nil]); first | done | rfl | (simp only [List.length_drop, List.length_take]; rfl)) ?_; (with_reducible refine (laws_sameInts.calls k _ _ t396 _ _ t399 true _ ?side1 ?side2 ?side3 ?side4 A11.out).mono ?_); (case side1 => repeat (first | exact (Kd.R_reads' HO398.out).2.2 | (with_reducible refine Kd.C_alloc ?_ _) | (with_reducible refine Kd.C_drewN ?_ _) | (with_reducible refine Kd.C_drew ?_))); (case side2 => exact (Kd.R_reads' HO398.out).2.1); (case side3 => repeat (first | exact (Kd.R_reads' HO401.out).2.2 | (with_reducible refine Kd.C_alloc ?_ _) | (with_reducible refine Kd.C_drewN ?_ _) | (with_reducible refine Kd.C_drew ?_))); (case side4 => exact (Kd.R_reads' HO401.out).2.1); rintro e w' ⟨rfl, ⟨nd, rfl⟩⟩; refine ⟨_, rfl, ?_⟩))
             go_loopg [9, 10] k (fun kq v9 v10 w' => ∃ (x9_1 : Bool) (x10_1 : Int), v9 = .bool x9_1 ∧ v10 = .int .i64 x10_1 ∧ Aside0 (laws_FnSpread.l1 kq (Int.tmod t394 t386) (wrap64 ((wrap64 ((Int.tmod t394 t386) + 1)) + (Int.tmod t395 (wrap64 (t386 - (Int.tmod t394 t386)))))) t396 x9_1 x10_1 t385 t386 t387 = some r) ∧ Aside0 (kq ≤ k) ∧ Aside0 (Kd.R (Kd.int .i64) 3 w' w.heap.size (fun _ => True) (.slice Ao48 t396.length co48) t396) ∧ Aside0 (Kd.R k66 66 w' w.heap.size (fun _ => True) (.slice Ao40 t387.length co40) t387) ∧ Aside0 (w'.heap[gb393]? = some (.cells #[.int .i64 t385, .int .i64 t386, (.slice Ao40 t387.length co40)] 29 (0, 0))) ∧ Aside0 (Below w.heap.size w w'))
             case atStart => exact ⟨(true), (0), nS, nS, H', ⟨Nat.le_refl _⟩, ⟨by (with_reducible repeat (first | apply Kd.R_alloc | apply Kd.R_drewN | apply Kd.R_drew)); exact Kd.R_mono HO398.out (fun _ hk => trivial)⟩, ⟨by (with_reducible repeat (first | apply Kd.R_alloc | apply Kd.R_drewN | apply Kd.R_drew)); exact HO389.out⟩, ⟨by (with_reducible repeat (first | refine blk_drewN ?_ _ | refine blk_drew ?_ | refine blk_alloc ?_ _)); exact BK393.out⟩, ⟨nH1 HB.out GE393.out⟩⟩
             case round =>
              clear H'
              try clear c1; try clear c2; try clear p2; try clear c3; try clear c6; try clear c6b0; try clear c6b1; try clear p6; try clear c8; try clear c8b0; try clear c8b1; try clear c12; try clear c13; try clear c13b0; try clear c13b1; try clear c13b2; try clear c18; try clear c25; try clear c26; try clear c27; try clear c27b0; try clear c29; try clear c29b0; try clear c29b1; try clear c29b2; try clear c30; try clear c31; try clear c32; try clear c33; try clear c36; try clear c36b0; try clear c36b1; try clear hcz16_0; try clear hcz16_1; try clear hcz16_2; try clear hcz21_0; try clear hcz21_1
              try clear hcz21_2; try clear hcz23_0; try clear hcz23_1; try clear hcz23_2; try clear hcz30_0; try clear hcz30_1; try clear hcz30_2; try clear hcz33_0; try clear hcz33_1; try clear hcz33_2; try clear hcz39_0; try clear hcz39_1; try clear hcz39_2; try clear hcz44_0; try clear hcz44_1; try clear hcz44_2; try clear hcz46_0; try clear hcz46_1; try clear hcz46_2; try clear hfz16_0; try clear hfz16_1; try clear hfz16_2; try clear hfz21_0; try clear hfz21_1; try clear hfz21_2; try clear hfz23_0; try clear hfz23_1; try clear hfz23_2; try clear hfz30_0; try clear hfz30_1; try clear hfz30_2
              try clear hfz33_0; try clear hfz33_1; try clear hfz33_2; try clear hfz39_0; try clear hfz39_1; try clear hfz39_2; try clear hfz44_0; try clear hfz44_1; try clear hfz44_2; try clear hfz46_0; try clear hfz46_1; try clear hfz46_2; try clear p2; try clear p6
              obtain ⟨x9_1, x10_1, rfl, rfl, HA, HK1, HO_7, HO_394002, BK393, HB⟩ := hrel
              cases gk with
              | zero => exact absurd HA.out (by simp [laws_FnSpread.l1])
              | succ k1 =>
               have H := HA.out; clear HA
               simp only [laws_FnSpread.l1] at H
               by_cases c50 : x10_1 < (t396.length : Int)
               · rw [if_pos c50] at H
                 have c50b0 : decide (x10_1 < (t396.length : Int)) = true := decide_eq_true c50
                 clear c50
                 replace H := Option.bind_eq_some_iff.mp H
                 obtain ⟨t409, A510, H⟩ := H
                 replace H : (if 0 ≤ x10_1 then ((laws_within.f k1 t409 (rd t396 x10_1)).bind fun t413 => (if t413 = true then (if 0 < (t396.length : Int) then (if (rd t396 x10_1) = (rd t396 0) then (laws_FnSpread.l1 k1 (Int.tmod t394 t386) (wrap64 ((wrap64 ((Int.tmod t394 t386) + 1)) + (Int.tmod t395 (wrap64 (t386 - (Int.tmod t394 t386)))))) t396 x9_1 (wrap64 (x10_1 + 1)) t385 t386 t387) else (laws_FnSpread.l1 k1 (Int.tmod t394 t386) (wrap64 ((wrap64 ((Int.tmod t394 t386) + 1)) + (Int.tmod t395 (wrap64 (t386 - (Int.tmod t394 t386)))))) t396 false (wrap64 (x10_1 + 1)) t385 t386 t387)) else (none)) else (some false))) else (none)) = some r := H
                 have A51 := Aside0.mk A510
                 clear A510
                 by_cases c52 : 0 ≤ x10_1
                 rotate_left
                 · (rw [if_neg c52] at H; exact absurd H (by simp))
                 rw [if_pos c52] at H
                 have c52b0 : decide (0 ≤ x10_1) = true := decide_eq_true c52
                 clear c52
                 replace H := Option.bind_eq_some_iff.mp H
                 obtain ⟨t413, A530, H⟩ := H
                 replace H : (if t413 = true then (if 0 < (t396.length : Int) then (if (rd t396 x10_1) = (rd t396 0) then (laws_FnSpread.l1 k1 (Int.tmod t394 t386) (wrap64 ((wrap64 ((Int.tmod t394 t386) + 1)) + (Int.tmod t395 (wrap64 (t386 - (Int.tmod t394 t386)))))) t396 x9_1 (wrap64 (x10_1 + 1)) t385 t386 t387) else (laws_FnSpread.l1 k1 (Int.tmod t394 t386) (wrap64 ((wrap64 ((Int.tmod t394 t386) + 1)) + (Int.tmod t395 (wrap64 (t386 - (Int.tmod t394 t386)))))) t396 false (wrap64 (x10_1 + 1)) t385 t386 t387)) else (none)) else (some false)) = some r := H
                 have A53 := Aside0.mk A530
                 clear A530
                 by_cases c54 : t413 = true
                 · subst c54
                   have H1 : (if 0 < (t396.length : Int) then (if (rd t396 x10_1) = (rd t396 0) then (laws_FnSpread.l1 k1 (Int.tmod t394 t386) (wrap64 ((wrap64 ((Int.tmod t394 t386) + 1)) + (Int.tmod t395 (wrap64 (t386 - (Int.tmod t394 t386)))))) t396 x9_1 (wrap64 (x10_1 + 1)) t385 t386 t387) else (laws_FnSpread.l1 k1 (Int.tmod t394 t386) (wrap64 ((wrap64 ((Int.tmod t394 t386) + 1)) + (Int.tmod t395 (wrap64 (t386 - (Int.tmod t394 t386)))))) t396 false (wrap64 (x10_1 + 1)) t385 t386 t387)) else (none)) = some r := by rw [if_pos rfl] at H; exact H
                   clear H; have H := H1; clear H1
                   by_cases c55 : 0 < (t396.length : Int)
                   rotate_left
                   · (rw [if_neg c55] at H; exact absurd H (by simp))
                   rw [if_pos c55] at H
                   have c55b0 : decide (0 < (t396.length : Int)) = true := decide_eq_true c55
                   have c55b1 : decide (0 < t396.length) = true := decide_eq_true (by omega)
                   clear c55
                   by_cases c56 : (rd t396 x10_1) = (rd t396 0)
                   · rw [if_pos c56] at H
                     have c56b0 : ((rd t396 x10_1) == (rd t396 0)) = true := beq_iff_eq.mpr c56
                     have c56b1 : ((rd t396 x10_1) != (rd t396 0)) = false := bne_eq_false_iff_eq.mpr c56
                     clear c56
                     have H' := Aside0.mk H
                     clear H
                     try go_wp2
                     have n0_ := Aside0.mk (Kd.R_drew HO_7.out)
                     have n1_ := Aside0.mk (Kd.R_drew HO_394002.out)
                     have n2_ := Aside0.mk (blk_drew BK393.out)
                     have n3_ := Aside0.mk (below_drew1 HB.out)
                     clear HO_7; clear HO_394002; clear BK393; clear HB; have HO_7 := n0_; have HO_394002 := n1_; have BK393 := n2_; have HB := n3_; clear n0_ n1_ n2_ n3_
                     have p412 : 0 ≤ (x10_1 : Int) := of_decide_eq_true nQ
                     have q412 : x10_1 < (t396.length : Int) := of_decide_eq_true nQ
                     obtain ⟨ad412, e412, hx412_0⟩ := Kd.at_int (Kd.R_reads' HO_7.out).2.2 x10_1 p412 q412
                     cases e412; replace p412 := eq_true p412; replace q412 := eq_true q412
                     refine start_ (n := 15) (S := fun w' => w'.cell? ⟨gb393, 0, none⟩ = some (.int .i64 t385) ∧ w'.cell? ⟨gb393, 1, none⟩ = some (.int .i64 t386) ∧ w'.cell? ⟨gb393, 2, none⟩ = some (.slice Ao40 t387.length co40) ∧ w'.cell? (ad412.add (x10_1).toNat) = some (.int .i64 (rd t396 x10_1))) (ds := []) #[F,F,F,F,F,F,F,F,F,F,F,F,F,F,F] (by kernel_rfl) rfl rfl ⟨(blk_cell BK393.out 0).trans rfl, (blk_cell BK393.out 1).trans rfl, (blk_cell BK393.out 2).trans rfl, hx412_0⟩ (fun hHeld => ?_); refine with_tabW laws_FnSpread.tab22 laws_FnSpread.bits22 (fun HT_ HW_ => ?_)
                     generalize wr.drew = w57 at HO_7 HO_394002 BK393 HB hx412_0 hHeld ⊢
                     refine pU 1 (some 73) #[F,T,F,F,F,F,F,F,F,F,F,F,F,F,F] rfl rfl HT_.out ?_
                     refine pU 2 (some 74) #[F,T,T,F,F,F,F,F,F,F,F,F,F,F,F] rfl rfl HT_.out ?_
                     refine pU 3 (some 75) #[F,T,T,T,F,F,F,F,F,F,F,F,F,F,F] rfl rfl HT_.out ?_
                     refine pU 4 (some 76) #[F,T,T,T,T,F,F,F,F,F,F,F,F,F,F] rfl rfl HT_.out ?_
                     refine pU 5 (some 77) #[F,T,T,T,T,T,F,F,F,F,F,F,F,F,F] rfl rfl HT_.out ?_
                     refine pU 6 (some 78) #[F,T,T,T,T,T,T,F,F,F,F,F,F,F,F] rfl rfl HT_.out ?_
                     refine pU 7 (some 79) #[F,T,T,T,T,T,T,T,F,F,F,F,F,F,F] rfl rfl HT_.out ?_
                     refine pU 9 (some 81) #[F,T,T,T,T,T,T,T,F,T,F,F,F,F,F] rfl rfl HT_.out ?_
                     refine pU 10 (some 82) #[F,T,T,T,T,T,T,T,F,T,T,F,F,F,F] rfl rfl HT_.out ?_
                     refine pU 11 (some 83) #[F,T,T,T,T,T,T,T,F,T,T,T,F,F,F] rfl rfl HT_.out ?_
                     refine tU4 0 (some 72) #[T,T,T,T,T,T,T,T,F,T,T,T,F,F,F] rfl rfl HT_.out HW_.out hHeld ?_
                     refine tU4 12 (some 84) #[T,T,T,T,T,T,T,T,F,T,T,T,T,F,F] rfl rfl HT_.out HW_.out hHeld ?_
                     refine one_ (i := 8) (N := some 80) #[T,T,T,T,T,T,T,T,T,T,T,T,T,F,F] rfl rfl (one_of HT_.out (by kernel_rfl)) (by decide) (fun K hK => ?_)
                     refine goes_ Try.func18 (by kernel_rfl) rfl #[.agg #[.int .i64 t385, .int .i64 t386, .slice Ao40 t387.length co40], .int .i64 (wrap64 ((Int.tmod t394 t386) + x10_1)), .int .i64 (wrap64 ((wrap64 ((Int.tmod t394 t386) + x10_1)) + 1))] (by rfl) rfl rfl (by (try simp only [List.map_toArray, List.map_cons, List.map_nil]); first | done | rfl | (simp only [List.length_drop, List.length_take]; rfl)) ?_
                     with_reducible refine (impl_FreeSeats.calls t385 t386 _ _ t387 (wrap64 ((Int.tmod t394 t386) + x10_1)) (wrap64 ((wrap64 ((Int.tmod t394 t386) + x10_1)) + 1)) t409 _ ?side1 ?side2 A51.out).mono ?_
                     (case side1 => repeat (first | exact (Kd.R_reads' HO_394002.out).2.2 | (with_reducible refine Kd.C_alloc ?_ _) | (with_reducible refine Kd.C_drewN ?_ _) | (with_reducible refine Kd.C_drew ?_)))
                     (case side2 => exact (Kd.R_reads' HO_394002.out).2.1)
                     rintro e w58 ⟨v410, rfl, ho0, hb⟩
                     have HS3_ := (hb.cell (World.block_lt_of_cell? _ _ (hHeld.2.2.2))).trans (hHeld.2.2.2)
                     refine ⟨_, rfl, ?_⟩
                     have n0_ := Aside0.mk (Kd.R_elder' (nR HO_7.out) (Kd.R_base ho0) hb)
                     have n1_ := Aside0.mk (Kd.R_below (nR HO_394002.out) hb)
                     have n2_ := Aside0.mk (Kd.R_lower (Kd.R_new' ho0 (Kd.R_lt (nR HO_7.out))) (below_size (nH1 HB.out GE393.out)))
                     have n3_ := Aside0.mk (blk_below (g := gb393) (o := .cells #[.int .i64 t385, .int .i64 t386, .slice Ao40 t387.length co40] 29 (0, 0)) (nB BK393.out) hb)
                     have n4_ := Aside0.mk (below_step (nH1 HB.out GE393.out) hb)
                     clear HO_7; clear HO_394002; clear BK393; clear HB; have HO_7 := n0_; have HO_394002 := n1_; have HO411 := n2_; have BK393 := n3_; have HB := n4_; clear n0_ n1_ n2_ n3_ n4_; (try clear hb); (try clear hb2); (try clear hk); (try clear hi); (try clear ho0)
                     obtain ⟨Ao59, co59, eo59⟩ := Kd.R_slice HO411.out
                     (first | subst eo59 | (injection eo59 with f1_ f2_ f3_; have f4_ := f1_.symm; have f5_ := f3_.symm; clear f1_ f2_ f3_; subst f4_; subst f5_))
                     refine hK.out _ _ ⟨(blk_cell BK393.out 0).trans rfl, (blk_cell BK393.out 1).trans rfl, (blk_cell BK393.out 2).trans rfl, HS3_⟩ (fun hHeld => ?_)
                     clear hK K
                     refine norm_ (a' := ?_) ?_ ?_
                     rotate_left
                     · show Act.put _ (some 80) _ = _
                       simp only [Act.put, List.setIfInBounds_toArray, List.set_cons_zero, List.set_cons_succ, i64_w, i32_w]
                       rfl
                     refine one_ (i := 13) (N := some 85) #[T,T,T,T,T,T,T,T,T,T,T,T,T,T,F] rfl rfl (one_of HT_.out (by kernel_rfl)) (by decide) (fun K hK => ?_)
                     refine goes_ Try.func34 (by kernel_rfl) rfl #[.slice Ao59 t409.length co59, .int .i64 (rd t396 x10_1)] (by rfl) rfl rfl (by (try simp only [List.map_toArray, List.map_cons, List.map_nil]); first | done | rfl | (simp only [List.length_drop, List.length_take]; rfl)) ?_
                     with_reducible refine (laws_within.calls k1 _ _ t409 (rd t396 x10_1) true _ ?side1 ?side2 A53.out).mono ?_
                     (case side1 => repeat (first | exact (Kd.R_reads' HO411.out).2.2 | (with_reducible refine Kd.C_alloc ?_ _) | (with_reducible refine Kd.C_drewN ?_ _) | (with_reducible refine Kd.C_drew ?_)))
                     (case side2 => exact (Kd.R_reads' HO411.out).2.1)
                     rintro e w' ⟨rfl, ⟨nd, rfl⟩⟩
                     refine ⟨_, rfl, ?_⟩
                     refine hK.out _ _ ⟨(blk_cell BK393.out 0).trans rfl, (blk_cell BK393.out 1).trans rfl, (blk_cell BK393.out 2).trans rfl, hHeld.2.2.2⟩ (fun hHeld => ?_)
                     clear hK K
                     refine norm_ (a' := ?_) ?_ ?_
                     rotate_left
                     · show Act.put _ (some 85) _ = _
                       simp only [Act.put, List.setIfInBounds_toArray, List.set_cons_zero, List.set_cons_succ, i64_w, i32_w]
                       rfl
                     refine pU 14 (some 86) #[T,T,T,T,T,T,T,T,T,T,T,T,T,T,T] rfl rfl HT_.out ?_
                     refine done_ (done_of HT_.out (by kernel_rfl)) ?_
                     try go_wp2
                     (try (rw [drewN_self w58]; generalize hq_ : World.drewN w58 _ = w58; have n0_ : Aside0 (Kd.R (Kd.int .i64) 3 w58 w.heap.size (fun k_ => some k_ ≠ (.slice (some ad412) t396.length co48 : Value).ownBlock) (.slice Ao59 t409.length co59) t409) := ⟨by rw [← hq_]; exact (by (with_reducible repeat (first | apply Kd.R_alloc | apply Kd.R_drewN | apply Kd.R_drew)); exact Kd.R_mono HO411.out (fun _ hk => hk.2))⟩; have n1_ : Aside0 (Kd.R k66 66 w58 w.heap.size (fun _ => True) (.slice Ao40 t387.length co40) t387) := ⟨by rw [← hq_]; exact (nR HO_394002.out)⟩; have n2_ : Aside0 (Kd.R (Kd.int .i64) 3 w58 w.heap.size (fun k_ => some k_ ≠ (.slice Ao59 t409.length co59 : Value).ownBlock) (.slice (some ad412) t396.length co48) t396) := ⟨by rw [← hq_]; exact (by (with_reducible repeat (first | apply Kd.R_alloc | apply Kd.R_drewN | apply Kd.R_drew)); exact Kd.R_mono HO_7.out (fun _ hk => hk.2))⟩; have n3_ : Aside0 (w58.heap[gb393]? = some (.cells #[.int .i64 t385, .int .i64 t386, .slice Ao40 t387.length co40] 29 (0, 0))) := ⟨by rw [← hq_]; exact (nB BK393.out)⟩; have n4_ : Aside0 (Below w.heap.size w w58) := ⟨by rw [← hq_]; exact (nH1 HB.out GE393.out)⟩; clear HO411 HO_394002 HO_7 BK393 HB hq_; have HO411 := n0_; have HO_394002 := n1_; have HO_7 := n2_; have BK393 := n3_; have HB := n4_; clear n0_ n1_ n2_ n3_ n4_))
                     have n0_ := Aside0.mk (Kd.R_drew HO_7.out)
                     have n1_ := Aside0.mk (Kd.R_drew HO_394002.out)
                     have n2_ := Aside0.mk (Kd.R_drew HO411.out)
                     have n3_ := Aside0.mk (blk_drew BK393.out)
                     have n4_ := Aside0.mk (below_drew1 HB.out)
                     clear HO_7; clear HO_394002; clear HO411; clear BK393; clear HB; have HO_7 := n0_; have HO_394002 := n1_; have HO411 := n2_; have BK393 := n3_; have HB := n4_; clear n0_ n1_ n2_ n3_ n4_
                     have p414 : 0 ≤ (x10_1 : Int) := of_decide_eq_true nQ
                     have q414 : x10_1 < (t396.length : Int) := of_decide_eq_true nQ
                     obtain ⟨ad414, e414, hx414_0⟩ := Kd.at_int (Kd.R_reads' HO_7.out).2.2 x10_1 p414 q414
                     obtain rfl : ad412 = ad414 := (by injection e414)
                     replace p414 := eq_true p414; replace q414 := eq_true q414
                     have p415 : 0 ≤ (0 : Int) := (by omega)
                     have q415 : 0 < (t396.length : Int) := of_decide_eq_true nQ
                     obtain ⟨ad415, e415, hx415_0⟩ := Kd.at_int (Kd.R_reads' HO_7.out).2.2 0 p415 q415
                     obtain rfl : ad412 = ad415 := (by injection e415)
                     have qi415 : (0 < t396.length) = True := eq_true (by omega)
                     (try rw [show ((0 : Int)).toNat = 0 from rfl] at hx415_0)
                     (try rw [Addr.add_zero'] at hx415_0)
                     replace p415 := eq_true p415; replace q415 := eq_true q415
                     refine start_ (n := 8) (S := fun w' => w'.cell? (ad412.add (x10_1).toNat) = some (.int .i64 (rd t396 x10_1)) ∧ w'.cell? ad412 = some (.int .i64 (rd t396 0))) (ds := []) #[F,F,F,F,F,F,F,F] (by kernel_rfl) rfl rfl ⟨hx414_0, hx415_0⟩ (fun hHeld => ?_); refine with_tabW laws_FnSpread.tab24 laws_FnSpread.bits24 (fun HT_ HW_ => ?_)
                     generalize w58.drew = w60 at HO_7 HO_394002 HO411 BK393 HB hx414_0 hx415_0 hHeld ⊢
                     refine pU 0 (some 87) #[T,F,F,F,F,F,F,F] rfl rfl HT_.out ?_
                     refine pU 1 (some 88) #[T,T,F,F,F,F,F,F] rfl rfl HT_.out ?_
                     refine pU 2 (some 89) #[T,T,T,F,F,F,F,F] rfl rfl HT_.out ?_
                     refine pU 4 (some 91) #[T,T,T,F,T,F,F,F] rfl rfl HT_.out ?_
                     refine pU 5 (some 92) #[T,T,T,F,T,T,F,F] rfl rfl HT_.out ?_
                     refine tU2 3 (some 90) #[T,T,T,T,T,T,F,F] rfl rfl HT_.out HW_.out hHeld ?_
                     refine tU2 6 (some 93) #[T,T,T,T,T,T,T,F] rfl rfl HT_.out HW_.out hHeld ?_
                     refine pU 7 (some 94) #[T,T,T,T,T,T,T,T] rfl rfl HT_.out ?_
                     refine done_ (done_of HT_.out (by kernel_rfl)) ?_
                     try go_wp2
                     go_roundg k1
                     case measure => have := HK1.out; omega
                     case rel => exact ⟨(x9_1), (wrap64 (x10_1 + 1)), nS, nS, H', ⟨by have := HK1.out; omega⟩, ⟨by (with_reducible repeat (first | apply Kd.R_alloc | apply Kd.R_drewN | apply Kd.R_drew)); exact Kd.R_mono HO_7.out (fun _ hk => trivial)⟩, ⟨by (with_reducible repeat (first | apply Kd.R_alloc | apply Kd.R_drewN | apply Kd.R_drew)); exact HO_394002.out⟩, ⟨by (with_reducible repeat (first | refine blk_drewN ?_ _ | refine blk_drew ?_ | refine blk_alloc ?_ _)); exact BK393.out⟩, ⟨nH1 HB.out GE393.out⟩⟩
                   · rw [if_neg c56] at H
                     have c56b0 : ((rd t396 x10_1) == (rd t396 0)) = false := beq_eq_false_iff_ne.mpr c56
                     have c56b1 : ((rd t396 x10_1) != (rd t396 0)) = true := bne_iff_ne.mpr c56
                     have H' := Aside0.mk H
                     clear H
                     try go_wp2
                     have n0_ := Aside0.mk (Kd.R_drew HO_7.out)
                     have n1_ := Aside0.mk (Kd.R_drew HO_394002.out)
                     have n2_ := Aside0.mk (blk_drew BK393.out)
                     have n3_ := Aside0.mk (below_drew1 HB.out)
                     clear HO_7; clear HO_394002; clear BK393; clear HB; have HO_7 := n0_; have HO_394002 := n1_; have BK393 := n2_; have HB := n3_; clear n0_ n1_ n2_ n3_
                     have p412 : 0 ≤ (x10_1 : Int) := of_decide_eq_true nQ
                     have q412 : x10_1 < (t396.length : Int) := of_decide_eq_true nQ
                     obtain ⟨ad412, e412, hx412_0⟩ := Kd.at_int (Kd.R_reads' HO_7.out).2.2 x10_1 p412 q412
                     cases e412; replace p412 := eq_true p412; replace q412 := eq_true q412
                     refine start_ (n := 15) (S := fun w' => w'.cell? ⟨gb393, 0, none⟩ = some (.int .i64 t385) ∧ w'.cell? ⟨gb393, 1, none⟩ = some (.int .i64 t386) ∧ w'.cell? ⟨gb393, 2, none⟩ = some (.slice Ao40 t387.length co40) ∧ w'.cell? (ad412.add (x10_1).toNat) = some (.int .i64 (rd t396 x10_1))) (ds := []) #[F,F,F,F,F,F,F,F,F,F,F,F,F,F,F] (by kernel_rfl) rfl rfl ⟨(blk_cell BK393.out 0).trans rfl, (blk_cell BK393.out 1).trans rfl, (blk_cell BK393.out 2).trans rfl, hx412_0⟩ (fun hHeld => ?_); refine with_tabW laws_FnSpread.tab22 laws_FnSpread.bits22 (fun HT_ HW_ => ?_)
                     generalize wr.drew = w61 at HO_7 HO_394002 BK393 HB hx412_0 hHeld ⊢
                     refine pU 1 (some 73) #[F,T,F,F,F,F,F,F,F,F,F,F,F,F,F] rfl rfl HT_.out ?_
                     refine pU 2 (some 74) #[F,T,T,F,F,F,F,F,F,F,F,F,F,F,F] rfl rfl HT_.out ?_
                     refine pU 3 (some 75) #[F,T,T,T,F,F,F,F,F,F,F,F,F,F,F] rfl rfl HT_.out ?_
                     refine pU 4 (some 76) #[F,T,T,T,T,F,F,F,F,F,F,F,F,F,F] rfl rfl HT_.out ?_
                     refine pU 5 (some 77) #[F,T,T,T,T,T,F,F,F,F,F,F,F,F,F] rfl rfl HT_.out ?_
                     refine pU 6 (some 78) #[F,T,T,T,T,T,T,F,F,F,F,F,F,F,F] rfl rfl HT_.out ?_
                     refine pU 7 (some 79) #[F,T,T,T,T,T,T,T,F,F,F,F,F,F,F] rfl rfl HT_.out ?_
                     refine pU 9 (some 81) #[F,T,T,T,T,T,T,T,F,T,F,F,F,F,F] rfl rfl HT_.out ?_
                     refine pU 10 (some 82) #[F,T,T,T,T,T,T,T,F,T,T,F,F,F,F] rfl rfl HT_.out ?_
                     refine pU 11 (some 83) #[F,T,T,T,T,T,T,T,F,T,T,T,F,F,F] rfl rfl HT_.out ?_
                     refine tU4 0 (some 72) #[T,T,T,T,T,T,T,T,F,T,T,T,F,F,F] rfl rfl HT_.out HW_.out hHeld ?_
                     refine tU4 12 (some 84) #[T,T,T,T,T,T,T,T,F,T,T,T,T,F,F] rfl rfl HT_.out HW_.out hHeld ?_
                     refine one_ (i := 8) (N := some 80) #[T,T,T,T,T,T,T,T,T,T,T,T,T,F,F] rfl rfl (one_of HT_.out (by kernel_rfl)) (by decide) (fun K hK => ?_)
                     refine goes_ Try.func18 (by kernel_rfl) rfl #[.agg #[.int .i64 t385, .int .i64 t386, .slice Ao40 t387.length co40], .int .i64 (wrap64 ((Int.tmod t394 t386) + x10_1)), .int .i64 (wrap64 ((wrap64 ((Int.tmod t394 t386) + x10_1)) + 1))] (by rfl) rfl rfl (by (try simp only [List.map_toArray, List.map_cons, List.map_nil]); first | done | rfl | (simp only [List.length_drop, List.length_take]; rfl)) ?_
                     with_reducible refine (impl_FreeSeats.calls t385 t386 _ _ t387 (wrap64 ((Int.tmod t394 t386) + x10_1)) (wrap64 ((wrap64 ((Int.tmod t394 t386) + x10_1)) + 1)) t409 _ ?side1 ?side2 A51.out).mono ?_
                     (case side1 => repeat (first | exact (Kd.R_reads' HO_394002.out).2.2 | (with_reducible refine Kd.C_alloc ?_ _) | (with_reducible refine Kd.C_drewN ?_ _) | (with_reducible refine Kd.C_drew ?_)))
                     (case side2 => exact (Kd.R_reads' HO_394002.out).2.1)
                     rintro e w62 ⟨v410, rfl, ho0, hb⟩
                     have HS3_ := (hb.cell (World.block_lt_of_cell? _ _ (hHeld.2.2.2))).trans (hHeld.2.2.2)
                     refine ⟨_, rfl, ?_⟩
                     have n0_ := Aside0.mk (Kd.R_elder' (nR HO_7.out) (Kd.R_base ho0) hb)
                     have n1_ := Aside0.mk (Kd.R_below (nR HO_394002.out) hb)
                     have n2_ := Aside0.mk (Kd.R_lower (Kd.R_new' ho0 (Kd.R_lt (nR HO_7.out))) (below_size (nH1 HB.out GE393.out)))
                     have n3_ := Aside0.mk (blk_below (g := gb393) (o := .cells #[.int .i64 t385, .int .i64 t386, .slice Ao40 t387.length co40] 29 (0, 0)) (nB BK393.out) hb)
                     have n4_ := Aside0.mk (below_step (nH1 HB.out GE393.out) hb)
                     clear HO_7; clear HO_394002; clear BK393; clear HB; have HO_7 := n0_; have HO_394002 := n1_; have HO411 := n2_; have BK393 := n3_; have HB := n4_; clear n0_ n1_ n2_ n3_ n4_; (try clear hb); (try clear hb2); (try clear hk); (try clear hi); (try clear ho0)
                     obtain ⟨Ao63, co63, eo63⟩ := Kd.R_slice HO411.out
                     (first | subst eo63 | (injection eo63 with f1_ f2_ f3_; have f4_ := f1_.symm; have f5_ := f3_.symm; clear f1_ f2_ f3_; subst f4_; subst f5_))
                     refine hK.out _ _ ⟨(blk_cell BK393.out 0).trans rfl, (blk_cell BK393.out 1).trans rfl, (blk_cell BK393.out 2).trans rfl, HS3_⟩ (fun hHeld => ?_)
                     clear hK K
                     refine norm_ (a' := ?_) ?_ ?_
                     rotate_left
                     · show Act.put _ (some 80) _ = _
                       simp only [Act.put, List.setIfInBounds_toArray, List.set_cons_zero, List.set_cons_succ, i64_w, i32_w]
                       rfl
                     refine one_ (i := 13) (N := some 85) #[T,T,T,T,T,T,T,T,T,T,T,T,T,T,F] rfl rfl (one_of HT_.out (by kernel_rfl)) (by decide) (fun K hK => ?_)
                     refine goes_ Try.func34 (by kernel_rfl) rfl #[.slice Ao63 t409.length co63, .int .i64 (rd t396 x10_1)] (by rfl) rfl rfl (by (try simp only [List.map_toArray, List.map_cons, List.map_nil]); first | done | rfl | (simp only [List.length_drop, List.length_take]; rfl)) ?_
                     with_reducible refine (laws_within.calls k1 _ _ t409 (rd t396 x10_1) true _ ?side1 ?side2 A53.out).mono ?_
                     (case side1 => repeat (first | exact (Kd.R_reads' HO411.out).2.2 | (with_reducible refine Kd.C_alloc ?_ _) | (with_reducible refine Kd.C_drewN ?_ _) | (with_reducible refine Kd.C_drew ?_)))
                     (case side2 => exact (Kd.R_reads' HO411.out).2.1)
                     rintro e w' ⟨rfl, ⟨nd, rfl⟩⟩
                     refine ⟨_, rfl, ?_⟩
                     refine hK.out _ _ ⟨(blk_cell BK393.out 0).trans rfl, (blk_cell BK393.out 1).trans rfl, (blk_cell BK393.out 2).trans rfl, hHeld.2.2.2⟩ (fun hHeld => ?_)
                     clear hK K
                     refine norm_ (a' := ?_) ?_ ?_
                     rotate_left
                     · show Act.put _ (some 85) _ = _
                       simp only [Act.put, List.setIfInBounds_toArray, List.set_cons_zero, List.set_cons_succ, i64_w, i32_w]
                       rfl
                     refine pU 14 (some 86) #[T,T,T,T,T,T,T,T,T,T,T,T,T,T,T] rfl rfl HT_.out ?_
                     refine done_ (done_of HT_.out (by kernel_rfl)) ?_
                     try go_wp2
                     (try (rw [drewN_self w62]; generalize hq_ : World.drewN w62 _ = w62; have n0_ : Aside0 (Kd.R (Kd.int .i64) 3 w62 w.heap.size (fun k_ => some k_ ≠ (.slice (some ad412) t396.length co48 : Value).ownBlock) (.slice Ao63 t409.length co63) t409) := ⟨by rw [← hq_]; exact (by (with_reducible repeat (first | apply Kd.R_alloc | apply Kd.R_drewN | apply Kd.R_drew)); exact Kd.R_mono HO411.out (fun _ hk => hk.2))⟩; have n1_ : Aside0 (Kd.R k66 66 w62 w.heap.size (fun _ => True) (.slice Ao40 t387.length co40) t387) := ⟨by rw [← hq_]; exact (nR HO_394002.out)⟩; have n2_ : Aside0 (Kd.R (Kd.int .i64) 3 w62 w.heap.size (fun k_ => some k_ ≠ (.slice Ao63 t409.length co63 : Value).ownBlock) (.slice (some ad412) t396.length co48) t396) := ⟨by rw [← hq_]; exact (by (with_reducible repeat (first | apply Kd.R_alloc | apply Kd.R_drewN | apply Kd.R_drew)); exact Kd.R_mono HO_7.out (fun _ hk => hk.2))⟩; have n3_ : Aside0 (w62.heap[gb393]? = some (.cells #[.int .i64 t385, .int .i64 t386, .slice Ao40 t387.length co40] 29 (0, 0))) := ⟨by rw [← hq_]; exact (nB BK393.out)⟩; have n4_ : Aside0 (Below w.heap.size w w62) := ⟨by rw [← hq_]; exact (nH1 HB.out GE393.out)⟩; clear HO411 HO_394002 HO_7 BK393 HB hq_; have HO411 := n0_; have HO_394002 := n1_; have HO_7 := n2_; have BK393 := n3_; have HB := n4_; clear n0_ n1_ n2_ n3_ n4_))
                     have n0_ := Aside0.mk (Kd.R_drew HO_7.out)
                     have n1_ := Aside0.mk (Kd.R_drew HO_394002.out)
                     have n2_ := Aside0.mk (Kd.R_drew HO411.out)
                     have n3_ := Aside0.mk (blk_drew BK393.out)
                     have n4_ := Aside0.mk (below_drew1 HB.out)
                     clear HO_7; clear HO_394002; clear HO411; clear BK393; clear HB; have HO_7 := n0_; have HO_394002 := n1_; have HO411 := n2_; have BK393 := n3_; have HB := n4_; clear n0_ n1_ n2_ n3_ n4_
                     have p414 : 0 ≤ (x10_1 : Int) := of_decide_eq_true nQ
                     have q414 : x10_1 < (t396.length : Int) := of_decide_eq_true nQ
                     obtain ⟨ad414, e414, hx414_0⟩ := Kd.at_int (Kd.R_reads' HO_7.out).2.2 x10_1 p414 q414
                     obtain rfl : ad412 = ad414 := (by injection e414)
                     replace p414 := eq_true p414; replace q414 := eq_true q414
                     have p415 : 0 ≤ (0 : Int) := (by omega)
                     have q415 : 0 < (t396.length : Int) := of_decide_eq_true nQ
                     obtain ⟨ad415, e415, hx415_0⟩ := Kd.at_int (Kd.R_reads' HO_7.out).2.2 0 p415 q415
                     obtain rfl : ad412 = ad415 := (by injection e415)
                     have qi415 : (0 < t396.length) = True := eq_true (by omega)
                     (try rw [show ((0 : Int)).toNat = 0 from rfl] at hx415_0)
                     (try rw [Addr.add_zero'] at hx415_0)
                     replace p415 := eq_true p415; replace q415 := eq_true q415
                     refine start_ (n := 8) (S := fun w' => w'.cell? (ad412.add (x10_1).toNat) = some (.int .i64 (rd t396 x10_1)) ∧ w'.cell? ad412 = some (.int .i64 (rd t396 0))) (ds := []) #[F,F,F,F,F,F,F,F] (by kernel_rfl) rfl rfl ⟨hx414_0, hx415_0⟩ (fun hHeld => ?_); refine with_tabW laws_FnSpread.tab24 laws_FnSpread.bits24 (fun HT_ HW_ => ?_)
                     generalize w62.drew = w64 at HO_7 HO_394002 HO411 BK393 HB hx414_0 hx415_0 hHeld ⊢
                     refine pU 0 (some 87) #[T,F,F,F,F,F,F,F] rfl rfl HT_.out ?_
                     refine pU 1 (some 88) #[T,T,F,F,F,F,F,F] rfl rfl HT_.out ?_
                     refine pU 2 (some 89) #[T,T,T,F,F,F,F,F] rfl rfl HT_.out ?_
                     refine pU 4 (some 91) #[T,T,T,F,T,F,F,F] rfl rfl HT_.out ?_
                     refine pU 5 (some 92) #[T,T,T,F,T,T,F,F] rfl rfl HT_.out ?_
                     refine tU2 3 (some 90) #[T,T,T,T,T,T,F,F] rfl rfl HT_.out HW_.out hHeld ?_
                     refine tU2 6 (some 93) #[T,T,T,T,T,T,T,F] rfl rfl HT_.out HW_.out hHeld ?_
                     refine pU 7 (some 94) #[T,T,T,T,T,T,T,T] rfl rfl HT_.out ?_
                     refine done_ (done_of HT_.out (by kernel_rfl)) ?_
                     try go_wp2
                     go_roundg k1
                     case measure => have := HK1.out; omega
                     case rel => exact ⟨(false), (wrap64 (x10_1 + 1)), nS, nS, H', ⟨by have := HK1.out; omega⟩, ⟨by (with_reducible repeat (first | apply Kd.R_alloc | apply Kd.R_drewN | apply Kd.R_drew)); exact Kd.R_mono HO_7.out (fun _ hk => trivial)⟩, ⟨by (with_reducible repeat (first | apply Kd.R_alloc | apply Kd.R_drewN | apply Kd.R_drew)); exact HO_394002.out⟩, ⟨by (with_reducible repeat (first | refine blk_drewN ?_ _ | refine blk_drew ?_ | refine blk_alloc ?_ _)); exact BK393.out⟩, ⟨nH1 HB.out GE393.out⟩⟩
                 · replace c54 := Bool.eq_false_iff.mpr c54
                   subst c54
                   have H1 : (some false) = some r := by rw [if_neg (show ¬ (false = true) by decide)] at H; exact H
                   clear H; have H := H1; clear H1
                   exact absurd ((Option.some.inj H).trans ht.out) (by decide)
               · rw [if_neg c50] at H
                 have c50b0 : decide (x10_1 < (t396.length : Int)) = false := decide_eq_false c50
                 clear c50
                 replace H := Option.bind_eq_some_iff.mp H
                 obtain ⟨t406, A650, H⟩ := H
                 replace H : (some (x9_1 == (decide ((t406.length : Int) > 0)))) = some r := H
                 have A65 := Aside0.mk A650
                 clear A650; obtain rfl := Option.some.inj H
                 have hcz66_0 : wr.cell? ⟨gb393, 0, none⟩ = some (.int .i64 t385) := (blk_cell BK393.out 0).trans rfl
                 have hcz66_1 : wr.cell? ⟨gb393, 1, none⟩ = some (.int .i64 t386) := (blk_cell BK393.out 1).trans rfl
                 have hcz66_2 : wr.cell? ⟨gb393, 2, none⟩ = some (.slice Ao40 t387.length co40) := (blk_cell BK393.out 2).trans rfl
                 have hfz66_0 := blk_frozen BK393.out 0
                 have hfz66_1 := blk_frozen BK393.out 1
                 have hfz66_2 := blk_frozen BK393.out 2
                 go_wp2_with (first | ((with_reducible refine gate_callee (f := 18) rfl ?_); refine goesL_ (some 99) rfl rfl Try.func18 (by kernel_rfl) rfl #[.agg #[.int .i64 t385, .int .i64 t386, .slice Ao40 t387.length co40], .int .i64 (Int.tmod t394 t386), .int .i64 (wrap64 ((wrap64 ((Int.tmod t394 t386) + 1)) + (Int.tmod t395 (wrap64 (t386 - (Int.tmod t394 t386))))))] rfl (by (try simp only [List.map_toArray, List.map_cons, List.map_nil]); first | done | rfl | (simp only [List.length_drop, List.length_take]; rfl)) ?_; (with_reducible refine (impl_FreeSeats.calls t385 t386 _ _ t387 (Int.tmod t394 t386) (wrap64 ((wrap64 ((Int.tmod t394 t386) + 1)) + (Int.tmod t395 (wrap64 (t386 - (Int.tmod t394 t386)))))) t406 _ ?side1 ?side2 A65.out).mono ?_); (case side1 => repeat (first | exact (Kd.R_reads' HO_394002.out).2.2 | (with_reducible refine Kd.C_alloc ?_ _) | (with_reducible refine Kd.C_drewN ?_ _) | (with_reducible refine Kd.C_drew ?_))); (case side2 => exact (Kd.R_reads' HO_394002.out).2.1); rintro e w67 ⟨v407, rfl, ho0, hb⟩; refine ⟨_, rfl, ?_⟩; have n0_ := Aside0.mk (Kd.R_elder' (nR HO_7.out) (Kd.R_base ho0) hb); have n1_ := Aside0.mk (Kd.R_below (nR HO_394002.out) hb); have n2_ := Aside0.mk (Kd.R_lower (Kd.R_new' ho0 (Kd.R_lt (nR HO_7.out))) (below_size (nH1 HB.out GE393.out))); have n3_ := Aside0.mk (blk_below (g := gb393) (o := .cells #[.int .i64 t385, .int .i64 t386, .slice Ao40 t387.length co40] 29 (0, 0)) (nB BK393.out) hb); have n4_ := Aside0.mk (below_step (nH1 HB.out GE393.out) hb); clear HO_7; clear HO_394002; clear BK393; clear HB; have HO_7 := n0_; have HO_394002 := n1_; have HO408 := n2_; have BK393 := n3_; have HB := n4_; clear n0_ n1_ n2_ n3_ n4_; (try clear hb); (try clear hb2); (try clear hk); (try clear hi); (try clear ho0); obtain ⟨Ao68, co68, eo68⟩ := Kd.R_slice HO408.out; subst eo68))
                 go_ret
                 exact ⟨by first | rfl | (simp [errW_none, errW_some] <;> rfl) | (simp [*, errW_none, errW_some] <;> first | rfl | (simp [wrap64]; done)), nH1 HB.out GE393.out⟩
           · rw [if_neg c36] at H
             have c36b0 : ((t396.length : Int) == (wrap64 ((wrap64 ((wrap64 ((Int.tmod t394 t386) + 1)) + (Int.tmod t395 (wrap64 (t386 - (Int.tmod t394 t386)))))) - (Int.tmod t394 t386)))) = false := beq_eq_false_iff_ne.mpr c36
             have c36b1 : ((t396.length : Int) != (wrap64 ((wrap64 ((wrap64 ((Int.tmod t394 t386) + 1)) + (Int.tmod t395 (wrap64 (t386 - (Int.tmod t394 t386)))))) - (Int.tmod t394 t386)))) = true := bne_iff_ne.mpr c36
             exact absurd ((Option.some.inj H).trans ht.out) (by decide)
       · replace c12 := Bool.eq_false_iff.mpr c12
         subst c12
         have H1 : (some false) = some r := by rw [if_neg (show ¬ (false = true) by decide)] at H; exact H
         clear H; have H := H1; clear H1
         exact absurd ((Option.some.inj H).trans ht.out) (by decide)
/-- THE ONE PURE STATEMENT of laws_FnSpread: yours. -/
theorem laws_FnSpread.walk (P : laws_FnSpread.Pure) (a0 : Option Addr) (len0 cap0 : Nat) (z0 : List Int) (w : World) (w0 : (a0 = none ∧ len0 = 0 ∧ cap0 = 0 ∧ z0 = []) ∨ ∃ x, a0 = some x ∧ len0 ≤ cap0 ∧ cap0 ≤ maxLen ∧ z0.length = cap0 ∧ (∀ i, i < z0.length → w.cell? (x.add i) = some (.int .u8 (z0.getD i 0))) ∧ ∀ n ∈ z0, (Lit.int .u8 n).wf = true) (y0 : len0 * 1 ≤ 140737488351232) :
 Calls Try.prog 8 #[.slice a0 len0 cap0] w fun e w' => e = .returned (.bool true) ∧ Below w.heap.size w w' := by
 obtain ⟨l0, rfl, hr0, hm0, hw0, hc0⟩ := ReadsInt.ofRowC w0
 obtain ⟨k, h⟩ := P l0 hm0 y0 hw0
 refine (laws_FnSpread.calls k _ _ l0 true w (Kd.C_of_reads (d := (0 : Int)) (h1 := fun _ => rfl) hr0) hc0 ⟨rfl⟩ h).mono ?_
 rintro e w' ⟨rfl, hd⟩
 exact ⟨rfl, hd⟩
end Go.Proofs.Ytklikbjlfaednaa.P
