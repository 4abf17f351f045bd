/- Contracts of the functions of the program, each one with its plain Lean function; written by a program of the session out of the translation. -/
import Derived.Test.YtcihaeggjfpacaaPx0
import Derived.Test.YtcihaeggjfpacaaPx4
import Derived.Test.YtcihaeggjfpacaaPx15
import Derived.Test.YtcihaeggjfpacaaPx17
import Derived.Test.YtcihaeggjfpacaaPx19
import Derived.Test.YtcihaeggjfpacaaPx21
import Derived.Test.YtcihaeggjfpacaaPx23
import Derived.Test.YtcihaeggjfpacaaPx24
import Derived.Test.YtcihaeggjfpacaaPx26
namespace Go.Proofs.Ytcihaeggjfpacaa.P
open Go.RowKit Go.Proofs.YtcihaeggjfpacaaW.PrintWords Go.Proofs.YtcihaeggjfpacaaW.PrintLast Go.Proofs.YtcihaeggjfpacaaW.PrintMore
attribute [local go_sem] max2_int min2_int max_two min_two max_three min_three max_four min_four   -- for this text's walks alone
set_option linter.unusedVariables false
set_option linter.unusedSimpArgs false

/-! ### laws_FnFares: function 7 -/
theorem laws_FnFares.mono_l : ∀ k, (∀ y0 y1 y2 y3 y4 y5 y6 y7 y8 y9 y10, LeO (laws_FnFares.j0 k y0 y1 y2 y3 y4 y5 y6 y7 y8 y9 y10) (laws_FnFares.j0 (k + 1) y0 y1 y2 y3 y4 y5 y6 y7 y8 y9 y10)) ∧ (∀ y0 y1 y2 y3 y4 y5 y6 y7 y8, LeO (laws_FnFares.j1 k y0 y1 y2 y3 y4 y5 y6 y7 y8) (laws_FnFares.j1 (k + 1) y0 y1 y2 y3 y4 y5 y6 y7 y8)) ∧ (∀ y0 y1 y2 y3 y4 y5 y6 y7 y8 y9, LeO (laws_FnFares.j2 k y0 y1 y2 y3 y4 y5 y6 y7 y8 y9) (laws_FnFares.j2 (k + 1) y0 y1 y2 y3 y4 y5 y6 y7 y8 y9)) ∧ (∀ y0 y1 y2 y3 y4 y5 y6 y7 y8 y9, LeO (laws_FnFares.l0 k y0 y1 y2 y3 y4 y5 y6 y7 y8 y9) (laws_FnFares.l0 (k + 1) y0 y1 y2 y3 y4 y5 y6 y7 y8 y9))
  | 0 => ⟨fun _ _ _ _ _ _ _ _ _ _ _ r h => by simp [laws_FnFares.j0] at h, fun _ _ _ _ _ _ _ _ _ r h => by simp [laws_FnFares.j1] at h, fun _ _ _ _ _ _ _ _ _ _ r h => by simp [laws_FnFares.j2] at h, fun _ _ _ _ _ _ _ _ _ _ r h => by simp [laws_FnFares.l0] at h⟩
  | k + 1 => by
    obtain ⟨ih0, ih1, ih2, ih3⟩ := laws_FnFares.mono_l k
    refine ⟨?_, ?_, ?_, ?_⟩
    · intro y0 y1 y2 y3 y4 y5 y6 y7 y8 y9 y10
      unfold laws_FnFares.j0
      repeat' first
      | (with_reducible exact ih0 _ _ _ _ _ _ _ _ _ _ _)
      | (with_reducible exact ih1 _ _ _ _ _ _ _ _ _)
      | (with_reducible exact ih2 _ _ _ _ _ _ _ _ _ _)
      | (with_reducible exact ih3 _ _ _ _ _ _ _ _ _ _)
      | (with_reducible exact impl_Carded.mono _ _ _ _ _ _ _ _)
      | (with_reducible exact impl_CardsOk.mono _ _)
      | (with_reducible exact impl_Fare.mono _ _ _ _ _ _ _)
      | (with_reducible exact impl_Refund.mono _ _ _ _ _ _ _)
      | (with_reducible exact spec_DrawRightTariff.mono _ _)
      | (with_reducible exact spec_Fare.mono _ _ _ _ _ _ _)
      | (with_reducible exact LeO.refl _)
      | (with_reducible exact LeO.none _)
      | (with_reducible refine LeO.ite ?_ ?_)
      | (with_reducible refine LeO.bind ?_ (fun _ => ?_))
      | exact ih0 _ _ _ _ _ _ _ _ _ _ _
      | exact ih1 _ _ _ _ _ _ _ _ _
      | exact ih2 _ _ _ _ _ _ _ _ _ _
      | exact ih3 _ _ _ _ _ _ _ _ _ _
      | exact impl_Carded.mono _ _ _ _ _ _ _ _
      | exact impl_CardsOk.mono _ _
      | exact impl_Fare.mono _ _ _ _ _ _ _
      | exact impl_Refund.mono _ _ _ _ _ _ _
      | exact spec_DrawRightTariff.mono _ _
      | exact spec_Fare.mono _ _ _ _ _ _ _
      | exact LeO.none _
      | refine LeO.ite ?_ ?_
      | refine LeO.bind ?_ (fun _ => ?_)
    · intro y0 y1 y2 y3 y4 y5 y6 y7 y8
      unfold laws_FnFares.j1
      repeat' first
      | (with_reducible exact ih0 _ _ _ _ _ _ _ _ _ _ _)
      | (with_reducible exact ih1 _ _ _ _ _ _ _ _ _)
      | (with_reducible exact ih2 _ _ _ _ _ _ _ _ _ _)
      | (with_reducible exact ih3 _ _ _ _ _ _ _ _ _ _)
      | (with_reducible exact impl_Carded.mono _ _ _ _ _ _ _ _)
      | (with_reducible exact impl_CardsOk.mono _ _)
      | (with_reducible exact impl_Fare.mono _ _ _ _ _ _ _)
      | (with_reducible exact impl_Refund.mono _ _ _ _ _ _ _)
      | (with_reducible exact spec_DrawRightTariff.mono _ _)
      | (with_reducible exact spec_Fare.mono _ _ _ _ _ _ _)
      | (with_reducible exact LeO.refl _)
      | (with_reducible exact LeO.none _)
      | (with_reducible refine LeO.ite ?_ ?_)
      | (with_reducible refine LeO.bind ?_ (fun _ => ?_))
      | exact ih0 _ _ _ _ _ _ _ _ _ _ _
      | exact ih1 _ _ _ _ _ _ _ _ _
      | exact ih2 _ _ _ _ _ _ _ _ _ _
      | exact ih3 _ _ _ _ _ _ _ _ _ _
      | exact impl_Carded.mono _ _ _ _ _ _ _ _
      | exact impl_CardsOk.mono _ _
      | exact impl_Fare.mono _ _ _ _ _ _ _
      | exact impl_Refund.mono _ _ _ _ _ _ _
      | exact spec_DrawRightTariff.mono _ _
      | exact spec_Fare.mono _ _ _ _ _ _ _
      | exact LeO.none _
      | refine LeO.ite ?_ ?_
      | refine LeO.bind ?_ (fun _ => ?_)
    · intro y0 y1 y2 y3 y4 y5 y6 y7 y8 y9
      unfold laws_FnFares.j2
      repeat' first
      | (with_reducible exact ih0 _ _ _ _ _ _ _ _ _ _ _)
      | (with_reducible exact ih1 _ _ _ _ _ _ _ _ _)
      | (with_reducible exact ih2 _ _ _ _ _ _ _ _ _ _)
      | (with_reducible exact ih3 _ _ _ _ _ _ _ _ _ _)
      | (with_reducible exact impl_Carded.mono _ _ _ _ _ _ _ _)
      | (with_reducible exact impl_CardsOk.mono _ _)
      | (with_reducible exact impl_Fare.mono _ _ _ _ _ _ _)
      | (with_reducible exact impl_Refund.mono _ _ _ _ _ _ _)
      | (with_reducible exact spec_DrawRightTariff.mono _ _)
      | (with_reducible exact spec_Fare.mono _ _ _ _ _ _ _)
      | (with_reducible exact LeO.refl _)
      | (with_reducible exact LeO.none _)
      | (with_reducible refine LeO.ite ?_ ?_)
      | (with_reducible refine LeO.bind ?_ (fun _ => ?_))
      | exact ih0 _ _ _ _ _ _ _ _ _ _ _
      | exact ih1 _ _ _ _ _ _ _ _ _
      | exact ih2 _ _ _ _ _ _ _ _ _ _
      | exact ih3 _ _ _ _ _ _ _ _ _ _
      | exact impl_Carded.mono _ _ _ _ _ _ _ _
      | exact impl_CardsOk.mono _ _
      | exact impl_Fare.mono _ _ _ _ _ _ _
      | exact impl_Refund.mono _ _ _ _ _ _ _
      | exact spec_DrawRightTariff.mono _ _
      | exact spec_Fare.mono _ _ _ _ _ _ _
      | exact LeO.none _
      | refine LeO.ite ?_ ?_
      | refine LeO.bind ?_ (fun _ => ?_)
    · intro y0 y1 y2 y3 y4 y5 y6 y7 y8 y9
      unfold laws_FnFares.l0
      repeat' first
      | (with_reducible exact ih0 _ _ _ _ _ _ _ _ _ _ _)
      | (with_reducible exact ih1 _ _ _ _ _ _ _ _ _)
      | (with_reducible exact ih2 _ _ _ _ _ _ _ _ _ _)
      | (with_reducible exact ih3 _ _ _ _ _ _ _ _ _ _)
      | (with_reducible exact impl_Carded.mono _ _ _ _ _ _ _ _)
      | (with_reducible exact impl_CardsOk.mono _ _)
      | (with_reducible exact impl_Fare.mono _ _ _ _ _ _ _)
      | (with_reducible exact impl_Refund.mono _ _ _ _ _ _ _)
      | (with_reducible exact spec_DrawRightTariff.mono _ _)
      | (with_reducible exact spec_Fare.mono _ _ _ _ _ _ _)
      | (with_reducible exact LeO.refl _)
      | (with_reducible exact LeO.none _)
      | (with_reducible refine LeO.ite ?_ ?_)
      | (with_reducible refine LeO.bind ?_ (fun _ => ?_))
      | exact ih0 _ _ _ _ _ _ _ _ _ _ _
      | exact ih1 _ _ _ _ _ _ _ _ _
      | exact ih2 _ _ _ _ _ _ _ _ _ _
      | exact ih3 _ _ _ _ _ _ _ _ _ _
      | exact impl_Carded.mono _ _ _ _ _ _ _ _
      | exact impl_CardsOk.mono _ _
      | exact impl_Fare.mono _ _ _ _ _ _ _
      | exact impl_Refund.mono _ _ _ _ _ _ _
      | exact spec_DrawRightTariff.mono _ _
      | exact spec_Fare.mono _ _ _ _ _ _ _
      | exact LeO.none _
      | refine LeO.ite ?_ ?_
      | refine LeO.bind ?_ (fun _ => ?_)
theorem laws_FnFares.mono : ∀ a0 k, LeO (laws_FnFares.f k a0) (laws_FnFares.f (k + 1) a0) := by
  intro a0 k
  obtain ⟨ih0, ih1, ih2, ih3⟩ := laws_FnFares.mono_l k
  unfold laws_FnFares.f
  repeat' first
      | (with_reducible exact ih0 _ _ _ _ _ _ _ _ _ _ _)
      | (with_reducible exact ih1 _ _ _ _ _ _ _ _ _)
      | (with_reducible exact ih2 _ _ _ _ _ _ _ _ _ _)
      | (with_reducible exact ih3 _ _ _ _ _ _ _ _ _ _)
      | (with_reducible exact impl_Carded.mono _ _ _ _ _ _ _ _)
      | (with_reducible exact impl_CardsOk.mono _ _)
      | (with_reducible exact impl_Fare.mono _ _ _ _ _ _ _)
      | (with_reducible exact impl_Refund.mono _ _ _ _ _ _ _)
      | (with_reducible exact spec_DrawRightTariff.mono _ _)
      | (with_reducible exact spec_Fare.mono _ _ _ _ _ _ _)
      | (with_reducible exact LeO.refl _)
      | (with_reducible exact LeO.none _)
      | (with_reducible refine LeO.ite ?_ ?_)
      | (with_reducible refine LeO.bind ?_ (fun _ => ?_))
      | exact ih0 _ _ _ _ _ _ _ _ _ _ _
      | exact ih1 _ _ _ _ _ _ _ _ _
      | exact ih2 _ _ _ _ _ _ _ _ _ _
      | exact ih3 _ _ _ _ _ _ _ _ _ _
      | exact impl_Carded.mono _ _ _ _ _ _ _ _
      | exact impl_CardsOk.mono _ _
      | exact impl_Fare.mono _ _ _ _ _ _ _
      | exact impl_Refund.mono _ _ _ _ _ _ _
      | exact spec_DrawRightTariff.mono _ _
      | exact spec_Fare.mono _ _ _ _ _ _ _
      | exact LeO.none _
      | refine LeO.ite ?_ ?_
      | refine LeO.bind ?_ (fun _ => ?_)
def laws_FnFares.T16 : Bool × List (List Nat × List Nat) := (true, [([], []), ([], []), ([], []), ([], []), ([], []), ([4], [4]), ([2, 3, 5], [2, 3, 5]), ([], []), ([0, 1, 6, 7], [0, 1, 6, 7]), ([8, 8, 0, 1, 2, 3, 4, 5, 6, 7, 8], [8])])
def laws_FnFares.B16 : List Nat := [0, 0, 0, 0, 0, 16, 60, 0, 255, 511]
theorem laws_FnFares.tab16 : rtab .any (opsOf Try.f7 16) = laws_FnFares.T16 := by kernel_rfl
theorem laws_FnFares.bits16 : waitsOk laws_FnFares.T16.2 laws_FnFares.B16 = true := by kernel_rfl
set_option maxHeartbeats 8000000 in
set_option maxRecDepth 100000 in
theorem laws_FnFares.calls (k : Nat) (A0 : Option Addr) (c0 : Nat) (l0 : List Int) (r : Bool) (w : World) (hr0 : Kd.C (Kd.int .u8) w A0 l0.length l0) (hc0 : l0.length ≤ c0) (ht : Aside0 (r = true)) (h : laws_FnFares.f k l0 = some r) :
    Calls Try.prog 7 #[.slice A0 l0.length c0] w fun e w' => e = .returned (.bool r) ∧ Below w.heap.size w w' := by
  have hu34 := Try.underlying34
  have HR0 := Aside0.mk hr0
  have HC0 := Aside0.mk hc0
  clear hr0 hc0
  have HB := Aside0.mk (Below.refl w.heap.size w)
  have H : ((laws_big.f l0).bind fun t357 => (if t357 = true then (some true) else ((spec_DrawRightTariff.f k l0).bind fun bt358 => ((laws_at.f l0 3).bind fun t372 => ((laws_at.f l0 4).bind fun t373 => ((impl_Fare.f k bt358.1 bt358.2.1 bt358.2.2.1 bt358.2.2.2.1 (Int.tmod t372 20) (Int.tmod t373 20)).bind fun t374 => (if t374 < 0 then (laws_FnFares.j0 k l0 bt358.2.2.2.2.1 bt358.2.2.2.2.2.2 (Int.tmod t372 20) (Int.tmod t373 20) t374 true bt358.1 bt358.2.1 bt358.2.2.1 bt358.2.2.2.1) else ((impl_Fare.f k bt358.1 bt358.2.1 bt358.2.2.1 bt358.2.2.2.1 (Int.tmod t373 20) (Int.tmod t372 20)).bind fun t375 => (if t374 = t375 then (if bt358.2.2.2.1 = 0 then (none) else (if (Int.tmod t374 bt358.2.2.2.1) = 0 then ((spec_Fare.f k bt358.1 bt358.2.1 bt358.2.2.1 bt358.2.2.2.1 (Int.tmod t372 20) (Int.tmod t373 20)).bind fun t376 => (laws_FnFares.j0 k l0 bt358.2.2.2.2.1 bt358.2.2.2.2.2.2 (Int.tmod t372 20) (Int.tmod t373 20) t374 (t374 != t376) bt358.1 bt358.2.1 bt358.2.2.1 bt358.2.2.2.1)) else (laws_FnFares.j0 k l0 bt358.2.2.2.2.1 bt358.2.2.2.2.2.2 (Int.tmod t372 20) (Int.tmod t373 20) t374 true bt358.1 bt358.2.1 bt358.2.2.1 bt358.2.2.2.1))) else (laws_FnFares.j0 k l0 bt358.2.2.2.2.1 bt358.2.2.2.2.2.2 (Int.tmod t372 20) (Int.tmod t373 20) t374 true bt358.1 bt358.2.1 bt358.2.2.1 bt358.2.2.2.1)))))))))) = some r := h
  clear h
  replace H := Option.bind_eq_some_iff.mp H
  obtain ⟨t357, A20, H⟩ := H
  replace H : (if t357 = true then (some true) else ((spec_DrawRightTariff.f k l0).bind fun bt358 => ((laws_at.f l0 3).bind fun t372 => ((laws_at.f l0 4).bind fun t373 => ((impl_Fare.f k bt358.1 bt358.2.1 bt358.2.2.1 bt358.2.2.2.1 (Int.tmod t372 20) (Int.tmod t373 20)).bind fun t374 => (if t374 < 0 then (laws_FnFares.j0 k l0 bt358.2.2.2.2.1 bt358.2.2.2.2.2.2 (Int.tmod t372 20) (Int.tmod t373 20) t374 true bt358.1 bt358.2.1 bt358.2.2.1 bt358.2.2.2.1) else ((impl_Fare.f k bt358.1 bt358.2.1 bt358.2.2.1 bt358.2.2.2.1 (Int.tmod t373 20) (Int.tmod t372 20)).bind fun t375 => (if t374 = t375 then (if bt358.2.2.2.1 = 0 then (none) else (if (Int.tmod t374 bt358.2.2.2.1) = 0 then ((spec_Fare.f k bt358.1 bt358.2.1 bt358.2.2.1 bt358.2.2.2.1 (Int.tmod t372 20) (Int.tmod t373 20)).bind fun t376 => (laws_FnFares.j0 k l0 bt358.2.2.2.2.1 bt358.2.2.2.2.2.2 (Int.tmod t372 20) (Int.tmod t373 20) t374 (t374 != t376) bt358.1 bt358.2.1 bt358.2.2.1 bt358.2.2.2.1)) else (laws_FnFares.j0 k l0 bt358.2.2.2.2.1 bt358.2.2.2.2.2.2 (Int.tmod t372 20) (Int.tmod t373 20) t374 true bt358.1 bt358.2.1 bt358.2.2.1 bt358.2.2.2.1))) else (laws_FnFares.j0 k l0 bt358.2.2.2.2.1 bt358.2.2.2.2.2.2 (Int.tmod t372 20) (Int.tmod t373 20) t374 true bt358.1 bt358.2.1 bt358.2.2.1 bt358.2.2.2.1))))))))) = some r := H
  have A2 := Aside0.mk A20
  clear A20
  by_cases c3 : t357 = true
  · subst c3
    have H1 : (some true) = some r := by rw [if_pos rfl] at H; exact H
    clear H
    have H := H1
    clear H1
    obtain rfl := Option.some.inj H
    go_enter Try.func7, Try.ntmps7
    go_wp2_with (first | ((with_reducible refine gate_callee (f := 26) rfl ?_); refine goesL_ (some 15) rfl rfl Try.func26 (by kernel_rfl) rfl #[.slice A0 l0.length c0] rfl (by (try simp only [List.map_toArray, List.map_cons, List.map_nil]); first | done | rfl | (simp only [List.length_drop, List.length_take]; rfl)) ?_; (with_reducible refine (laws_big.calls _ _ l0 true _ ?side1 ?side2 A2.out).mono ?_); (case side1 => repeat (first | exact HR0.out | (with_reducible refine Kd.C_alloc ?_ _) | (with_reducible refine Kd.C_drewN ?_ _) | (with_reducible refine Kd.C_drew ?_))); (case side2 => exact HC0.out); rintro e w' ⟨rfl, ⟨nd, rfl⟩⟩; refine ⟨_, rfl, ?_⟩))
    go_ret
    exact ⟨by first | rfl | (simp [errW_none, errW_some] <;> rfl) | (simp [*, errW_none, errW_some] <;> first | rfl | (simp [wrap64]; done)), by repeat (first | (with_reducible first | exact HB.out | apply below_alloc | apply pw_below_drewN | apply below_drew1) | exact HB.out)⟩
  · replace c3 := Bool.eq_false_iff.mpr c3
    subst c3
    have H1 : ((spec_DrawRightTariff.f k l0).bind fun bt358 => ((laws_at.f l0 3).bind fun t372 => ((laws_at.f l0 4).bind fun t373 => ((impl_Fare.f k bt358.1 bt358.2.1 bt358.2.2.1 bt358.2.2.2.1 (Int.tmod t372 20) (Int.tmod t373 20)).bind fun t374 => (if t374 < 0 then (laws_FnFares.j0 k l0 bt358.2.2.2.2.1 bt358.2.2.2.2.2.2 (Int.tmod t372 20) (Int.tmod t373 20) t374 true bt358.1 bt358.2.1 bt358.2.2.1 bt358.2.2.2.1) else ((impl_Fare.f k bt358.1 bt358.2.1 bt358.2.2.1 bt358.2.2.2.1 (Int.tmod t373 20) (Int.tmod t372 20)).bind fun t375 => (if t374 = t375 then (if bt358.2.2.2.1 = 0 then (none) else (if (Int.tmod t374 bt358.2.2.2.1) = 0 then ((spec_Fare.f k bt358.1 bt358.2.1 bt358.2.2.1 bt358.2.2.2.1 (Int.tmod t372 20) (Int.tmod t373 20)).bind fun t376 => (laws_FnFares.j0 k l0 bt358.2.2.2.2.1 bt358.2.2.2.2.2.2 (Int.tmod t372 20) (Int.tmod t373 20) t374 (t374 != t376) bt358.1 bt358.2.1 bt358.2.2.1 bt358.2.2.2.1)) else (laws_FnFares.j0 k l0 bt358.2.2.2.2.1 bt358.2.2.2.2.2.2 (Int.tmod t372 20) (Int.tmod t373 20) t374 true bt358.1 bt358.2.1 bt358.2.2.1 bt358.2.2.2.1))) else (laws_FnFares.j0 k l0 bt358.2.2.2.2.1 bt358.2.2.2.2.2.2 (Int.tmod t372 20) (Int.tmod t373 20) t374 true bt358.1 bt358.2.1 bt358.2.2.1 bt358.2.2.2.1)))))))) = some r := by rw [if_neg (show ¬ (false = true) by decide)] at H; exact H
    clear H
    have H := H1
    clear H1
    replace H := Option.bind_eq_some_iff.mp H
    obtain ⟨⟨t358, t359, t360, t363, t364, t367, t370⟩, A40, H⟩ := H
    replace H : ((laws_at.f l0 3).bind fun t372 => ((laws_at.f l0 4).bind fun t373 => ((impl_Fare.f k t358 t359 t360 t363 (Int.tmod t372 20) (Int.tmod t373 20)).bind fun t374 => (if t374 < 0 then (laws_FnFares.j0 k l0 t364 t370 (Int.tmod t372 20) (Int.tmod t373 20) t374 true t358 t359 t360 t363) else ((impl_Fare.f k t358 t359 t360 t363 (Int.tmod t373 20) (Int.tmod t372 20)).bind fun t375 => (if t374 = t375 then (if t363 = 0 then (none) else (if (Int.tmod t374 t363) = 0 then ((spec_Fare.f k t358 t359 t360 t363 (Int.tmod t372 20) (Int.tmod t373 20)).bind fun t376 => (laws_FnFares.j0 k l0 t364 t370 (Int.tmod t372 20) (Int.tmod t373 20) t374 (t374 != t376) t358 t359 t360 t363)) else (laws_FnFares.j0 k l0 t364 t370 (Int.tmod t372 20) (Int.tmod t373 20) t374 true t358 t359 t360 t363))) else (laws_FnFares.j0 k l0 t364 t370 (Int.tmod t372 20) (Int.tmod t373 20) t374 true t358 t359 t360 t363))))))) = some r := H
    have A4 := Aside0.mk A40
    clear A40
    replace H := Option.bind_eq_some_iff.mp H
    obtain ⟨t372, A50, H⟩ := H
    replace H : ((laws_at.f l0 4).bind fun t373 => ((impl_Fare.f k t358 t359 t360 t363 (Int.tmod t372 20) (Int.tmod t373 20)).bind fun t374 => (if t374 < 0 then (laws_FnFares.j0 k l0 t364 t370 (Int.tmod t372 20) (Int.tmod t373 20) t374 true t358 t359 t360 t363) else ((impl_Fare.f k t358 t359 t360 t363 (Int.tmod t373 20) (Int.tmod t372 20)).bind fun t375 => (if t374 = t375 then (if t363 = 0 then (none) else (if (Int.tmod t374 t363) = 0 then ((spec_Fare.f k t358 t359 t360 t363 (Int.tmod t372 20) (Int.tmod t373 20)).bind fun t376 => (laws_FnFares.j0 k l0 t364 t370 (Int.tmod t372 20) (Int.tmod t373 20) t374 (t374 != t376) t358 t359 t360 t363)) else (laws_FnFares.j0 k l0 t364 t370 (Int.tmod t372 20) (Int.tmod t373 20) t374 true t358 t359 t360 t363))) else (laws_FnFares.j0 k l0 t364 t370 (Int.tmod t372 20) (Int.tmod t373 20) t374 true t358 t359 t360 t363)))))) = some r := H
    have A5 := Aside0.mk A50
    clear A50
    replace H := Option.bind_eq_some_iff.mp H
    obtain ⟨t373, A60, H⟩ := H
    replace H : ((impl_Fare.f k t358 t359 t360 t363 (Int.tmod t372 20) (Int.tmod t373 20)).bind fun t374 => (if t374 < 0 then (laws_FnFares.j0 k l0 t364 t370 (Int.tmod t372 20) (Int.tmod t373 20) t374 true t358 t359 t360 t363) else ((impl_Fare.f k t358 t359 t360 t363 (Int.tmod t373 20) (Int.tmod t372 20)).bind fun t375 => (if t374 = t375 then (if t363 = 0 then (none) else (if (Int.tmod t374 t363) = 0 then ((spec_Fare.f k t358 t359 t360 t363 (Int.tmod t372 20) (Int.tmod t373 20)).bind fun t376 => (laws_FnFares.j0 k l0 t364 t370 (Int.tmod t372 20) (Int.tmod t373 20) t374 (t374 != t376) t358 t359 t360 t363)) else (laws_FnFares.j0 k l0 t364 t370 (Int.tmod t372 20) (Int.tmod t373 20) t374 true t358 t359 t360 t363))) else (laws_FnFares.j0 k l0 t364 t370 (Int.tmod t372 20) (Int.tmod t373 20) t374 true t358 t359 t360 t363))))) = some r := H
    have A6 := Aside0.mk A60
    clear A60
    replace H := Option.bind_eq_some_iff.mp H
    obtain ⟨t374, A70, H⟩ := H
    replace H : (if t374 < 0 then (laws_FnFares.j0 k l0 t364 t370 (Int.tmod t372 20) (Int.tmod t373 20) t374 true t358 t359 t360 t363) else ((impl_Fare.f k t358 t359 t360 t363 (Int.tmod t373 20) (Int.tmod t372 20)).bind fun t375 => (if t374 = t375 then (if t363 = 0 then (none) else (if (Int.tmod t374 t363) = 0 then ((spec_Fare.f k t358 t359 t360 t363 (Int.tmod t372 20) (Int.tmod t373 20)).bind fun t376 => (laws_FnFares.j0 k l0 t364 t370 (Int.tmod t372 20) (Int.tmod t373 20) t374 (t374 != t376) t358 t359 t360 t363)) else (laws_FnFares.j0 k l0 t364 t370 (Int.tmod t372 20) (Int.tmod t373 20) t374 true t358 t359 t360 t363))) else (laws_FnFares.j0 k l0 t364 t370 (Int.tmod t372 20) (Int.tmod t373 20) t374 true t358 t359 t360 t363)))) = some r := H
    have A7 := Aside0.mk A70
    clear A70
    have HC8 := Aside0.mk H
    clear H
    go_enter Try.func7, Try.ntmps7
    go_upto_region 6 with (first | ((with_reducible refine gate_callee (f := 26) rfl ?_); refine goesL_ (some 15) rfl rfl Try.func26 (by kernel_rfl) rfl #[.slice A0 l0.length c0] rfl (by (try simp only [List.map_toArray, List.map_cons, List.map_nil]); first | done | rfl | (simp only [List.length_drop, List.length_take]; rfl)) ?_; (with_reducible refine (laws_big.calls _ _ l0 false _ ?side1 ?side2 A2.out).mono ?_); (case side1 => repeat (first | exact HR0.out | (with_reducible refine Kd.C_alloc ?_ _) | (with_reducible refine Kd.C_drewN ?_ _) | (with_reducible refine Kd.C_drew ?_))); (case side2 => exact HC0.out); rintro e w' ⟨rfl, ⟨nd, rfl⟩⟩; refine ⟨_, rfl, ?_⟩) | ((with_reducible refine gate_callee (f := 27) rfl ?_); refine goesL_ (some 18) rfl rfl Try.func27 (by kernel_rfl) rfl #[.slice A0 l0.length c0] rfl (by (try simp only [List.map_toArray, List.map_cons, List.map_nil]); first | done | rfl | (simp only [List.length_drop, List.length_take]; rfl)) ?_; (with_reducible refine (spec_DrawRightTariff.calls k _ _ l0 t358 t359 t360 t363 t364 t367 t370 _ ?side1 ?side2 A4.out).mono ?_); (case side1 => repeat (first | exact HR0.out | (with_reducible refine Kd.C_alloc ?_ _) | (with_reducible refine Kd.C_drewN ?_ _) | (with_reducible refine Kd.C_drew ?_))); (case side2 => exact HC0.out); rintro e w9 ⟨v361, v365, v368, rfl, ho0, ho1, ho2, hb⟩; refine ⟨_, rfl, ?_⟩; have n0_ := Aside0.mk (Kd.R_lower ho0 (below_size (by repeat (first | (with_reducible first | exact HB.out | apply below_alloc | apply pw_below_drewN | apply below_drew1) | exact HB.out)))); have n1_ := Aside0.mk (Kd.R_lower ho1 (below_size (by repeat (first | (with_reducible first | exact HB.out | apply below_alloc | apply pw_below_drewN | apply below_drew1) | exact HB.out)))); have n2_ := Aside0.mk (Kd.R_lower ho2 (below_size (by repeat (first | (with_reducible first | exact HB.out | apply below_alloc | apply pw_below_drewN | apply below_drew1) | exact HB.out)))); have n3_ := Aside0.mk (below_step (by repeat (first | (with_reducible first | exact HB.out | apply below_alloc | apply pw_below_drewN | apply below_drew1) | exact HB.out)) hb); clear HB; have HO362 := n0_; have HO366 := n1_; have HO369 := n2_; have HB := n3_; clear n0_ n1_ n2_ n3_; (try clear hb); (try clear hb2); (try clear hk); (try clear hi); (try clear ho0); (try clear ho1); (try clear ho2)) | ((with_reducible refine gate_dst (N := 3) rfl ?_); refine box_event ?hg (N := 3) ?hd (cs := #[.int .i64 0, .int .i64 0, .slice none 0 0, .int .i64 0]) (t := 34) ?hr ?_; (case hd => rfl); (case hg => rfl); (case hr => first | (go_simp; done) | (go_simp; rfl)); intro gb371 hg w10 hbox hb; have n0_ := Aside0.mk (Kd.R_below (by (with_reducible repeat (first | apply Kd.R_alloc | apply Kd.R_drewN | apply Kd.R_drew)); exact HO362.out) hb); have n1_ := Aside0.mk (Kd.R_below (by (with_reducible repeat (first | apply Kd.R_alloc | apply Kd.R_drewN | apply Kd.R_drew)); exact HO366.out) hb); have n2_ := Aside0.mk (Kd.R_below (by (with_reducible repeat (first | apply Kd.R_alloc | apply Kd.R_drewN | apply Kd.R_drew)); exact HO369.out) hb); have n3_ := Aside0.mk (below_step (by repeat (first | (with_reducible first | exact HB.out | apply below_alloc | apply pw_below_drewN | apply below_drew1) | exact HB.out)) hb); have n4_ := Aside0.mk (hbox); have n5_ := Aside0.mk ((by rw [hg]; exact (below_size (by repeat (first | (with_reducible first | exact HB.out | apply below_alloc | apply pw_below_drewN | apply below_drew1) | exact HB.out))) : w.heap.size ≤ gb371)); have n6_ := Aside0.mk ((by rw [hg]; exact (below_size (by repeat (first | (with_reducible first | exact HB.out | apply below_alloc | apply pw_below_drewN | apply below_drew1) | exact HB.out))) : w.heap.size ≤ gb371)); clear HO362; clear HO366; clear HO369; clear HB; have HO362 := n0_; have HO366 := n1_; have HO369 := n2_; have HB := n3_; have BK371 := n4_; have GW371 := n5_; have GE371 := n6_; clear n0_ n1_ n2_ n3_ n4_ n5_ n6_; clear hb hbox hg; have hcz11_0 : w10.cell? ⟨gb371, 0, none⟩ = some (.int .i64 0) := (blk_cell BK371.out 0).trans rfl; have hcz11_1 : w10.cell? ⟨gb371, 1, none⟩ = some (.int .i64 0) := (blk_cell BK371.out 1).trans rfl; have hcz11_2 : w10.cell? ⟨gb371, 2, none⟩ = some (.slice none 0 0) := (blk_cell BK371.out 2).trans rfl; have hcz11_3 : w10.cell? ⟨gb371, 3, none⟩ = some (.int .i64 0) := (blk_cell BK371.out 3).trans rfl; have hfz11_0 := blk_frozen BK371.out 0; have hfz11_1 := blk_frozen BK371.out 1; have hfz11_2 := blk_frozen BK371.out 2; have hfz11_3 := blk_frozen BK371.out 3; obtain ⟨Ao12, co12, eo12⟩ := Kd.R_slice HO362.out; subst eo12) | ((with_reducible refine gate_callee (f := 28) rfl ?_); refine goesL_ (some 24) rfl rfl Try.func28 (by kernel_rfl) rfl #[.slice A0 l0.length c0, .int .i64 3] rfl (by (try simp only [List.map_toArray, List.map_cons, List.map_nil]); first | done | rfl | (simp only [List.length_drop, List.length_take]; rfl)) ?_; (with_reducible refine (laws_at.calls _ _ l0 3 t372 _ ?side1 ?side2 A5.out).mono ?_); (case side1 => exact Kd.C_below HR0.out (by repeat (first | (with_reducible first | exact HB.out | apply below_alloc | apply pw_below_drewN | apply below_drew1 | refine below_set ?_ GE371.out) | exact HB.out))); (case side2 => exact HC0.out); rintro e w' ⟨rfl, ⟨nd, rfl⟩⟩; refine ⟨_, rfl, ?_⟩) | ((with_reducible refine gate_callee (f := 28) rfl ?_); refine goesL_ (some 27) rfl rfl Try.func28 (by kernel_rfl) rfl #[.slice A0 l0.length c0, .int .i64 4] rfl (by (try simp only [List.map_toArray, List.map_cons, List.map_nil]); first | done | rfl | (simp only [List.length_drop, List.length_take]; rfl)) ?_; (with_reducible refine (laws_at.calls _ _ l0 4 t373 _ ?side1 ?side2 A6.out).mono ?_); (case side1 => exact Kd.C_below HR0.out (by repeat (first | (with_reducible first | exact HB.out | apply below_alloc | apply pw_below_drewN | apply below_drew1 | refine below_set ?_ GE371.out) | exact HB.out))); (case side2 => exact HC0.out); rintro e w' ⟨rfl, ⟨nd, rfl⟩⟩; refine ⟨_, rfl, ?_⟩) | ((with_reducible refine gate_callee (f := 25) rfl ?_); refine goesL_ (some 32) rfl rfl Try.func25 (by kernel_rfl) rfl #[.agg #[.int .i64 t358, .int .i64 t359, .slice Ao12 t360.length co12, .int .i64 t363], .int .i64 (Int.tmod t372 20), .int .i64 (Int.tmod t373 20)] rfl (by (try simp only [List.map_toArray, List.map_cons, List.map_nil]); first | done | rfl | (simp only [List.length_drop, List.length_take]; rfl)) ?_; (with_reducible refine (impl_Fare.calls k t358 t359 _ _ t360 t363 (Int.tmod t372 20) (Int.tmod t373 20) t374 _ ?side1 ?side2 A7.out).mono ?_); (case side1 => refine (Kd.R_reads' (e := 3) (base := w.heap.size) (ok := fun k_ => some k_ ≠ (v368 : Value).ownBlock) (n := t360.length) (c := co12) ?_).2.2; exact (by (with_reducible repeat (first | apply Kd.R_alloc | apply Kd.R_drewN | apply Kd.R_drew)); exact (Kd.R_mono (Kd.R_far (p := ⟨gb371, 3, none⟩) (Kd.R_far (p := ⟨gb371, 2, none⟩) (Kd.R_far (p := ⟨gb371, 1, none⟩) (Kd.R_far (p := ⟨gb371, 0, none⟩) (Kd.R_types HO362.out BK371.out (by decide)) (fun _ hk => hk.2) (.int .i64 t358)) (fun _ hk => hk.2) (.int .i64 t359)) (fun _ hk => hk.2) (.slice Ao12 t360.length co12)) (fun _ hk => hk.2) (.int .i64 t363)) (fun _ h_ => h_.1)))); (case side2 => exact (Kd.R_reads' HO362.out).2.1); rintro e w13 ⟨rfl, hb⟩; refine ⟨_, rfl, ?_⟩; have n0_ := Aside0.mk (Kd.R_below (by (with_reducible repeat (first | apply Kd.R_alloc | apply Kd.R_drewN | apply Kd.R_drew)); exact (Kd.R_mono (Kd.R_far (p := ⟨gb371, 3, none⟩) (Kd.R_far (p := ⟨gb371, 2, none⟩) (Kd.R_far (p := ⟨gb371, 1, none⟩) (Kd.R_far (p := ⟨gb371, 0, none⟩) (Kd.R_types HO362.out BK371.out (by decide)) (fun _ hk => hk.2) (.int .i64 t358)) (fun _ hk => hk.2) (.int .i64 t359)) (fun _ hk => hk.2) (.slice Ao12 t360.length co12)) (fun _ hk => hk.2) (.int .i64 t363)) (fun _ h_ => h_.1))) hb); have n1_ := Aside0.mk (Kd.R_below (by (with_reducible repeat (first | apply Kd.R_alloc | apply Kd.R_drewN | apply Kd.R_drew)); exact (Kd.R_mono (Kd.R_far (p := ⟨gb371, 3, none⟩) (Kd.R_far (p := ⟨gb371, 2, none⟩) (Kd.R_far (p := ⟨gb371, 1, none⟩) (Kd.R_far (p := ⟨gb371, 0, none⟩) (Kd.R_types HO366.out BK371.out (by decide)) (fun _ hk => hk.2) (.int .i64 t358)) (fun _ hk => hk.2) (.int .i64 t359)) (fun _ hk => hk.2) (.slice Ao12 t360.length co12)) (fun _ hk => hk.2) (.int .i64 t363)) (fun _ h_ => h_.1))) hb); have n2_ := Aside0.mk (Kd.R_below (by (with_reducible repeat (first | apply Kd.R_alloc | apply Kd.R_drewN | apply Kd.R_drew)); exact (Kd.R_mono (Kd.R_far (p := ⟨gb371, 3, none⟩) (Kd.R_far (p := ⟨gb371, 2, none⟩) (Kd.R_far (p := ⟨gb371, 1, none⟩) (Kd.R_far (p := ⟨gb371, 0, none⟩) (Kd.R_types HO369.out BK371.out (by decide)) (fun _ hk => hk.2) (.int .i64 t358)) (fun _ hk => hk.2) (.int .i64 t359)) (fun _ hk => hk.2) (.slice Ao12 t360.length co12)) (fun _ hk => hk.2) (.int .i64 t363)) (fun _ h_ => h_.1))) hb); have n3_ := Aside0.mk (blk_below (g := gb371) (o := .cells #[.int .i64 t358, .int .i64 t359, .slice Ao12 t360.length co12, .int .i64 t363] 34 (0, 0)) (by (with_reducible repeat (first | refine blk_drewN ?_ _ | refine blk_drew ?_ | refine blk_alloc ?_ _)); refine blk_put (cs := #[.int .i64 t358, .int .i64 t359, .slice Ao12 t360.length co12, .int .i64 0]) ?_ 3 _ rfl; (with_reducible repeat (first | refine blk_drewN ?_ _ | refine blk_drew ?_ | refine blk_alloc ?_ _)); refine blk_put (cs := #[.int .i64 t358, .int .i64 t359, .slice none 0 0, .int .i64 0]) ?_ 2 _ rfl; (with_reducible repeat (first | refine blk_drewN ?_ _ | refine blk_drew ?_ | refine blk_alloc ?_ _)); refine blk_put (cs := #[.int .i64 t358, .int .i64 0, .slice none 0 0, .int .i64 0]) ?_ 1 _ rfl; (with_reducible repeat (first | refine blk_drewN ?_ _ | refine blk_drew ?_ | refine blk_alloc ?_ _)); refine blk_put (cs := #[.int .i64 0, .int .i64 0, .slice none 0 0, .int .i64 0]) ?_ 0 _ rfl; (with_reducible repeat (first | refine blk_drewN ?_ _ | refine blk_drew ?_ | refine blk_alloc ?_ _)); exact BK371.out) hb); have n4_ := Aside0.mk (below_step (by repeat (first | (with_reducible first | exact HB.out | apply below_alloc | apply pw_below_drewN | apply below_drew1 | refine below_set ?_ GE371.out) | exact HB.out)) hb); clear HO362; clear HO366; clear HO369; clear BK371; clear HB; have HO362 := n0_; have HO366 := n1_; have HO369 := n2_; have BK371 := n3_; have HB := n4_; clear n0_ n1_ n2_ n3_ n4_; (try clear hb); (try clear hb2); (try clear hk); (try clear hi)))
    (try simp only [Act.put, List.setIfInBounds_toArray, List.set_cons_zero, List.set_cons_succ])
    go_cut [57] (fun v57 wc => ∃ (kq : Nat) (x57_7 : Bool), v57 = .bool x57_7 ∧ Aside0 (laws_FnFares.j0 kq l0 t364 t370 (Int.tmod t372 20) (Int.tmod t373 20) t374 x57_7 t358 t359 t360 t363 = some r) ∧ Aside0 (kq ≤ k) ∧ Aside0 (Kd.R k57 57 wc w.heap.size (fun _ => True) v365 t364) ∧ Aside0 (Kd.R (Kd.int .i64) 3 wc w.heap.size (fun _ => True) (.slice Ao12 t360.length co12) t360) ∧ Aside0 (wc.heap[gb371]? = some (.cells #[.int .i64 t358, .int .i64 t359, (.slice Ao12 t360.length co12), .int .i64 t363] 34 (0, 0))) ∧ Aside0 (Below w.heap.size w wc))
    case first =>
      have H := HC8.out
      clear HC8
      by_cases c14 : t374 < 0
      · rw [if_pos c14] at H
        have c14b0 : decide (t374 < 0) = true := decide_eq_true c14
        clear c14
        (first | rw [c14b0] | (simp only [i64_w, i32_w]; rw [c14b0]) | skip)
        have H' := Aside0.mk H
        clear H
        go_wp2
        go_meet
        case rel => exact ⟨_, (true), (by first | rfl | (simp; done) | (simp [*]; done)), H', ⟨by first | omega | exact Nat.le_refl _⟩, ⟨by (with_reducible repeat (first | apply Kd.R_alloc | apply Kd.R_drewN | apply Kd.R_drew)); exact HO366.out⟩, ⟨by (with_reducible repeat (first | apply Kd.R_alloc | apply Kd.R_drewN | apply Kd.R_drew)); exact Kd.R_mono HO362.out (fun _ hk => trivial)⟩, ⟨by (with_reducible repeat (first | refine blk_drewN ?_ _ | refine blk_drew ?_ | refine blk_alloc ?_ _)); exact BK371.out⟩, ⟨by repeat (first | (with_reducible first | exact HB.out | apply below_alloc | apply pw_below_drewN | apply below_drew1 | refine below_set ?_ GE371.out) | exact HB.out)⟩⟩
      · rw [if_neg c14] at H
        have c14b0 : decide (t374 < 0) = false := decide_eq_false c14
        clear c14
        (first | rw [c14b0] | (simp only [i64_w, i32_w]; rw [c14b0]) | skip)
        replace H := Option.bind_eq_some_iff.mp H
        obtain ⟨t375, A150, H⟩ := H
        replace H : (if t374 = t375 then (if t363 = 0 then (none) else (if (Int.tmod t374 t363) = 0 then ((spec_Fare.f k t358 t359 t360 t363 (Int.tmod t372 20) (Int.tmod t373 20)).bind fun t376 => (laws_FnFares.j0 k l0 t364 t370 (Int.tmod t372 20) (Int.tmod t373 20) t374 (t374 != t376) t358 t359 t360 t363)) else (laws_FnFares.j0 k l0 t364 t370 (Int.tmod t372 20) (Int.tmod t373 20) t374 true t358 t359 t360 t363))) else (laws_FnFares.j0 k l0 t364 t370 (Int.tmod t372 20) (Int.tmod t373 20) t374 true t358 t359 t360 t363)) = some r := H
        have A15 := Aside0.mk A150
        clear A150
        by_cases c16 : t374 = t375
        · rw [if_pos c16] at H
          have c16b0 : (t374 == t375) = true := beq_iff_eq.mpr c16
          have c16b1 : (t374 != t375) = false := bne_eq_false_iff_eq.mpr c16
          clear c16
          by_cases c17 : t363 = 0
          · rw [if_pos c17] at H
            exact absurd H (by simp)
          · rw [if_neg c17] at H
            have c17b0 : (t363 == 0) = false := beq_eq_false_iff_ne.mpr c17
            have c17b1 : (t363 != 0) = true := bne_iff_ne.mpr c17
            by_cases c18 : (Int.tmod t374 t363) = 0
            · rw [if_pos c18] at H
              have c18b0 : ((Int.tmod t374 t363) == 0) = true := beq_iff_eq.mpr c18
              have c18b1 : ((Int.tmod t374 t363) != 0) = false := bne_eq_false_iff_eq.mpr c18
              clear c18
              replace H := Option.bind_eq_some_iff.mp H
              obtain ⟨t376, A190, H⟩ := H
              replace H : (laws_FnFares.j0 k l0 t364 t370 (Int.tmod t372 20) (Int.tmod t373 20) t374 (t374 != t376) t358 t359 t360 t363) = some r := H
              have A19 := Aside0.mk A190
              clear A190
              have H' := Aside0.mk H
              clear H
              have hcz20_0 : w13.cell? ⟨gb371, 0, none⟩ = some (.int .i64 t358) := (blk_cell BK371.out 0).trans rfl
              have hcz20_1 : w13.cell? ⟨gb371, 1, none⟩ = some (.int .i64 t359) := (blk_cell BK371.out 1).trans rfl
              have hcz20_2 : w13.cell? ⟨gb371, 2, none⟩ = some (.slice Ao12 t360.length co12) := (blk_cell BK371.out 2).trans rfl
              have hcz20_3 : w13.cell? ⟨gb371, 3, none⟩ = some (.int .i64 t363) := (blk_cell BK371.out 3).trans rfl
              have hfz20_0 := blk_frozen BK371.out 0
              have hfz20_1 := blk_frozen BK371.out 1
              have hfz20_2 := blk_frozen BK371.out 2
              have hfz20_3 := blk_frozen BK371.out 3
              go_wp2_with (first | (go_at_call 25; (with_reducible refine (impl_Fare.calls k t358 t359 _ _ t360 t363 (Int.tmod t373 20) (Int.tmod t372 20) t375 _ ?side1 ?side2 A15.out).mono ?_); (case side1 => repeat (first | exact (Kd.R_reads' HO362.out).2.2 | (with_reducible refine Kd.C_alloc ?_ _) | (with_reducible refine Kd.C_drewN ?_ _) | (with_reducible refine Kd.C_drew ?_))); (case side2 => exact (Kd.R_reads' HO362.out).2.1); rintro e w21 ⟨rfl, hb⟩; have n0_ := Aside0.mk (Kd.R_below (by (with_reducible repeat (first | apply Kd.R_alloc | apply Kd.R_drewN | apply Kd.R_drew)); exact HO362.out) hb); have n1_ := Aside0.mk (Kd.R_below (by (with_reducible repeat (first | apply Kd.R_alloc | apply Kd.R_drewN | apply Kd.R_drew)); exact HO366.out) hb); have n2_ := Aside0.mk (Kd.R_below (by (with_reducible repeat (first | apply Kd.R_alloc | apply Kd.R_drewN | apply Kd.R_drew)); exact HO369.out) hb); have n3_ := Aside0.mk (blk_below (g := gb371) (o := .cells #[.int .i64 t358, .int .i64 t359, .slice Ao12 t360.length co12, .int .i64 t363] 34 (0, 0)) (by (with_reducible repeat (first | refine blk_drewN ?_ _ | refine blk_drew ?_ | refine blk_alloc ?_ _)); exact BK371.out) hb); have n4_ := Aside0.mk (below_step (by repeat (first | (with_reducible first | exact HB.out | apply below_alloc | apply pw_below_drewN | apply below_drew1 | refine below_set ?_ GE371.out) | exact HB.out)) hb); clear HO362; clear HO366; clear HO369; clear BK371; clear HB; have HO362 := n0_; have HO366 := n1_; have HO369 := n2_; have BK371 := n3_; have HB := n4_; clear n0_ n1_ n2_ n3_ n4_; (try clear hb); (try clear hb2); (try clear hk); (try clear hi); have hcz22_0 : w21.cell? ⟨gb371, 0, none⟩ = some (.int .i64 t358) := (blk_cell BK371.out 0).trans rfl; have hcz22_1 : w21.cell? ⟨gb371, 1, none⟩ = some (.int .i64 t359) := (blk_cell BK371.out 1).trans rfl; have hcz22_2 : w21.cell? ⟨gb371, 2, none⟩ = some (.slice Ao12 t360.length co12) := (blk_cell BK371.out 2).trans rfl; have hcz22_3 : w21.cell? ⟨gb371, 3, none⟩ = some (.int .i64 t363) := (blk_cell BK371.out 3).trans rfl; have hfz22_0 := blk_frozen BK371.out 0; have hfz22_1 := blk_frozen BK371.out 1; have hfz22_2 := blk_frozen BK371.out 2; have hfz22_3 := blk_frozen BK371.out 3) | (go_at_call 24; (with_reducible refine (spec_Fare.calls k t358 t359 _ _ t360 t363 (Int.tmod t372 20) (Int.tmod t373 20) t376 _ ?side1 ?side2 A19.out).mono ?_); (case side1 => repeat (first | exact (Kd.R_reads' HO362.out).2.2 | (with_reducible refine Kd.C_alloc ?_ _) | (with_reducible refine Kd.C_drewN ?_ _) | (with_reducible refine Kd.C_drew ?_))); (case side2 => exact (Kd.R_reads' HO362.out).2.1); rintro e w23 ⟨rfl, hb⟩; have n0_ := Aside0.mk (Kd.R_below (by (with_reducible repeat (first | apply Kd.R_alloc | apply Kd.R_drewN | apply Kd.R_drew)); exact HO362.out) hb); have n1_ := Aside0.mk (Kd.R_below (by (with_reducible repeat (first | apply Kd.R_alloc | apply Kd.R_drewN | apply Kd.R_drew)); exact HO366.out) hb); have n2_ := Aside0.mk (Kd.R_below (by (with_reducible repeat (first | apply Kd.R_alloc | apply Kd.R_drewN | apply Kd.R_drew)); exact HO369.out) hb); have n3_ := Aside0.mk (blk_below (g := gb371) (o := .cells #[.int .i64 t358, .int .i64 t359, .slice Ao12 t360.length co12, .int .i64 t363] 34 (0, 0)) (by (with_reducible repeat (first | refine blk_drewN ?_ _ | refine blk_drew ?_ | refine blk_alloc ?_ _)); exact BK371.out) hb); have n4_ := Aside0.mk (below_step (by repeat (first | (with_reducible first | exact HB.out | apply below_alloc | apply pw_below_drewN | apply below_drew1 | refine below_set ?_ GE371.out) | exact HB.out)) hb); clear HO362; clear HO366; clear HO369; clear BK371; clear HB; have HO362 := n0_; have HO366 := n1_; have HO369 := n2_; have BK371 := n3_; have HB := n4_; clear n0_ n1_ n2_ n3_ n4_; (try clear hb); (try clear hb2); (try clear hk); (try clear hi)))
              go_meet
              case rel => exact ⟨_, ((t374 != t376)), (by first | rfl | (simp; done) | (simp [*]; done)), H', ⟨by first | omega | exact Nat.le_refl _⟩, ⟨by (with_reducible repeat (first | apply Kd.R_alloc | apply Kd.R_drewN | apply Kd.R_drew)); exact HO366.out⟩, ⟨by (with_reducible repeat (first | apply Kd.R_alloc | apply Kd.R_drewN | apply Kd.R_drew)); exact Kd.R_mono HO362.out (fun _ hk => trivial)⟩, ⟨by (with_reducible repeat (first | refine blk_drewN ?_ _ | refine blk_drew ?_ | refine blk_alloc ?_ _)); exact BK371.out⟩, ⟨by repeat (first | (with_reducible first | exact HB.out | apply below_alloc | apply pw_below_drewN | apply below_drew1 | refine below_set ?_ GE371.out) | exact HB.out)⟩⟩
            · rw [if_neg c18] at H
              have c18b0 : ((Int.tmod t374 t363) == 0) = false := beq_eq_false_iff_ne.mpr c18
              have c18b1 : ((Int.tmod t374 t363) != 0) = true := bne_iff_ne.mpr c18
              have H' := Aside0.mk H
              clear H
              have hcz24_0 : w13.cell? ⟨gb371, 0, none⟩ = some (.int .i64 t358) := (blk_cell BK371.out 0).trans rfl
              have hcz24_1 : w13.cell? ⟨gb371, 1, none⟩ = some (.int .i64 t359) := (blk_cell BK371.out 1).trans rfl
              have hcz24_2 : w13.cell? ⟨gb371, 2, none⟩ = some (.slice Ao12 t360.length co12) := (blk_cell BK371.out 2).trans rfl
              have hcz24_3 : w13.cell? ⟨gb371, 3, none⟩ = some (.int .i64 t363) := (blk_cell BK371.out 3).trans rfl
              have hfz24_0 := blk_frozen BK371.out 0
              have hfz24_1 := blk_frozen BK371.out 1
              have hfz24_2 := blk_frozen BK371.out 2
              have hfz24_3 := blk_frozen BK371.out 3
              go_wp2_with (first | (go_at_call 25; (with_reducible refine (impl_Fare.calls k t358 t359 _ _ t360 t363 (Int.tmod t373 20) (Int.tmod t372 20) t375 _ ?side1 ?side2 A15.out).mono ?_); (case side1 => repeat (first | exact (Kd.R_reads' HO362.out).2.2 | (with_reducible refine Kd.C_alloc ?_ _) | (with_reducible refine Kd.C_drewN ?_ _) | (with_reducible refine Kd.C_drew ?_))); (case side2 => exact (Kd.R_reads' HO362.out).2.1); rintro e w25 ⟨rfl, hb⟩; have n0_ := Aside0.mk (Kd.R_below (by (with_reducible repeat (first | apply Kd.R_alloc | apply Kd.R_drewN | apply Kd.R_drew)); exact HO362.out) hb); have n1_ := Aside0.mk (Kd.R_below (by (with_reducible repeat (first | apply Kd.R_alloc | apply Kd.R_drewN | apply Kd.R_drew)); exact HO366.out) hb); have n2_ := Aside0.mk (Kd.R_below (by (with_reducible repeat (first | apply Kd.R_alloc | apply Kd.R_drewN | apply Kd.R_drew)); exact HO369.out) hb); have n3_ := Aside0.mk (blk_below (g := gb371) (o := .cells #[.int .i64 t358, .int .i64 t359, .slice Ao12 t360.length co12, .int .i64 t363] 34 (0, 0)) (by (with_reducible repeat (first | refine blk_drewN ?_ _ | refine blk_drew ?_ | refine blk_alloc ?_ _)); exact BK371.out) hb); have n4_ := Aside0.mk (below_step (by repeat (first | (with_reducible first | exact HB.out | apply below_alloc | apply pw_below_drewN | apply below_drew1 | refine below_set ?_ GE371.out) | exact HB.out)) hb); clear HO362; clear HO366; clear HO369; clear BK371; clear HB; have HO362 := n0_; have HO366 := n1_; have HO369 := n2_; have BK371 := n3_; have HB := n4_; clear n0_ n1_ n2_ n3_ n4_; (try clear hb); (try clear hb2); (try clear hk); (try clear hi); have hcz26_0 : w25.cell? ⟨gb371, 0, none⟩ = some (.int .i64 t358) := (blk_cell BK371.out 0).trans rfl; have hcz26_1 : w25.cell? ⟨gb371, 1, none⟩ = some (.int .i64 t359) := (blk_cell BK371.out 1).trans rfl; have hcz26_2 : w25.cell? ⟨gb371, 2, none⟩ = some (.slice Ao12 t360.length co12) := (blk_cell BK371.out 2).trans rfl; have hcz26_3 : w25.cell? ⟨gb371, 3, none⟩ = some (.int .i64 t363) := (blk_cell BK371.out 3).trans rfl; have hfz26_0 := blk_frozen BK371.out 0; have hfz26_1 := blk_frozen BK371.out 1; have hfz26_2 := blk_frozen BK371.out 2; have hfz26_3 := blk_frozen BK371.out 3))
              go_meet
              case rel => exact ⟨_, (true), (by first | rfl | (simp; done) | (simp [*]; done)), H', ⟨by first | omega | exact Nat.le_refl _⟩, ⟨by (with_reducible repeat (first | apply Kd.R_alloc | apply Kd.R_drewN | apply Kd.R_drew)); exact HO366.out⟩, ⟨by (with_reducible repeat (first | apply Kd.R_alloc | apply Kd.R_drewN | apply Kd.R_drew)); exact Kd.R_mono HO362.out (fun _ hk => trivial)⟩, ⟨by (with_reducible repeat (first | refine blk_drewN ?_ _ | refine blk_drew ?_ | refine blk_alloc ?_ _)); exact BK371.out⟩, ⟨by repeat (first | (with_reducible first | exact HB.out | apply below_alloc | apply pw_below_drewN | apply below_drew1 | refine below_set ?_ GE371.out) | exact HB.out)⟩⟩
        · rw [if_neg c16] at H
          have c16b0 : (t374 == t375) = false := beq_eq_false_iff_ne.mpr c16
          have c16b1 : (t374 != t375) = true := bne_iff_ne.mpr c16
          have H' := Aside0.mk H
          clear H
          have hcz27_0 : w13.cell? ⟨gb371, 0, none⟩ = some (.int .i64 t358) := (blk_cell BK371.out 0).trans rfl
          have hcz27_1 : w13.cell? ⟨gb371, 1, none⟩ = some (.int .i64 t359) := (blk_cell BK371.out 1).trans rfl
          have hcz27_2 : w13.cell? ⟨gb371, 2, none⟩ = some (.slice Ao12 t360.length co12) := (blk_cell BK371.out 2).trans rfl
          have hcz27_3 : w13.cell? ⟨gb371, 3, none⟩ = some (.int .i64 t363) := (blk_cell BK371.out 3).trans rfl
          have hfz27_0 := blk_frozen BK371.out 0
          have hfz27_1 := blk_frozen BK371.out 1
          have hfz27_2 := blk_frozen BK371.out 2
          have hfz27_3 := blk_frozen BK371.out 3
          go_wp2_with (first | (go_at_call 25; (with_reducible refine (impl_Fare.calls k t358 t359 _ _ t360 t363 (Int.tmod t373 20) (Int.tmod t372 20) t375 _ ?side1 ?side2 A15.out).mono ?_); (case side1 => repeat (first | exact (Kd.R_reads' HO362.out).2.2 | (with_reducible refine Kd.C_alloc ?_ _) | (with_reducible refine Kd.C_drewN ?_ _) | (with_reducible refine Kd.C_drew ?_))); (case side2 => exact (Kd.R_reads' HO362.out).2.1); rintro e w28 ⟨rfl, hb⟩; have n0_ := Aside0.mk (Kd.R_below (by (with_reducible repeat (first | apply Kd.R_alloc | apply Kd.R_drewN | apply Kd.R_drew)); exact HO362.out) hb); have n1_ := Aside0.mk (Kd.R_below (by (with_reducible repeat (first | apply Kd.R_alloc | apply Kd.R_drewN | apply Kd.R_drew)); exact HO366.out) hb); have n2_ := Aside0.mk (Kd.R_below (by (with_reducible repeat (first | apply Kd.R_alloc | apply Kd.R_drewN | apply Kd.R_drew)); exact HO369.out) hb); have n3_ := Aside0.mk (blk_below (g := gb371) (o := .cells #[.int .i64 t358, .int .i64 t359, .slice Ao12 t360.length co12, .int .i64 t363] 34 (0, 0)) (by (with_reducible repeat (first | refine blk_drewN ?_ _ | refine blk_drew ?_ | refine blk_alloc ?_ _)); exact BK371.out) hb); have n4_ := Aside0.mk (below_step (by repeat (first | (with_reducible first | exact HB.out | apply below_alloc | apply pw_below_drewN | apply below_drew1 | refine below_set ?_ GE371.out) | exact HB.out)) hb); clear HO362; clear HO366; clear HO369; clear BK371; clear HB; have HO362 := n0_; have HO366 := n1_; have HO369 := n2_; have BK371 := n3_; have HB := n4_; clear n0_ n1_ n2_ n3_ n4_; (try clear hb); (try clear hb2); (try clear hk); (try clear hi)))
          go_meet
          case rel => exact ⟨_, (true), (by first | rfl | (simp; done) | (simp [*]; done)), H', ⟨by first | omega | exact Nat.le_refl _⟩, ⟨by (with_reducible repeat (first | apply Kd.R_alloc | apply Kd.R_drewN | apply Kd.R_drew)); exact HO366.out⟩, ⟨by (with_reducible repeat (first | apply Kd.R_alloc | apply Kd.R_drewN | apply Kd.R_drew)); exact Kd.R_mono HO362.out (fun _ hk => trivial)⟩, ⟨by (with_reducible repeat (first | refine blk_drewN ?_ _ | refine blk_drew ?_ | refine blk_alloc ?_ _)); exact BK371.out⟩, ⟨by repeat (first | (with_reducible first | exact HB.out | apply below_alloc | apply pw_below_drewN | apply below_drew1 | refine below_set ?_ GE371.out) | exact HB.out)⟩⟩
    case rest =>
      clear HC8
      try clear c1
      try clear c2
      try clear p2
      try clear c3
      try clear p6
      try clear c7
      try clear c14
      try clear c14b0
      try clear c16
      try clear c16b0
      try clear c16b1
      try clear c17
      try clear c17b0
      try clear c17b1
      try clear c18
      try clear c18b0
      try clear c18b1
      try clear c25
      try clear c26
      try clear c27
      try clear c28
      try clear hcz11_0
      try clear hcz11_1
      try clear hcz11_2
      try clear hcz11_3
      try clear hcz20_0
      try clear hcz20_1
      try clear hcz20_2
      try clear hcz20_3
      try clear hcz22_0
      try clear hcz22_1
      try clear hcz22_2
      try clear hcz22_3
      try clear hcz24_0
      try clear hcz24_1
      try clear hcz24_2
      try clear hcz24_3
      try clear hcz26_0
      try clear hcz26_1
      try clear hcz26_2
      try clear hcz26_3
      try clear hcz27_0
      try clear hcz27_1
      try clear hcz27_2
      try clear hcz27_3
      try clear hfz11_0
      try clear hfz11_1
      try clear hfz11_2
      try clear hfz11_3
      try clear hfz20_0
      try clear hfz20_1
      try clear hfz20_2
      try clear hfz20_3
      try clear hfz22_0
      try clear hfz22_1
      try clear hfz22_2
      try clear hfz22_3
      try clear hfz24_0
      try clear hfz24_1
      try clear hfz24_2
      try clear hfz24_3
      try clear hfz26_0
      try clear hfz26_1
      try clear hfz26_2
      try clear hfz26_3
      try clear hfz27_0
      try clear hfz27_1
      try clear hfz27_2
      try clear hfz27_3
      obtain ⟨kq, x57_7, rfl, HA, HJ7, HO_4, HO_372002, BK371, HB⟩ := hcut
      cases kq with
      | zero => exact absurd HA.out (by simp [laws_FnFares.j0])
      | succ kj7 =>
        have H := HA.out
        clear HA
        simp only [laws_FnFares.j0] at H
        by_cases c29 : x57_7 = true
        · subst c29
          have H1 : (some false) = some r := by rw [if_pos rfl] at H; exact H
          clear H
          have H := H1
          clear H1
          exact absurd ((Option.some.inj H).trans ht.out) (by decide)
        · replace c29 := Bool.eq_false_iff.mpr c29
          subst c29
          have H1 : (if (Int.tmod t372 20) ≤ (Int.tmod t373 20) then (if (wrap64 ((Int.tmod t373 20) + 1)) < 20 then ((impl_Fare.f kj7 t358 t359 t360 t363 (Int.tmod t372 20) (wrap64 ((Int.tmod t373 20) + 1))).bind fun t377 => (laws_FnFares.j1 kj7 l0 t364 t370 t374 (decide (t377 < t374)) t358 t359 t360 t363)) else (laws_FnFares.j1 kj7 l0 t364 t370 t374 false t358 t359 t360 t363)) else (laws_FnFares.j1 kj7 l0 t364 t370 t374 false t358 t359 t360 t363)) = some r := by rw [if_neg (show ¬ (false = true) by decide)] at H; exact H
          clear H
          have H := H1
          clear H1
          have HC30 := Aside0.mk H
          clear H
          go_upto_region 8 with (fail)
          go_cut [74] (fun v74 wc => ∃ (kq : Nat) (x74_29 : Bool), v74 = .bool x74_29 ∧ Aside0 (laws_FnFares.j1 kq l0 t364 t370 t374 x74_29 t358 t359 t360 t363 = some r) ∧ Aside0 (kq ≤ kj7) ∧ Aside0 (Kd.R k57 57 wc w.heap.size (fun _ => True) v365 t364) ∧ Aside0 (Kd.R (Kd.int .i64) 3 wc w.heap.size (fun _ => True) (.slice Ao12 t360.length co12) t360) ∧ Aside0 (wc.heap[gb371]? = some (.cells #[.int .i64 t358, .int .i64 t359, (.slice Ao12 t360.length co12), .int .i64 t363] 34 (0, 0))) ∧ Aside0 (Below w.heap.size w wc))
          case first =>
            have H := HC30.out
            clear HC30
            by_cases c31 : (Int.tmod t372 20) ≤ (Int.tmod t373 20)
            · rw [if_pos c31] at H
              have c31b0 : decide ((Int.tmod t372 20) ≤ (Int.tmod t373 20)) = true := decide_eq_true c31
              clear c31
              (first | rw [c31b0] | (simp only [i64_w, i32_w]; rw [c31b0]) | skip)
              by_cases c32 : (wrap64 ((Int.tmod t373 20) + 1)) < 20
              · rw [if_pos c32] at H
                have c32b0 : decide ((wrap64 ((Int.tmod t373 20) + 1)) < 20) = true := decide_eq_true c32
                clear c32
                replace H := Option.bind_eq_some_iff.mp H
                obtain ⟨t377, A330, H⟩ := H
                replace H : (laws_FnFares.j1 kj7 l0 t364 t370 t374 (decide (t377 < t374)) t358 t359 t360 t363) = some r := H
                have A33 := Aside0.mk A330
                clear A330
                have H' := Aside0.mk H
                clear H
                have hcz34_0 : wc.cell? ⟨gb371, 0, none⟩ = some (.int .i64 t358) := (blk_cell BK371.out 0).trans rfl
                have hcz34_1 : wc.cell? ⟨gb371, 1, none⟩ = some (.int .i64 t359) := (blk_cell BK371.out 1).trans rfl
                have hcz34_2 : wc.cell? ⟨gb371, 2, none⟩ = some (.slice Ao12 t360.length co12) := (blk_cell BK371.out 2).trans rfl
                have hcz34_3 : wc.cell? ⟨gb371, 3, none⟩ = some (.int .i64 t363) := (blk_cell BK371.out 3).trans rfl
                have hfz34_0 := blk_frozen BK371.out 0
                have hfz34_1 := blk_frozen BK371.out 1
                have hfz34_2 := blk_frozen BK371.out 2
                have hfz34_3 := blk_frozen BK371.out 3
                go_wp2_with (first | (go_at_call 25; (with_reducible refine (impl_Fare.calls kj7 t358 t359 _ _ t360 t363 (Int.tmod t372 20) (wrap64 ((Int.tmod t373 20) + 1)) t377 _ ?side1 ?side2 A33.out).mono ?_); (case side1 => repeat (first | exact (Kd.R_reads' HO_372002.out).2.2 | (with_reducible refine Kd.C_alloc ?_ _) | (with_reducible refine Kd.C_drewN ?_ _) | (with_reducible refine Kd.C_drew ?_))); (case side2 => exact (Kd.R_reads' HO_372002.out).2.1); rintro e w35 ⟨rfl, hb⟩; have n0_ := Aside0.mk (Kd.R_below (by (with_reducible repeat (first | apply Kd.R_alloc | apply Kd.R_drewN | apply Kd.R_drew)); exact HO_4.out) hb); have n1_ := Aside0.mk (Kd.R_below (by (with_reducible repeat (first | apply Kd.R_alloc | apply Kd.R_drewN | apply Kd.R_drew)); exact HO_372002.out) hb); have n2_ := Aside0.mk (blk_below (g := gb371) (o := .cells #[.int .i64 t358, .int .i64 t359, .slice Ao12 t360.length co12, .int .i64 t363] 34 (0, 0)) (by (with_reducible repeat (first | refine blk_drewN ?_ _ | refine blk_drew ?_ | refine blk_alloc ?_ _)); exact BK371.out) hb); have n3_ := Aside0.mk (below_step (by repeat (first | (with_reducible first | exact HB.out | apply below_alloc | apply pw_below_drewN | apply below_drew1 | refine below_set ?_ GE371.out) | exact HB.out)) hb); clear HO_4; clear HO_372002; clear BK371; clear HB; have HO_4 := n0_; have HO_372002 := n1_; have BK371 := n2_; have HB := n3_; clear n0_ n1_ n2_ n3_; (try clear hb); (try clear hb2); (try clear hk); (try clear hi)))
                go_meet
                case rel => exact ⟨_, (decide (t377 < t374)), (by first | rfl | (simp; done) | (simp [*]; done)), H', ⟨by have := HJ7.out; first | omega | exact Nat.le_refl _⟩, ⟨by (with_reducible repeat (first | apply Kd.R_alloc | apply Kd.R_drewN | apply Kd.R_drew)); exact HO_4.out⟩, ⟨by (with_reducible repeat (first | apply Kd.R_alloc | apply Kd.R_drewN | apply Kd.R_drew)); exact HO_372002.out⟩, ⟨by (with_reducible repeat (first | refine blk_drewN ?_ _ | refine blk_drew ?_ | refine blk_alloc ?_ _)); exact BK371.out⟩, ⟨by repeat (first | (with_reducible first | exact HB.out | apply below_alloc | apply pw_below_drewN | apply below_drew1 | refine below_set ?_ GE371.out) | exact HB.out)⟩⟩
              · rw [if_neg c32] at H
                have c32b0 : decide ((wrap64 ((Int.tmod t373 20) + 1)) < 20) = false := decide_eq_false c32
                clear c32
                have H' := Aside0.mk H
                clear H
                go_wp2
                go_meet
                case rel => exact ⟨_, (false), (by first | rfl | (simp; done) | (simp [*]; done)), H', ⟨by have := HJ7.out; first | omega | exact Nat.le_refl _⟩, ⟨by (with_reducible repeat (first | apply Kd.R_alloc | apply Kd.R_drewN | apply Kd.R_drew)); exact HO_4.out⟩, ⟨by (with_reducible repeat (first | apply Kd.R_alloc | apply Kd.R_drewN | apply Kd.R_drew)); exact HO_372002.out⟩, ⟨by (with_reducible repeat (first | refine blk_drewN ?_ _ | refine blk_drew ?_ | refine blk_alloc ?_ _)); exact BK371.out⟩, ⟨by repeat (first | (with_reducible first | exact HB.out | apply below_alloc | apply pw_below_drewN | apply below_drew1 | refine below_set ?_ GE371.out) | exact HB.out)⟩⟩
            · rw [if_neg c31] at H
              have c31b0 : decide ((Int.tmod t372 20) ≤ (Int.tmod t373 20)) = false := decide_eq_false c31
              clear c31
              (first | rw [c31b0] | (simp only [i64_w, i32_w]; rw [c31b0]) | skip)
              have H' := Aside0.mk H
              clear H
              go_wp2
              go_meet
              case rel => exact ⟨_, (false), (by first | rfl | (simp; done) | (simp [*]; done)), H', ⟨by have := HJ7.out; first | omega | exact Nat.le_refl _⟩, ⟨by (with_reducible repeat (first | apply Kd.R_alloc | apply Kd.R_drewN | apply Kd.R_drew)); exact HO_4.out⟩, ⟨by (with_reducible repeat (first | apply Kd.R_alloc | apply Kd.R_drewN | apply Kd.R_drew)); exact HO_372002.out⟩, ⟨by (with_reducible repeat (first | refine blk_drewN ?_ _ | refine blk_drew ?_ | refine blk_alloc ?_ _)); exact BK371.out⟩, ⟨by repeat (first | (with_reducible first | exact HB.out | apply below_alloc | apply pw_below_drewN | apply below_drew1 | refine below_set ?_ GE371.out) | exact HB.out)⟩⟩
          case rest =>
            clear HC30
            try clear c1
            try clear c2
            try clear p2
            try clear c3
            try clear p6
            try clear c7
            try clear c14
            try clear c14b0
            try clear c16
            try clear c16b0
            try clear c16b1
            try clear c17
            try clear c17b0
            try clear c17b1
            try clear c18
            try clear c18b0
            try clear c18b1
            try clear c25
            try clear c26
            try clear c27
            try clear c28
            try clear c29
            try clear c31
            try clear c31b0
            try clear c32
            try clear c32b0
            try clear hcz11_0
            try clear hcz11_1
            try clear hcz11_2
            try clear hcz11_3
            try clear hcz20_0
            try clear hcz20_1
            try clear hcz20_2
            try clear hcz20_3
            try clear hcz22_0
            try clear hcz22_1
            try clear hcz22_2
            try clear hcz22_3
            try clear hcz24_0
            try clear hcz24_1
            try clear hcz24_2
            try clear hcz24_3
            try clear hcz26_0
            try clear hcz26_1
            try clear hcz26_2
            try clear hcz26_3
            try clear hcz27_0
            try clear hcz27_1
            try clear hcz27_2
            try clear hcz27_3
            try clear hcz34_0
            try clear hcz34_1
            try clear hcz34_2
            try clear hcz34_3
            try clear hfz11_0
            try clear hfz11_1
            try clear hfz11_2
            try clear hfz11_3
            try clear hfz20_0
            try clear hfz20_1
            try clear hfz20_2
            try clear hfz20_3
            try clear hfz22_0
            try clear hfz22_1
            try clear hfz22_2
            try clear hfz22_3
            try clear hfz24_0
            try clear hfz24_1
            try clear hfz24_2
            try clear hfz24_3
            try clear hfz26_0
            try clear hfz26_1
            try clear hfz26_2
            try clear hfz26_3
            try clear hfz27_0
            try clear hfz27_1
            try clear hfz27_2
            try clear hfz27_3
            try clear hfz34_0
            try clear hfz34_1
            try clear hfz34_2
            try clear hfz34_3
            try clear p2
            try clear p6
            obtain ⟨kq, x74_29, rfl, HA, HJ29, HO_4, HO_372002, BK371, HB⟩ := hcut
            cases kq with
            | zero => exact absurd HA.out (by simp [laws_FnFares.j1])
            | succ kj29 =>
              have H := HA.out
              clear HA
              simp only [laws_FnFares.j1] at H
              by_cases c36 : x74_29 = true
              · subst c36
                have H1 : (some false) = some r := by rw [if_pos rfl] at H; exact H
                clear H
                have H := H1
                clear H1
                exact absurd ((Option.some.inj H).trans ht.out) (by decide)
              · replace c36 := Bool.eq_false_iff.mpr c36
                subst c36
                have H1 : ((impl_Carded.f kj29 t358 t359 t360 t363 t374 t364 t370).bind fun t378 => (if t378 > t374 then (laws_FnFares.j2 kj29 l0 t364 t370 t374 t378 true t358 t359 t360 t363) else (if t378 < 0 then (laws_FnFares.j2 kj29 l0 t364 t370 t374 t378 true t358 t359 t360 t363) else ((impl_Carded.f kj29 t358 t359 t360 t363 t374 ([] : List (S57)) t370).bind fun t379 => (if t379 = t374 then ((impl_CardsOk.f kj29 t364).bind fun t380 => (laws_FnFares.j2 kj29 l0 t364 t370 t374 t378 (!t380) t358 t359 t360 t363)) else (laws_FnFares.j2 kj29 l0 t364 t370 t374 t378 true t358 t359 t360 t363)))))) = some r := by rw [if_neg (show ¬ (false = true) by decide)] at H; exact H
                clear H
                have H := H1
                clear H1
                replace H := Option.bind_eq_some_iff.mp H
                obtain ⟨t378, A370, H⟩ := H
                replace H : (if t378 > t374 then (laws_FnFares.j2 kj29 l0 t364 t370 t374 t378 true t358 t359 t360 t363) else (if t378 < 0 then (laws_FnFares.j2 kj29 l0 t364 t370 t374 t378 true t358 t359 t360 t363) else ((impl_Carded.f kj29 t358 t359 t360 t363 t374 ([] : List (S57)) t370).bind fun t379 => (if t379 = t374 then ((impl_CardsOk.f kj29 t364).bind fun t380 => (laws_FnFares.j2 kj29 l0 t364 t370 t374 t378 (!t380) t358 t359 t360 t363)) else (laws_FnFares.j2 kj29 l0 t364 t370 t374 t378 true t358 t359 t360 t363))))) = some r := H
                have A37 := Aside0.mk A370
                clear A370
                have HC38 := Aside0.mk H
                clear H
                have hcz39_0 : wc.cell? ⟨gb371, 0, none⟩ = some (.int .i64 t358) := (blk_cell BK371.out 0).trans rfl
                have hcz39_1 : wc.cell? ⟨gb371, 1, none⟩ = some (.int .i64 t359) := (blk_cell BK371.out 1).trans rfl
                have hcz39_2 : wc.cell? ⟨gb371, 2, none⟩ = some (.slice Ao12 t360.length co12) := (blk_cell BK371.out 2).trans rfl
                have hcz39_3 : wc.cell? ⟨gb371, 3, none⟩ = some (.int .i64 t363) := (blk_cell BK371.out 3).trans rfl
                have hfz39_0 := blk_frozen BK371.out 0
                have hfz39_1 := blk_frozen BK371.out 1
                have hfz39_2 := blk_frozen BK371.out 2
                have hfz39_3 := blk_frozen BK371.out 3
                obtain ⟨Ao40, co40, eo40⟩ := Kd.R_slice HO_4.out
                subst eo40
                go_upto_region 11 with (first | ((with_reducible refine gate_callee (f := 29) rfl ?_); refine goesL_ (some 79) rfl rfl Try.func29 (by kernel_rfl) rfl #[.agg #[.int .i64 t358, .int .i64 t359, .slice Ao12 t360.length co12, .int .i64 t363], .int .i64 t374, .slice Ao40 t364.length co40, .int .i64 t370] rfl (by (try simp only [List.map_toArray, List.map_cons, List.map_nil]); first | done | rfl | (simp only [List.length_drop, List.length_take]; rfl)) ?_; (with_reducible refine (impl_Carded.calls kj29 t358 t359 _ _ t360 t363 t374 _ _ t364 t370 t378 _ ?side1 ?side2 ?side3 ?side4 A37.out).mono ?_); (case side1 => repeat (first | exact (Kd.R_reads' HO_372002.out).2.2 | (with_reducible refine Kd.C_alloc ?_ _) | (with_reducible refine Kd.C_drewN ?_ _) | (with_reducible refine Kd.C_drew ?_))); (case side2 => exact (Kd.R_reads' HO_372002.out).2.1); (case side3 => repeat (first | exact (Kd.R_reads' HO_4.out).2.2 | (with_reducible refine Kd.C_alloc ?_ _) | (with_reducible refine Kd.C_drewN ?_ _) | (with_reducible refine Kd.C_drew ?_))); (case side4 => exact (Kd.R_reads' HO_4.out).2.1); rintro e w41 ⟨rfl, hb⟩; refine ⟨_, rfl, ?_⟩; have n0_ := Aside0.mk (Kd.R_below (by (with_reducible repeat (first | apply Kd.R_alloc | apply Kd.R_drewN | apply Kd.R_drew)); exact HO_4.out) hb); have n1_ := Aside0.mk (Kd.R_below (by (with_reducible repeat (first | apply Kd.R_alloc | apply Kd.R_drewN | apply Kd.R_drew)); exact HO_372002.out) hb); have n2_ := Aside0.mk (blk_below (g := gb371) (o := .cells #[.int .i64 t358, .int .i64 t359, .slice Ao12 t360.length co12, .int .i64 t363] 34 (0, 0)) (by (with_reducible repeat (first | refine blk_drewN ?_ _ | refine blk_drew ?_ | refine blk_alloc ?_ _)); exact BK371.out) hb); have n3_ := Aside0.mk (below_step (by repeat (first | (with_reducible first | exact HB.out | apply below_alloc | apply pw_below_drewN | apply below_drew1 | refine below_set ?_ GE371.out) | exact HB.out)) hb); clear HO_4; clear HO_372002; clear BK371; clear HB; have HO_4 := n0_; have HO_372002 := n1_; have BK371 := n2_; have HB := n3_; clear n0_ n1_ n2_ n3_; (try clear hb); (try clear hb2); (try clear hk); (try clear hi)))
                (try simp only [Act.put, List.setIfInBounds_toArray, List.set_cons_zero, List.set_cons_succ])
                go_cut [99] (fun v99 wc => ∃ (kq : Nat) (x99_37 : Bool), v99 = .bool x99_37 ∧ Aside0 (laws_FnFares.j2 kq l0 t364 t370 t374 t378 x99_37 t358 t359 t360 t363 = some r) ∧ Aside0 (kq ≤ kj29) ∧ Aside0 (Kd.R k57 57 wc w.heap.size (fun _ => True) (.slice Ao40 t364.length co40) t364) ∧ Aside0 (Kd.R (Kd.int .i64) 3 wc w.heap.size (fun _ => True) (.slice Ao12 t360.length co12) t360) ∧ Aside0 (wc.heap[gb371]? = some (.cells #[.int .i64 t358, .int .i64 t359, (.slice Ao12 t360.length co12), .int .i64 t363] 34 (0, 0))) ∧ Aside0 (Below w.heap.size w wc))
                case first =>
                  have H := HC38.out
                  clear HC38
                  by_cases c42 : t378 > t374
                  · rw [if_pos c42] at H
                    have c42b0 : decide (t374 < t378) = true := decide_eq_true c42
                    clear c42
                    (first | rw [c42b0] | (simp only [i64_w, i32_w]; rw [c42b0]) | skip)
                    have H' := Aside0.mk H
                    clear H
                    go_wp2
                    go_meet
                    case rel => exact ⟨_, (true), (by first | rfl | (simp; done) | (simp [*]; done)), H', ⟨by have := HJ7.out; have := HJ29.out; first | omega | exact Nat.le_refl _⟩, ⟨by (with_reducible repeat (first | apply Kd.R_alloc | apply Kd.R_drewN | apply Kd.R_drew)); exact HO_4.out⟩, ⟨by (with_reducible repeat (first | apply Kd.R_alloc | apply Kd.R_drewN | apply Kd.R_drew)); exact HO_372002.out⟩, ⟨by (with_reducible repeat (first | refine blk_drewN ?_ _ | refine blk_drew ?_ | refine blk_alloc ?_ _)); exact BK371.out⟩, ⟨by repeat (first | (with_reducible first | exact HB.out | apply below_alloc | apply pw_below_drewN | apply below_drew1 | refine below_set ?_ GE371.out) | exact HB.out)⟩⟩
                  · rw [if_neg c42] at H
                    have c42b0 : decide (t374 < t378) = false := decide_eq_false c42
                    clear c42
                    (first | rw [c42b0] | (simp only [i64_w, i32_w]; rw [c42b0]) | skip)
                    by_cases c43 : t378 < 0
                    · rw [if_pos c43] at H
                      have c43b0 : decide (t378 < 0) = true := decide_eq_true c43
                      clear c43
                      have H' := Aside0.mk H
                      clear H
                      go_wp2
                      go_meet
                      case rel => exact ⟨_, (true), (by first | rfl | (simp; done) | (simp [*]; done)), H', ⟨by have := HJ7.out; have := HJ29.out; first | omega | exact Nat.le_refl _⟩, ⟨by (with_reducible repeat (first | apply Kd.R_alloc | apply Kd.R_drewN | apply Kd.R_drew)); exact HO_4.out⟩, ⟨by (with_reducible repeat (first | apply Kd.R_alloc | apply Kd.R_drewN | apply Kd.R_drew)); exact HO_372002.out⟩, ⟨by (with_reducible repeat (first | refine blk_drewN ?_ _ | refine blk_drew ?_ | refine blk_alloc ?_ _)); exact BK371.out⟩, ⟨by repeat (first | (with_reducible first | exact HB.out | apply below_alloc | apply pw_below_drewN | apply below_drew1 | refine below_set ?_ GE371.out) | exact HB.out)⟩⟩
                    · rw [if_neg c43] at H
                      have c43b0 : decide (t378 < 0) = false := decide_eq_false c43
                      clear c43
                      replace H := Option.bind_eq_some_iff.mp H
                      obtain ⟨t379, A440, H⟩ := H
                      replace H : (if t379 = t374 then ((impl_CardsOk.f kj29 t364).bind fun t380 => (laws_FnFares.j2 kj29 l0 t364 t370 t374 t378 (!t380) t358 t359 t360 t363)) else (laws_FnFares.j2 kj29 l0 t364 t370 t374 t378 true t358 t359 t360 t363)) = some r := H
                      have A44 := Aside0.mk A440
                      clear A440
                      by_cases c45 : t379 = t374
                      · rw [if_pos c45] at H
                        have c45b0 : (t379 == t374) = true := beq_iff_eq.mpr c45
                        have c45b1 : (t379 != t374) = false := bne_eq_false_iff_eq.mpr c45
                        clear c45
                        replace H := Option.bind_eq_some_iff.mp H
                        obtain ⟨t380, A460, H⟩ := H
                        replace H : (laws_FnFares.j2 kj29 l0 t364 t370 t374 t378 (!t380) t358 t359 t360 t363) = some r := H
                        have A46 := Aside0.mk A460
                        clear A460
                        have H' := Aside0.mk H
                        clear H
                        have hcz47_0 : w41.cell? ⟨gb371, 0, none⟩ = some (.int .i64 t358) := (blk_cell BK371.out 0).trans rfl
                        have hcz47_1 : w41.cell? ⟨gb371, 1, none⟩ = some (.int .i64 t359) := (blk_cell BK371.out 1).trans rfl
                        have hcz47_2 : w41.cell? ⟨gb371, 2, none⟩ = some (.slice Ao12 t360.length co12) := (blk_cell BK371.out 2).trans rfl
                        have hcz47_3 : w41.cell? ⟨gb371, 3, none⟩ = some (.int .i64 t363) := (blk_cell BK371.out 3).trans rfl
                        have hfz47_0 := blk_frozen BK371.out 0
                        have hfz47_1 := blk_frozen BK371.out 1
                        have hfz47_2 := blk_frozen BK371.out 2
                        have hfz47_3 := blk_frozen BK371.out 3
                        go_wp2_with (first | (go_at_call 29; (refine (impl_Carded.calls kj29 t358 t359 _ _ t360 t363 t374 _ _ ([] : List (S57)) t370 t379 _ ?side1 ?side2 ?side3 ?side4 A44.out).mono ?_); (case side1 => repeat (first | exact (Kd.R_reads' HO_372002.out).2.2 | (with_reducible refine Kd.C_alloc ?_ _) | (with_reducible refine Kd.C_drewN ?_ _) | (with_reducible refine Kd.C_drew ?_))); (case side2 => exact (Kd.R_reads' HO_372002.out).2.1); (case side3 => exact Kd.C_nil _ _); (case side4 => exact Nat.le_refl _); rintro e w48 ⟨rfl, hb⟩; have n0_ := Aside0.mk (Kd.R_below (by (with_reducible repeat (first | apply Kd.R_alloc | apply Kd.R_drewN | apply Kd.R_drew)); exact HO_4.out) hb); have n1_ := Aside0.mk (Kd.R_below (by (with_reducible repeat (first | apply Kd.R_alloc | apply Kd.R_drewN | apply Kd.R_drew)); exact HO_372002.out) hb); have n2_ := Aside0.mk (blk_below (g := gb371) (o := .cells #[.int .i64 t358, .int .i64 t359, .slice Ao12 t360.length co12, .int .i64 t363] 34 (0, 0)) (by (with_reducible repeat (first | refine blk_drewN ?_ _ | refine blk_drew ?_ | refine blk_alloc ?_ _)); exact BK371.out) hb); have n3_ := Aside0.mk (below_step (by repeat (first | (with_reducible first | exact HB.out | apply below_alloc | apply pw_below_drewN | apply below_drew1 | refine below_set ?_ GE371.out) | exact HB.out)) hb); clear HO_4; clear HO_372002; clear BK371; clear HB; have HO_4 := n0_; have HO_372002 := n1_; have BK371 := n2_; have HB := n3_; clear n0_ n1_ n2_ n3_; (try clear hb); (try clear hb2); (try clear hk); (try clear hi)) | (go_at_call 15; (with_reducible refine (impl_CardsOk.calls kj29 _ _ t364 t380 _ ?side1 ?side2 A46.out).mono ?_); (case side1 => repeat (first | exact (Kd.R_reads' HO_4.out).2.2 | (with_reducible refine Kd.C_alloc ?_ _) | (with_reducible refine Kd.C_drewN ?_ _) | (with_reducible refine Kd.C_drew ?_))); (case side2 => exact (Kd.R_reads' HO_4.out).2.1); rintro e w49 ⟨rfl, hb⟩; have n0_ := Aside0.mk (Kd.R_below (by (with_reducible repeat (first | apply Kd.R_alloc | apply Kd.R_drewN | apply Kd.R_drew)); exact HO_4.out) hb); have n1_ := Aside0.mk (Kd.R_below (by (with_reducible repeat (first | apply Kd.R_alloc | apply Kd.R_drewN | apply Kd.R_drew)); exact HO_372002.out) hb); have n2_ := Aside0.mk (blk_below (g := gb371) (o := .cells #[.int .i64 t358, .int .i64 t359, .slice Ao12 t360.length co12, .int .i64 t363] 34 (0, 0)) (by (with_reducible repeat (first | refine blk_drewN ?_ _ | refine blk_drew ?_ | refine blk_alloc ?_ _)); exact BK371.out) hb); have n3_ := Aside0.mk (below_step (by repeat (first | (with_reducible first | exact HB.out | apply below_alloc | apply pw_below_drewN | apply below_drew1 | refine below_set ?_ GE371.out) | exact HB.out)) hb); clear HO_4; clear HO_372002; clear BK371; clear HB; have HO_4 := n0_; have HO_372002 := n1_; have BK371 := n2_; have HB := n3_; clear n0_ n1_ n2_ n3_; (try clear hb); (try clear hb2); (try clear hk); (try clear hi)))
                        go_meet
                        case rel => exact ⟨_, (!t380), (by first | rfl | (simp; done) | (simp [*]; done)), H', ⟨by have := HJ7.out; have := HJ29.out; first | omega | exact Nat.le_refl _⟩, ⟨by (with_reducible repeat (first | apply Kd.R_alloc | apply Kd.R_drewN | apply Kd.R_drew)); exact HO_4.out⟩, ⟨by (with_reducible repeat (first | apply Kd.R_alloc | apply Kd.R_drewN | apply Kd.R_drew)); exact HO_372002.out⟩, ⟨by (with_reducible repeat (first | refine blk_drewN ?_ _ | refine blk_drew ?_ | refine blk_alloc ?_ _)); exact BK371.out⟩, ⟨by repeat (first | (with_reducible first | exact HB.out | apply below_alloc | apply pw_below_drewN | apply below_drew1 | refine below_set ?_ GE371.out) | exact HB.out)⟩⟩
                      · rw [if_neg c45] at H
                        have c45b0 : (t379 == t374) = false := beq_eq_false_iff_ne.mpr c45
                        have c45b1 : (t379 != t374) = true := bne_iff_ne.mpr c45
                        have H' := Aside0.mk H
                        clear H
                        have hcz50_0 : w41.cell? ⟨gb371, 0, none⟩ = some (.int .i64 t358) := (blk_cell BK371.out 0).trans rfl
                        have hcz50_1 : w41.cell? ⟨gb371, 1, none⟩ = some (.int .i64 t359) := (blk_cell BK371.out 1).trans rfl
                        have hcz50_2 : w41.cell? ⟨gb371, 2, none⟩ = some (.slice Ao12 t360.length co12) := (blk_cell BK371.out 2).trans rfl
                        have hcz50_3 : w41.cell? ⟨gb371, 3, none⟩ = some (.int .i64 t363) := (blk_cell BK371.out 3).trans rfl
                        have hfz50_0 := blk_frozen BK371.out 0
                        have hfz50_1 := blk_frozen BK371.out 1
                        have hfz50_2 := blk_frozen BK371.out 2
                        have hfz50_3 := blk_frozen BK371.out 3
                        go_wp2_with (first | (go_at_call 29; (refine (impl_Carded.calls kj29 t358 t359 _ _ t360 t363 t374 _ _ ([] : List (S57)) t370 t379 _ ?side1 ?side2 ?side3 ?side4 A44.out).mono ?_); (case side1 => repeat (first | exact (Kd.R_reads' HO_372002.out).2.2 | (with_reducible refine Kd.C_alloc ?_ _) | (with_reducible refine Kd.C_drewN ?_ _) | (with_reducible refine Kd.C_drew ?_))); (case side2 => exact (Kd.R_reads' HO_372002.out).2.1); (case side3 => exact Kd.C_nil _ _); (case side4 => exact Nat.le_refl _); rintro e w51 ⟨rfl, hb⟩; have n0_ := Aside0.mk (Kd.R_below (by (with_reducible repeat (first | apply Kd.R_alloc | apply Kd.R_drewN | apply Kd.R_drew)); exact HO_4.out) hb); have n1_ := Aside0.mk (Kd.R_below (by (with_reducible repeat (first | apply Kd.R_alloc | apply Kd.R_drewN | apply Kd.R_drew)); exact HO_372002.out) hb); have n2_ := Aside0.mk (blk_below (g := gb371) (o := .cells #[.int .i64 t358, .int .i64 t359, .slice Ao12 t360.length co12, .int .i64 t363] 34 (0, 0)) (by (with_reducible repeat (first | refine blk_drewN ?_ _ | refine blk_drew ?_ | refine blk_alloc ?_ _)); exact BK371.out) hb); have n3_ := Aside0.mk (below_step (by repeat (first | (with_reducible first | exact HB.out | apply below_alloc | apply pw_below_drewN | apply below_drew1 | refine below_set ?_ GE371.out) | exact HB.out)) hb); clear HO_4; clear HO_372002; clear BK371; clear HB; have HO_4 := n0_; have HO_372002 := n1_; have BK371 := n2_; have HB := n3_; clear n0_ n1_ n2_ n3_; (try clear hb); (try clear hb2); (try clear hk); (try clear hi)))
                        go_meet
                        case rel => exact ⟨_, (true), (by first | rfl | (simp; done) | (simp [*]; done)), H', ⟨by have := HJ7.out; have := HJ29.out; first | omega | exact Nat.le_refl _⟩, ⟨by (with_reducible repeat (first | apply Kd.R_alloc | apply Kd.R_drewN | apply Kd.R_drew)); exact HO_4.out⟩, ⟨by (with_reducible repeat (first | apply Kd.R_alloc | apply Kd.R_drewN | apply Kd.R_drew)); exact HO_372002.out⟩, ⟨by (with_reducible repeat (first | refine blk_drewN ?_ _ | refine blk_drew ?_ | refine blk_alloc ?_ _)); exact BK371.out⟩, ⟨by repeat (first | (with_reducible first | exact HB.out | apply below_alloc | apply pw_below_drewN | apply below_drew1 | refine below_set ?_ GE371.out) | exact HB.out)⟩⟩
                case rest =>
                  clear HC38
                  try clear c1
                  try clear c2
                  try clear p2
                  try clear c3
                  try clear c4
                  try clear p6
                  try clear c7
                  try clear c14
                  try clear c14b0
                  try clear c16
                  try clear c16b0
                  try clear c16b1
                  try clear c17
                  try clear c17b0
                  try clear c17b1
                  try clear c18
                  try clear c18b0
                  try clear c18b1
                  try clear c25
                  try clear c26
                  try clear c27
                  try clear c28
                  try clear c29
                  try clear c31
                  try clear c31b0
                  try clear c32
                  try clear c32b0
                  try clear c36
                  try clear c42
                  try clear c42b0
                  try clear c43
                  try clear c43b0
                  try clear c45
                  try clear c45b0
                  try clear c45b1
                  try clear hcz11_0
                  try clear hcz11_1
                  try clear hcz11_2
                  try clear hcz11_3
                  try clear hcz20_0
                  try clear hcz20_1
                  try clear hcz20_2
                  try clear hcz20_3
                  try clear hcz22_0
                  try clear hcz22_1
                  try clear hcz22_2
                  try clear hcz22_3
                  try clear hcz24_0
                  try clear hcz24_1
                  try clear hcz24_2
                  try clear hcz24_3
                  try clear hcz26_0
                  try clear hcz26_1
                  try clear hcz26_2
                  try clear hcz26_3
                  try clear hcz27_0
                  try clear hcz27_1
                  try clear hcz27_2
                  try clear hcz27_3
                  try clear hcz34_0
                  try clear hcz34_1
                  try clear hcz34_2
                  try clear hcz34_3
                  try clear hcz39_0
                  try clear hcz39_1
                  try clear hcz39_2
                  try clear hcz39_3
                  try clear hcz47_0
                  try clear hcz47_1
                  try clear hcz47_2
                  try clear hcz47_3
                  try clear hcz50_0
                  try clear hcz50_1
                  try clear hcz50_2
                  try clear hcz50_3
                  try clear hfz11_0
                  try clear hfz11_1
                  try clear hfz11_2
                  try clear hfz11_3
                  try clear hfz20_0
                  try clear hfz20_1
                  try clear hfz20_2
                  try clear hfz20_3
                  try clear hfz22_0
                  try clear hfz22_1
                  try clear hfz22_2
                  try clear hfz22_3
                  try clear hfz24_0
                  try clear hfz24_1
                  try clear hfz24_2
                  try clear hfz24_3
                  try clear hfz26_0
                  try clear hfz26_1
                  try clear hfz26_2
                  try clear hfz26_3
                  try clear hfz27_0
                  try clear hfz27_1
                  try clear hfz27_2
                  try clear hfz27_3
                  try clear hfz34_0
                  try clear hfz34_1
                  try clear hfz34_2
                  try clear hfz34_3
                  try clear hfz39_0
                  try clear hfz39_1
                  try clear hfz39_2
                  try clear hfz39_3
                  try clear hfz47_0
                  try clear hfz47_1
                  try clear hfz47_2
                  try clear hfz47_3
                  try clear hfz50_0
                  try clear hfz50_1
                  try clear hfz50_2
                  try clear hfz50_3
                  try clear p2
                  try clear p6
                  obtain ⟨kq, x99_37, rfl, HA, HJ37, HO_4, HO_372002, BK371, HB⟩ := hcut
                  cases kq with
                  | zero => exact absurd HA.out (by simp [laws_FnFares.j2])
                  | succ kj37 =>
                    have H := HA.out
                    clear HA
                    simp only [laws_FnFares.j2] at H
                    by_cases c52 : x99_37 = true
                    · subst c52
                      have H1 : (some false) = some r := by rw [if_pos rfl] at H; exact H
                      clear H
                      have H := H1
                      clear H1
                      exact absurd ((Option.some.inj H).trans ht.out) (by decide)
                    · replace c52 := Bool.eq_false_iff.mpr c52
                      subst c52
                      have H1 : (laws_FnFares.l0 kj37 l0 t364 t370 t374 t378 0 t358 t359 t360 t363) = some r := by rw [if_neg (show ¬ (false = true) by decide)] at H; exact H
                      clear H
                      have H := H1
                      clear H1
                      have H' := Aside0.mk H
                      clear H
                      go_wp2
                      go_loopg [11] kj37 (fun kq v11 w' => ∃ (x11_4 : Int), v11 = .int .i64 x11_4 ∧ Aside0 (laws_FnFares.l0 kq l0 t364 t370 t374 t378 x11_4 t358 t359 t360 t363 = some r) ∧ Aside0 (kq ≤ kj37) ∧ Aside0 (Kd.R k57 57 w' w.heap.size (fun _ => True) (.slice Ao40 t364.length co40) t364) ∧ Aside0 (Kd.R (Kd.int .i64) 3 w' w.heap.size (fun _ => True) (.slice Ao12 t360.length co12) t360) ∧ Aside0 (w'.heap[gb371]? = some (.cells #[.int .i64 t358, .int .i64 t359, (.slice Ao12 t360.length co12), .int .i64 t363] 34 (0, 0))) ∧ Aside0 (Below w.heap.size w w'))
                      case atStart => exact ⟨(0), (by first | rfl | (simp; done) | (simp [*]; done)), H', ⟨Nat.le_refl _⟩, ⟨by (with_reducible repeat (first | apply Kd.R_alloc | apply Kd.R_drewN | apply Kd.R_drew)); exact HO_4.out⟩, ⟨by (with_reducible repeat (first | apply Kd.R_alloc | apply Kd.R_drewN | apply Kd.R_drew)); exact HO_372002.out⟩, ⟨by (with_reducible repeat (first | refine blk_drewN ?_ _ | refine blk_drew ?_ | refine blk_alloc ?_ _)); exact BK371.out⟩, ⟨by repeat (first | (with_reducible first | exact HB.out | apply below_alloc | apply pw_below_drewN | apply below_drew1 | refine below_set ?_ GE371.out) | exact HB.out)⟩⟩
                      case round =>
                        clear H'
                        try clear c1
                        try clear c2
                        try clear p2
                        try clear c3
                        try clear c4
                        try clear c5
                        try clear p6
                        try clear c7
                        try clear c14
                        try clear c14b0
                        try clear c16
                        try clear c16b0
                        try clear c16b1
                        try clear c17
                        try clear c17b0
                        try clear c17b1
                        try clear c18
                        try clear c18b0
                        try clear c18b1
                        try clear c25
                        try clear c26
                        try clear c27
                        try clear c28
                        try clear c29
                        try clear c31
                        try clear c31b0
                        try clear c32
                        try clear c32b0
                        try clear c36
                        try clear c42
                        try clear c42b0
                        try clear c43
                        try clear c43b0
                        try clear c45
                        try clear c45b0
                        try clear c45b1
                        try clear c52
                        try clear hcz11_0
                        try clear hcz11_1
                        try clear hcz11_2
                        try clear hcz11_3
                        try clear hcz20_0
                        try clear hcz20_1
                        try clear hcz20_2
                        try clear hcz20_3
                        try clear hcz22_0
                        try clear hcz22_1
                        try clear hcz22_2
                        try clear hcz22_3
                        try clear hcz24_0
                        try clear hcz24_1
                        try clear hcz24_2
                        try clear hcz24_3
                        try clear hcz26_0
                        try clear hcz26_1
                        try clear hcz26_2
                        try clear hcz26_3
                        try clear hcz27_0
                        try clear hcz27_1
                        try clear hcz27_2
                        try clear hcz27_3
                        try clear hcz34_0
                        try clear hcz34_1
                        try clear hcz34_2
                        try clear hcz34_3
                        try clear hcz39_0
                        try clear hcz39_1
                        try clear hcz39_2
                        try clear hcz39_3
                        try clear hcz47_0
                        try clear hcz47_1
                        try clear hcz47_2
                        try clear hcz47_3
                        try clear hcz50_0
                        try clear hcz50_1
                        try clear hcz50_2
                        try clear hcz50_3
                        try clear hfz11_0
                        try clear hfz11_1
                        try clear hfz11_2
                        try clear hfz11_3
                        try clear hfz20_0
                        try clear hfz20_1
                        try clear hfz20_2
                        try clear hfz20_3
                        try clear hfz22_0
                        try clear hfz22_1
                        try clear hfz22_2
                        try clear hfz22_3
                        try clear hfz24_0
                        try clear hfz24_1
                        try clear hfz24_2
                        try clear hfz24_3
                        try clear hfz26_0
                        try clear hfz26_1
                        try clear hfz26_2
                        try clear hfz26_3
                        try clear hfz27_0
                        try clear hfz27_1
                        try clear hfz27_2
                        try clear hfz27_3
                        try clear hfz34_0
                        try clear hfz34_1
                        try clear hfz34_2
                        try clear hfz34_3
                        try clear hfz39_0
                        try clear hfz39_1
                        try clear hfz39_2
                        try clear hfz39_3
                        try clear hfz47_0
                        try clear hfz47_1
                        try clear hfz47_2
                        try clear hfz47_3
                        try clear hfz50_0
                        try clear hfz50_1
                        try clear hfz50_2
                        try clear hfz50_3
                        try clear p2
                        try clear p6
                        obtain ⟨x11_4, rfl, HA, HK4, HO_4, HO_372002, BK371, HB⟩ := hrel
                        cases gk with
                        | zero => exact absurd HA.out (by simp [laws_FnFares.l0])
                        | succ k4 =>
                          have H := HA.out
                          clear HA
                          simp only [laws_FnFares.l0] at H
                          by_cases c53 : x11_4 < (t364.length : Int)
                          · rw [if_pos c53] at H
                            have c53b0 : decide (x11_4 < (t364.length : Int)) = true := decide_eq_true c53
                            clear c53
                            by_cases c54 : 0 ≤ x11_4
                            · rw [if_pos c54] at H
                              have c54b0 := eq_true c54
                              have c54b1 : decide (0 ≤ x11_4) = true := decide_eq_true c54
                              clear c54
                              by_cases c55 : x11_4 ≤ (wrap64 (x11_4 + 1))
                              · rw [if_pos c55] at H
                                have c55b0 := eq_true c55
                                have c55b1 : decide (x11_4 ≤ (wrap64 (x11_4 + 1))) = true := decide_eq_true c55
                                by_cases c56 : (wrap64 (x11_4 + 1)) ≤ (t364.length : Int)
                                · rw [if_pos c56] at H
                                  have c56b0 := eq_true c56
                                  have c56b1 : decide ((wrap64 (x11_4 + 1)) ≤ (t364.length : Int)) = true := decide_eq_true c56
                                  obtain ⟨y381, hy381⟩ : ∃ y_ : List (S57), y_ = ((t364.take ((wrap64 (x11_4 + 1)) : Int).toNat).drop (x11_4 : Int).toNat) := ⟨_, rfl⟩
                                  replace H : ((impl_Carded.f k4 t358 t359 t360 t363 t374 y381 t370).bind fun t385 => (if t385 < t378 then (some false) else (if t385 > t374 then (some false) else (laws_FnFares.l0 k4 l0 t364 t370 t374 t378 (wrap64 (x11_4 + 1)) t358 t359 t360 t363)))) = some r := by first | (rw [hy381]; with_reducible exact H) | (have H2_ := (Option.bind_some _ _).symm.trans H; rw [hy381]; with_reducible exact H2_) | (have H2_ := (Option.bind_some _ _).symm.trans H; with_reducible exact H2_) | with_reducible exact H | (rw [hy381]; exact H) | exact H
                                  have Ny381 := Aside0.mk hy381
                                  clear hy381
                                  replace H := Option.bind_eq_some_iff.mp H
                                  obtain ⟨t385, A570, H⟩ := H
                                  replace H : (if t385 < t378 then (some false) else (if t385 > t374 then (some false) else (laws_FnFares.l0 k4 l0 t364 t370 t374 t378 (wrap64 (x11_4 + 1)) t358 t359 t360 t363))) = some r := H
                                  have A57 := Aside0.mk A570
                                  clear A570
                                  by_cases c58 : t385 < t378
                                  · rw [if_pos c58] at H
                                    have c58b0 : decide (t385 < t378) = true := decide_eq_true c58
                                    clear c58
                                    exact absurd ((Option.some.inj H).trans ht.out) (by decide)
                                  · rw [if_neg c58] at H
                                    have c58b0 : decide (t385 < t378) = false := decide_eq_false c58
                                    clear c58
                                    by_cases c59 : t385 > t374
                                    · rw [if_pos c59] at H
                                      have c59b0 : decide (t374 < t385) = true := decide_eq_true c59
                                      clear c59
                                      exact absurd ((Option.some.inj H).trans ht.out) (by decide)
                                    · rw [if_neg c59] at H
                                      have c59b0 : decide (t374 < t385) = false := decide_eq_false c59
                                      clear c59
                                      have H' := Aside0.mk H
                                      clear H
                                      try go_wp2
                                      have n0_ := Aside0.mk (Kd.R_drew HO_4.out)
                                      have n1_ := Aside0.mk (Kd.R_drew HO_372002.out)
                                      have n2_ := Aside0.mk (blk_drew BK371.out)
                                      have n3_ := Aside0.mk (below_drew1 HB.out)
                                      clear HO_4
                                      clear HO_372002
                                      clear BK371
                                      clear HB
                                      have HO_4 := n0_
                                      have HO_372002 := n1_
                                      have BK371 := n2_
                                      have HB := n3_
                                      clear n0_ n1_ n2_ n3_
                                      have q61 : ((wrap64 (x11_4 + 1)) : Int) ≤ ((t364.length : Int) : Int) := of_decide_eq_true (by first | (with_reducible assumption) | assumption)
                                      obtain ⟨i061, hi061, _, hsz61, _⟩ := info_parts info57
                                      have hroom61 : t364.length ≤ co40 := (Kd.R_reads' HO_4.out).2.1
                                      have hC61 : Kd.C k57 _ Ao40 t364.length t364 := (Kd.R_reads' HO_4.out).2.2
                                      have ql61 : (x11_4 : Int) ≤ ((wrap64 (x11_4 + 1)) : Int) := of_decide_eq_true (by first | (with_reducible assumption) | assumption)
                                      have q061 : (0 : Int) ≤ (x11_4 : Int) := of_decide_eq_true (by first | (with_reducible assumption) | assumption)
                                      have hcut61 := cut_mid (P := Try.prog) 25 57 .i64 .i64 Try.underlying25 hi061 4 hsz61 Ao40 t364.length co40 x11_4 (wrap64 (x11_4 + 1)) q061 ql61 q61 hroom61
                                      have hr61 := Kd.C_mid (lo := (x11_4 : Int).toNat) (hi := ((wrap64 (x11_4 + 1)) : Int).toNat) (c := co40) hC61 (by omega) (by omega) hroom61
                                      obtain ⟨A61, hA61⟩ : ∃ A1, A1 = (if co40 = (x11_4 : Int).toNat then Ao40 else (Ao40 : Option Addr).map (·.add ((x11_4 : Int).toNat * 4))) := ⟨_, rfl⟩
                                      obtain ⟨c61, hc61⟩ : ∃ c1, c1 = co40 - (x11_4 : Int).toNat := ⟨_, rfl⟩
                                      have hy61 : y381.length = ((wrap64 (x11_4 + 1)) : Int).toNat - (x11_4 : Int).toNat := (by rw [Ny381.out, List.length_drop, List.length_take] <;> omega)
                                      rw [show ((t364).take ((wrap64 (x11_4 + 1)) : Int).toNat).drop (x11_4 : Int).toNat = y381 from Ny381.out.symm] at hr61
                                      replace hr61 : Kd.C k57 _ A61 y381.length y381 := (by rw [hA61]; exact hr61)
                                      rw [← hy61, ← hA61, ← hc61] at hcut61
                                      have HR384 := Aside0.mk hr61
                                      have HC384 := Aside0.mk (show y381.length ≤ c61 from by rw [hy61, hc61]; exact Nat.sub_le_sub_right (Nat.le_trans (by omega) hroom61) _)
                                      clear hr61 hC61 hroom61 hi061 hsz61 hc61
                                      have KY61 := Aside0.mk hy61
                                      have KA61 := Aside0.mk hA61
                                      clear hy61 hA61
                                      have KL61 := Aside0.mk (show ((wrap64 (x11_4 + 1)) : Int).toNat ≤ t364.length from by omega)
                                      have KM61 := Aside0.mk (show (x11_4 : Int).toNat ≤ ((wrap64 (x11_4 + 1)) : Int).toNat from by omega)
                                      replace q61 := eq_true q61
                                      refine start_ (n := 10) (S := fun w' => w'.cell? ⟨gb371, 0, none⟩ = some (.int .i64 t358) ∧ w'.cell? ⟨gb371, 1, none⟩ = some (.int .i64 t359) ∧ w'.cell? ⟨gb371, 2, none⟩ = some (.slice Ao12 t360.length co12) ∧ w'.cell? ⟨gb371, 3, none⟩ = some (.int .i64 t363)) (ds := []) #[false, false, false, false, false, false, false, false, false, false] (by kernel_rfl) rfl rfl ⟨(blk_cell BK371.out 0).trans rfl, (blk_cell BK371.out 1).trans rfl, (blk_cell BK371.out 2).trans rfl, (blk_cell BK371.out 3).trans rfl⟩ (fun hHeld => ?_); refine with_tabW laws_FnFares.tab16 laws_FnFares.bits16 (fun HT_ HW_ => ?_)
                                      generalize wr.drew = w60 at HO_4 HO_372002 BK371 HB HR384 hHeld ⊢
                                      refine pure_ (i := 1) (N := some 107) (v := ?_) (a' := ?_) #[false, true, false, false, false, false, false, false, false, false] rfl rfl (any_of HT_.out (by kernel_rfl)) (fun _ _ _ h => h) (Or.inl ⟨by rfl, ?_⟩) ?_ ?_
                                      rotate_left
                                      · intro w'
                                        go_simp
                                        with_reducible rfl
                                      rotate_left
                                      · simp only [Act.put, List.setIfInBounds_toArray, List.set_cons_zero, List.set_cons_succ, i64_w, i32_w]
                                        rfl
                                      refine pure_ (i := 2) (N := some 108) (v := ?_) (a' := ?_) #[false, true, true, false, false, false, false, false, false, false] rfl rfl (any_of HT_.out (by kernel_rfl)) (fun _ _ _ h => h) (Or.inl ⟨by rfl, ?_⟩) ?_ ?_
                                      rotate_left
                                      · intro w'
                                        go_simp
                                        with_reducible rfl
                                      rotate_left
                                      · simp only [Act.put, List.setIfInBounds_toArray, List.set_cons_zero, List.set_cons_succ, i64_w, i32_w]
                                        rfl
                                      refine pure_ (i := 3) (N := some 109) (v := ?_) (a' := ?_) #[false, true, true, true, false, false, false, false, false, false] rfl rfl (any_of HT_.out (by kernel_rfl)) (fun _ _ _ h => h) (Or.inl ⟨by rfl, ?_⟩) ?_ ?_
                                      rotate_left
                                      · intro w'
                                        go_simp
                                        with_reducible rfl
                                      rotate_left
                                      · simp only [Act.put, List.setIfInBounds_toArray, List.set_cons_zero, List.set_cons_succ, i64_w, i32_w]
                                        rfl
                                      refine pure_ (i := 4) (N := some 110) (v := ?_) (a' := ?_) #[false, true, true, true, true, false, false, false, false, false] rfl rfl (any_of HT_.out (by kernel_rfl)) (fun _ _ _ h => h) (Or.inl ⟨by rfl, ?_⟩) ?_ ?_
                                      rotate_left
                                      · intro w'
                                        go_simp
                                        with_reducible rfl
                                      rotate_left
                                      · simp only [Act.put, List.setIfInBounds_toArray, List.set_cons_zero, List.set_cons_succ, i64_w, i32_w]
                                        rfl
                                      refine pure_ (i := 5) (N := some 111) (v := ?_) (a' := ?_) #[false, true, true, true, true, true, false, false, false, false] rfl rfl (any_of HT_.out (by kernel_rfl)) (fun _ _ _ h => h) (Or.inl ⟨by rfl, ?_⟩) ?_ ?_
                                      rotate_left
                                      · intro w'
                                        go_simp
                                        with_reducible rfl
                                      rotate_left
                                      · simp only [Act.put, List.setIfInBounds_toArray, List.set_cons_zero, List.set_cons_succ, i64_w, i32_w]
                                        rfl
                                      refine pure_ (i := 6) (N := some 112) (v := ?_) (a' := ?_) #[false, true, true, true, true, true, true, false, false, false] rfl rfl (any_of HT_.out (by kernel_rfl)) (fun _ _ _ h => h) (Or.inl ⟨by rfl, ?_⟩) ?_ ?_
                                      rotate_left
                                      · intro w'
                                        go_simp
                                        with_reducible rfl
                                      rotate_left
                                      · simp only [Act.put, List.setIfInBounds_toArray, List.set_cons_zero, List.set_cons_succ, i64_w, i32_w]
                                        rfl
                                      refine pure_ (i := 7) (N := some 113) (v := ?_) (a' := ?_) #[false, true, true, true, true, true, true, true, false, false] rfl rfl (any_of HT_.out (by kernel_rfl)) (fun _ _ _ h => h) (Or.inl ⟨by rfl, ?_⟩) ?_ ?_
                                      rotate_left
                                      · intro w'
                                        go_simp
                                        with_reducible rfl
                                      rotate_left
                                      · simp only [Act.put, List.setIfInBounds_toArray, List.set_cons_zero, List.set_cons_succ, i64_w, i32_w]
                                        rfl
                                      refine take_ (i := 0) (N := some 106) (v := ?_) (a' := ?_) #[true, true, true, true, true, true, true, true, false, false] rfl rfl (take_ofW HT_.out HW_.out (by kernel_rfl)) (fun _ _ _ h => h) (Or.inl ⟨by rfl, ?_⟩) hHeld ?_ ?_
                                      rotate_left
                                      · rintro w' ⟨s0, s1, s2, s3⟩
                                        go_simp
                                        with_reducible rfl
                                      rotate_left
                                      · simp only [Act.put, List.setIfInBounds_toArray, List.set_cons_zero, List.set_cons_succ, i64_w, i32_w]
                                        rfl
                                      refine one_ (i := 8) (N := some 114) #[true, true, true, true, true, true, true, true, true, false] rfl rfl (one_of HT_.out (by kernel_rfl)) (by decide) (fun K hK => ?_)
                                      refine goes_ Try.func29 (by kernel_rfl) rfl #[.agg #[.int .i64 t358, .int .i64 t359, .slice Ao12 t360.length co12, .int .i64 t363], .int .i64 t374, .slice A61 y381.length c61, .int .i64 t370] (by rfl) rfl rfl (by (try simp only [List.map_toArray, List.map_cons, List.map_nil]); first | done | rfl | (simp only [List.length_drop, List.length_take]; rfl)) ?_
                                      with_reducible refine (impl_Carded.calls k4 t358 t359 _ _ t360 t363 t374 _ _ y381 t370 t385 _ ?side1 ?side2 ?side3 ?side4 A57.out).mono ?_
                                      (case side1 => repeat (first | exact (Kd.R_reads' HO_372002.out).2.2 | (with_reducible refine Kd.C_alloc ?_ _) | (with_reducible refine Kd.C_drewN ?_ _) | (with_reducible refine Kd.C_drew ?_)))
                                      (case side2 => exact (Kd.R_reads' HO_372002.out).2.1)
                                      (case side3 => repeat (first | exact (by repeat (first | (with_reducible exact HR384.out) | (with_reducible refine Kd.C_alloc ?_ _) | (with_reducible refine Kd.C_drewN ?_ _) | (with_reducible refine Kd.C_drew ?_) | exact HR384.out)) | (with_reducible refine Kd.C_alloc ?_ _) | (with_reducible refine Kd.C_drewN ?_ _) | (with_reducible refine Kd.C_drew ?_)))
                                      (case side4 => exact HC384.out)
                                      rintro e w62 ⟨rfl, hb⟩
                                      refine ⟨_, rfl, ?_⟩
                                      have n0_ := Aside0.mk (Kd.R_below (by (with_reducible repeat (first | apply Kd.R_alloc | apply Kd.R_drewN | apply Kd.R_drew)); exact HO_4.out) hb)
                                      have n1_ := Aside0.mk (Kd.R_below (by (with_reducible repeat (first | apply Kd.R_alloc | apply Kd.R_drewN | apply Kd.R_drew)); exact HO_372002.out) hb)
                                      have n2_ := Aside0.mk (blk_below (g := gb371) (o := .cells #[.int .i64 t358, .int .i64 t359, .slice Ao12 t360.length co12, .int .i64 t363] 34 (0, 0)) (by (with_reducible repeat (first | refine blk_drewN ?_ _ | refine blk_drew ?_ | refine blk_alloc ?_ _)); exact BK371.out) hb)
                                      have n3_ := Aside0.mk (Kd.C_below (by repeat (first | (with_reducible exact HR384.out) | (with_reducible refine Kd.C_alloc ?_ _) | (with_reducible refine Kd.C_drewN ?_ _) | (with_reducible refine Kd.C_drew ?_) | exact HR384.out)) hb)
                                      have n4_ := Aside0.mk (below_step (by repeat (first | (with_reducible first | exact HB.out | apply below_alloc | apply pw_below_drewN | apply below_drew1 | refine below_set ?_ GE371.out) | exact HB.out)) hb)
                                      clear HO_4
                                      clear HO_372002
                                      clear BK371
                                      clear HR384
                                      clear HB
                                      have HO_4 := n0_
                                      have HO_372002 := n1_
                                      have BK371 := n2_
                                      have HR384 := n3_
                                      have HB := n4_
                                      clear n0_ n1_ n2_ n3_ n4_
                                      (try clear hb)
                                      (try clear hb2)
                                      (try clear hk)
                                      (try clear hi)
                                      refine hK.out _ _ ⟨(blk_cell BK371.out 0).trans rfl, (blk_cell BK371.out 1).trans rfl, (blk_cell BK371.out 2).trans rfl, (blk_cell BK371.out 3).trans rfl⟩ (fun hHeld => ?_)
                                      clear hK K
                                      refine norm_ (a' := ?_) ?_ ?_
                                      rotate_left
                                      · show Act.put _ (some 114) _ = _
                                        simp only [Act.put, List.setIfInBounds_toArray, List.set_cons_zero, List.set_cons_succ, i64_w, i32_w]
                                        rfl
                                      refine pure_ (i := 9) (N := some 12) (v := ?_) (a' := ?_) #[true, true, true, true, true, true, true, true, true, true] rfl rfl (any_of HT_.out (by kernel_rfl)) (fun _ _ _ h => h) (Or.inl ⟨by rfl, ?_⟩) ?_ ?_
                                      rotate_left
                                      · intro w'
                                        go_simp
                                        with_reducible rfl
                                      rotate_left
                                      · simp only [Act.put, List.setIfInBounds_toArray, List.set_cons_zero, List.set_cons_succ, i64_w, i32_w]
                                        rfl
                                      refine done_ (done_of HT_.out (by kernel_rfl)) ?_
                                      try go_wp2
                                      go_roundg k4
                                      case measure => have := HJ7.out; have := HJ29.out; have := HJ37.out; have := HK4.out; omega
                                      case rel => exact ⟨(wrap64 (x11_4 + 1)), (by first | rfl | (simp; done) | (simp [*]; done)), H', ⟨by have := HJ7.out; have := HJ29.out; have := HJ37.out; have := HK4.out; omega⟩, ⟨by (with_reducible repeat (first | apply Kd.R_alloc | apply Kd.R_drewN | apply Kd.R_drew)); exact HO_4.out⟩, ⟨by (with_reducible repeat (first | apply Kd.R_alloc | apply Kd.R_drewN | apply Kd.R_drew)); exact HO_372002.out⟩, ⟨by (with_reducible repeat (first | refine blk_drewN ?_ _ | refine blk_drew ?_ | refine blk_alloc ?_ _)); exact BK371.out⟩, ⟨by repeat (first | (with_reducible first | exact HB.out | apply below_alloc | apply pw_below_drewN | apply below_drew1 | refine below_set ?_ GE371.out) | exact HB.out)⟩⟩
                                · rw [if_neg c56] at H
                                  exact absurd H (by simp)
                              · rw [if_neg c55] at H
                                exact absurd H (by simp)
                            · rw [if_neg c54] at H
                              exact absurd H (by simp)
                          · rw [if_neg c53] at H
                            have c53b0 : decide (x11_4 < (t364.length : Int)) = false := decide_eq_false c53
                            clear c53
                            replace H := Option.bind_eq_some_iff.mp H
                            obtain ⟨t386, A630, H⟩ := H
                            replace H : ((impl_Refund.f k4 t358 t359 t360 t363 t374 t386).bind fun t387 => (if t387 ≥ 0 then (if t387 ≤ t374 then (if t363 = 0 then (none) else (if (Int.tmod t387 t363) = 0 then ((impl_Refund.f k4 t358 t359 t360 t363 t374 72).bind fun t388 => (if t388 = t374 then ((impl_Refund.f k4 t358 t359 t360 t363 t374 0).bind fun t389 => (some (t389 == 0))) else (some false))) else (some false))) else (some false)) else (some false))) = some r := H
                            have A63 := Aside0.mk A630
                            clear A630
                            replace H := Option.bind_eq_some_iff.mp H
                            obtain ⟨t387, A640, H⟩ := H
                            replace H : (if t387 ≥ 0 then (if t387 ≤ t374 then (if t363 = 0 then (none) else (if (Int.tmod t387 t363) = 0 then ((impl_Refund.f k4 t358 t359 t360 t363 t374 72).bind fun t388 => (if t388 = t374 then ((impl_Refund.f k4 t358 t359 t360 t363 t374 0).bind fun t389 => (some (t389 == 0))) else (some false))) else (some false))) else (some false)) else (some false)) = some r := H
                            have A64 := Aside0.mk A640
                            clear A640
                            by_cases c65 : t387 ≥ 0
                            · rw [if_pos c65] at H
                              have c65b0 : decide (0 ≤ t387) = true := decide_eq_true c65
                              clear c65
                              by_cases c66 : t387 ≤ t374
                              · rw [if_pos c66] at H
                                have c66b0 : decide (t387 ≤ t374) = true := decide_eq_true c66
                                clear c66
                                by_cases c67 : t363 = 0
                                · rw [if_pos c67] at H
                                  exact absurd H (by simp)
                                · rw [if_neg c67] at H
                                  have c67b0 : (t363 == 0) = false := beq_eq_false_iff_ne.mpr c67
                                  have c67b1 : (t363 != 0) = true := bne_iff_ne.mpr c67
                                  by_cases c68 : (Int.tmod t387 t363) = 0
                                  · rw [if_pos c68] at H
                                    have c68b0 : ((Int.tmod t387 t363) == 0) = true := beq_iff_eq.mpr c68
                                    have c68b1 : ((Int.tmod t387 t363) != 0) = false := bne_eq_false_iff_eq.mpr c68
                                    clear c68
                                    replace H := Option.bind_eq_some_iff.mp H
                                    obtain ⟨t388, A690, H⟩ := H
                                    replace H : (if t388 = t374 then ((impl_Refund.f k4 t358 t359 t360 t363 t374 0).bind fun t389 => (some (t389 == 0))) else (some false)) = some r := H
                                    have A69 := Aside0.mk A690
                                    clear A690
                                    by_cases c70 : t388 = t374
                                    · rw [if_pos c70] at H
                                      have c70b0 : (t388 == t374) = true := beq_iff_eq.mpr c70
                                      have c70b1 : (t388 != t374) = false := bne_eq_false_iff_eq.mpr c70
                                      clear c70
                                      replace H := Option.bind_eq_some_iff.mp H
                                      obtain ⟨t389, A710, H⟩ := H
                                      replace H : (some (t389 == 0)) = some r := H
                                      have A71 := Aside0.mk A710
                                      clear A710
                                      obtain rfl := Option.some.inj H
                                      try go_wp2
                                      have n0_ := Aside0.mk (Kd.R_drew HO_4.out)
                                      have n1_ := Aside0.mk (Kd.R_drew HO_372002.out)
                                      have n2_ := Aside0.mk (blk_drew BK371.out)
                                      have n3_ := Aside0.mk (below_drew1 HB.out)
                                      clear HO_4
                                      clear HO_372002
                                      clear BK371
                                      clear HB
                                      have HO_4 := n0_
                                      have HO_372002 := n1_
                                      have BK371 := n2_
                                      have HB := n3_
                                      clear n0_ n1_ n2_ n3_
                                      refine start_ (n := 6) (S := fun w' => w'.cell? ⟨gb371, 0, none⟩ = some (.int .i64 t358) ∧ w'.cell? ⟨gb371, 1, none⟩ = some (.int .i64 t359) ∧ w'.cell? ⟨gb371, 2, none⟩ = some (.slice Ao12 t360.length co12) ∧ w'.cell? ⟨gb371, 3, none⟩ = some (.int .i64 t363)) (ds := []) #[false, false, false, false, false, false] (by kernel_rfl) rfl rfl ⟨(blk_cell BK371.out 0).trans rfl, (blk_cell BK371.out 1).trans rfl, (blk_cell BK371.out 2).trans rfl, (blk_cell BK371.out 3).trans rfl⟩ (fun hHeld => ?_)
                                      generalize wr.drew = w72 at HO_4 HO_372002 BK371 HB hHeld ⊢
                                      refine pure_ (i := 1) (N := some 124) (v := ?_) (a' := ?_) #[false, true, false, false, false, false] rfl rfl (by kernel_rfl) (fun _ _ _ h => h) (Or.inl ⟨by rfl, ?_⟩) ?_ ?_
                                      rotate_left
                                      · intro w'
                                        go_simp
                                        with_reducible rfl
                                      rotate_left
                                      · simp only [Act.put, List.setIfInBounds_toArray, List.set_cons_zero, List.set_cons_succ, i64_w, i32_w]
                                        rfl
                                      refine pure_ (i := 2) (N := some 125) (v := ?_) (a' := ?_) #[false, true, true, false, false, false] rfl rfl (by kernel_rfl) (fun _ _ _ h => h) (Or.inl ⟨by rfl, ?_⟩) ?_ ?_
                                      rotate_left
                                      · intro w'
                                        go_simp
                                        with_reducible rfl
                                      rotate_left
                                      · simp only [Act.put, List.setIfInBounds_toArray, List.set_cons_zero, List.set_cons_succ, i64_w, i32_w]
                                        rfl
                                      refine take_ (i := 0) (N := some 123) (v := ?_) (a' := ?_) #[true, true, true, false, false, false] rfl rfl (by kernel_rfl) (fun _ _ _ h => h) (Or.inl ⟨by rfl, ?_⟩) hHeld ?_ ?_
                                      rotate_left
                                      · rintro w' ⟨s0, s1, s2, s3⟩
                                        go_simp
                                        with_reducible rfl
                                      rotate_left
                                      · simp only [Act.put, List.setIfInBounds_toArray, List.set_cons_zero, List.set_cons_succ, i64_w, i32_w]
                                        rfl
                                      refine one_ (i := 3) (N := some 126) #[true, true, true, true, false, false] rfl rfl (by kernel_rfl) (by decide) (fun K hK => ?_)
                                      refine goes_ Try.func28 (by kernel_rfl) rfl #[.slice A0 l0.length c0, .int .i64 5] (by rfl) rfl rfl (by (try simp only [List.map_toArray, List.map_cons, List.map_nil]); first | done | rfl | (simp only [List.length_drop, List.length_take]; rfl)) ?_
                                      with_reducible refine (laws_at.calls _ _ l0 5 t386 _ ?side1 ?side2 A63.out).mono ?_
                                      (case side1 => repeat (first | exact (Kd.C_below HR0.out HB.out) | (with_reducible refine Kd.C_alloc ?_ _) | (with_reducible refine Kd.C_drewN ?_ _) | (with_reducible refine Kd.C_drew ?_)))
                                      (case side2 => exact HC0.out)
                                      rintro e w' ⟨rfl, ⟨nd, rfl⟩⟩
                                      refine ⟨_, rfl, ?_⟩
                                      refine hK.out _ _ ⟨(blk_cell BK371.out 0).trans rfl, (blk_cell BK371.out 1).trans rfl, (blk_cell BK371.out 2).trans rfl, (blk_cell BK371.out 3).trans rfl⟩ (fun hHeld => ?_)
                                      clear hK K
                                      refine norm_ (a' := ?_) ?_ ?_
                                      rotate_left
                                      · show Act.put _ (some 126) _ = _
                                        simp only [Act.put, List.setIfInBounds_toArray, List.set_cons_zero, List.set_cons_succ, i64_w, i32_w]
                                        rfl
                                      refine one_ (i := 4) (N := some 127) #[true, true, true, true, true, false] rfl rfl (by kernel_rfl) (by decide) (fun K hK => ?_)
                                      refine goes_ Try.func23 (by kernel_rfl) rfl #[.agg #[.int .i64 t358, .int .i64 t359, .slice Ao12 t360.length co12, .int .i64 t363], .int .i64 t374, .int .i64 t386] (by rfl) rfl rfl (by (try simp only [List.map_toArray, List.map_cons, List.map_nil]); first | done | rfl | (simp only [List.length_drop, List.length_take]; rfl)) ?_
                                      with_reducible refine (impl_Refund.calls k4 t358 t359 _ _ t360 t363 t374 t386 t387 _ ?side1 ?side2 A64.out).mono ?_
                                      (case side1 => repeat (first | exact (Kd.R_reads' HO_372002.out).2.2 | (with_reducible refine Kd.C_alloc ?_ _) | (with_reducible refine Kd.C_drewN ?_ _) | (with_reducible refine Kd.C_drew ?_)))
                                      (case side2 => exact (Kd.R_reads' HO_372002.out).2.1)
                                      rintro e w73 ⟨rfl, hb⟩
                                      refine ⟨_, rfl, ?_⟩
                                      have n0_ := Aside0.mk (Kd.R_below (by (with_reducible repeat (first | apply Kd.R_alloc | apply Kd.R_drewN | apply Kd.R_drew)); exact HO_4.out) hb)
                                      have n1_ := Aside0.mk (Kd.R_below (by (with_reducible repeat (first | apply Kd.R_alloc | apply Kd.R_drewN | apply Kd.R_drew)); exact HO_372002.out) hb)
                                      have n2_ := Aside0.mk (blk_below (g := gb371) (o := .cells #[.int .i64 t358, .int .i64 t359, .slice Ao12 t360.length co12, .int .i64 t363] 34 (0, 0)) (by (with_reducible repeat (first | refine blk_drewN ?_ _ | refine blk_drew ?_ | refine blk_alloc ?_ _)); exact BK371.out) hb)
                                      have n3_ := Aside0.mk (below_step (by repeat (first | (with_reducible first | exact HB.out | apply below_alloc | apply pw_below_drewN | apply below_drew1 | refine below_set ?_ GE371.out) | exact HB.out)) hb)
                                      clear HO_4
                                      clear HO_372002
                                      clear BK371
                                      clear HB
                                      have HO_4 := n0_
                                      have HO_372002 := n1_
                                      have BK371 := n2_
                                      have HB := n3_
                                      clear n0_ n1_ n2_ n3_
                                      (try clear hb)
                                      (try clear hb2)
                                      (try clear hk)
                                      (try clear hi)
                                      refine hK.out _ _ ⟨(blk_cell BK371.out 0).trans rfl, (blk_cell BK371.out 1).trans rfl, (blk_cell BK371.out 2).trans rfl, (blk_cell BK371.out 3).trans rfl⟩ (fun hHeld => ?_)
                                      clear hK K
                                      refine norm_ (a' := ?_) ?_ ?_
                                      rotate_left
                                      · show Act.put _ (some 127) _ = _
                                        simp only [Act.put, List.setIfInBounds_toArray, List.set_cons_zero, List.set_cons_succ, i64_w, i32_w]
                                        rfl
                                      refine pure_ (i := 5) (N := some 13) (v := ?_) (a' := ?_) #[true, true, true, true, true, true] rfl rfl (by kernel_rfl) (fun _ _ _ h => h) (Or.inl ⟨by rfl, ?_⟩) ?_ ?_
                                      rotate_left
                                      · intro w'
                                        go_simp
                                        with_reducible rfl
                                      rotate_left
                                      · simp only [Act.put, List.setIfInBounds_toArray, List.set_cons_zero, List.set_cons_succ, i64_w, i32_w]
                                        rfl
                                      refine done_ (by kernel_rfl) ?_
                                      have hcz74_0 : w73.cell? ⟨gb371, 0, none⟩ = some (.int .i64 t358) := (blk_cell BK371.out 0).trans rfl
                                      have hcz74_1 : w73.cell? ⟨gb371, 1, none⟩ = some (.int .i64 t359) := (blk_cell BK371.out 1).trans rfl
                                      have hcz74_2 : w73.cell? ⟨gb371, 2, none⟩ = some (.slice Ao12 t360.length co12) := (blk_cell BK371.out 2).trans rfl
                                      have hcz74_3 : w73.cell? ⟨gb371, 3, none⟩ = some (.int .i64 t363) := (blk_cell BK371.out 3).trans rfl
                                      have hfz74_0 := blk_frozen BK371.out 0
                                      have hfz74_1 := blk_frozen BK371.out 1
                                      have hfz74_2 := blk_frozen BK371.out 2
                                      have hfz74_3 := blk_frozen BK371.out 3
                                      try go_wp2_with (first | (go_at_call 23; (with_reducible refine (impl_Refund.calls k4 t358 t359 _ _ t360 t363 t374 72 t388 _ ?side1 ?side2 A69.out).mono ?_); (case side1 => repeat (first | exact (Kd.R_reads' HO_372002.out).2.2 | (with_reducible refine Kd.C_alloc ?_ _) | (with_reducible refine Kd.C_drewN ?_ _) | (with_reducible refine Kd.C_drew ?_))); (case side2 => exact (Kd.R_reads' HO_372002.out).2.1); rintro e w75 ⟨rfl, hb⟩; have n0_ := Aside0.mk (Kd.R_below (by (with_reducible repeat (first | apply Kd.R_alloc | apply Kd.R_drewN | apply Kd.R_drew)); exact HO_4.out) hb); have n1_ := Aside0.mk (Kd.R_below (by (with_reducible repeat (first | apply Kd.R_alloc | apply Kd.R_drewN | apply Kd.R_drew)); exact HO_372002.out) hb); have n2_ := Aside0.mk (blk_below (g := gb371) (o := .cells #[.int .i64 t358, .int .i64 t359, .slice Ao12 t360.length co12, .int .i64 t363] 34 (0, 0)) (by (with_reducible repeat (first | refine blk_drewN ?_ _ | refine blk_drew ?_ | refine blk_alloc ?_ _)); exact BK371.out) hb); have n3_ := Aside0.mk (below_step (by repeat (first | (with_reducible first | exact HB.out | apply below_alloc | apply pw_below_drewN | apply below_drew1 | refine below_set ?_ GE371.out) | exact HB.out)) hb); clear HO_4; clear HO_372002; clear BK371; clear HB; have HO_4 := n0_; have HO_372002 := n1_; have BK371 := n2_; have HB := n3_; clear n0_ n1_ n2_ n3_; (try clear hb); (try clear hb2); (try clear hk); (try clear hi); have hcz76_0 : w75.cell? ⟨gb371, 0, none⟩ = some (.int .i64 t358) := (blk_cell BK371.out 0).trans rfl; have hcz76_1 : w75.cell? ⟨gb371, 1, none⟩ = some (.int .i64 t359) := (blk_cell BK371.out 1).trans rfl; have hcz76_2 : w75.cell? ⟨gb371, 2, none⟩ = some (.slice Ao12 t360.length co12) := (blk_cell BK371.out 2).trans rfl; have hcz76_3 : w75.cell? ⟨gb371, 3, none⟩ = some (.int .i64 t363) := (blk_cell BK371.out 3).trans rfl; have hfz76_0 := blk_frozen BK371.out 0; have hfz76_1 := blk_frozen BK371.out 1; have hfz76_2 := blk_frozen BK371.out 2; have hfz76_3 := blk_frozen BK371.out 3) | (go_at_call 23; (with_reducible refine (impl_Refund.calls k4 t358 t359 _ _ t360 t363 t374 0 t389 _ ?side1 ?side2 A71.out).mono ?_); (case side1 => repeat (first | exact (Kd.R_reads' HO_372002.out).2.2 | (with_reducible refine Kd.C_alloc ?_ _) | (with_reducible refine Kd.C_drewN ?_ _) | (with_reducible refine Kd.C_drew ?_))); (case side2 => exact (Kd.R_reads' HO_372002.out).2.1); rintro e w77 ⟨rfl, hb⟩; have n0_ := Aside0.mk (Kd.R_below (by (with_reducible repeat (first | apply Kd.R_alloc | apply Kd.R_drewN | apply Kd.R_drew)); exact HO_4.out) hb); have n1_ := Aside0.mk (Kd.R_below (by (with_reducible repeat (first | apply Kd.R_alloc | apply Kd.R_drewN | apply Kd.R_drew)); exact HO_372002.out) hb); have n2_ := Aside0.mk (blk_below (g := gb371) (o := .cells #[.int .i64 t358, .int .i64 t359, .slice Ao12 t360.length co12, .int .i64 t363] 34 (0, 0)) (by (with_reducible repeat (first | refine blk_drewN ?_ _ | refine blk_drew ?_ | refine blk_alloc ?_ _)); exact BK371.out) hb); have n3_ := Aside0.mk (below_step (by repeat (first | (with_reducible first | exact HB.out | apply below_alloc | apply pw_below_drewN | apply below_drew1 | refine below_set ?_ GE371.out) | exact HB.out)) hb); clear HO_4; clear HO_372002; clear BK371; clear HB; have HO_4 := n0_; have HO_372002 := n1_; have BK371 := n2_; have HB := n3_; clear n0_ n1_ n2_ n3_; (try clear hb); (try clear hb2); (try clear hk); (try clear hi)))
                                      go_ret
                                      exact ⟨by first | rfl | (simp [errW_none, errW_some] <;> rfl) | (simp [*, errW_none, errW_some] <;> first | rfl | (simp [wrap64]; done)), by repeat (first | (with_reducible first | exact HB.out | apply below_alloc | apply pw_below_drewN | apply below_drew1 | refine below_set ?_ GE371.out) | exact HB.out)⟩
                                    · rw [if_neg c70] at H
                                      have c70b0 : (t388 == t374) = false := beq_eq_false_iff_ne.mpr c70
                                      have c70b1 : (t388 != t374) = true := bne_iff_ne.mpr c70
                                      exact absurd ((Option.some.inj H).trans ht.out) (by decide)
                                  · rw [if_neg c68] at H
                                    have c68b0 : ((Int.tmod t387 t363) == 0) = false := beq_eq_false_iff_ne.mpr c68
                                    have c68b1 : ((Int.tmod t387 t363) != 0) = true := bne_iff_ne.mpr c68
                                    exact absurd ((Option.some.inj H).trans ht.out) (by decide)
                              · rw [if_neg c66] at H
                                have c66b0 : decide (t387 ≤ t374) = false := decide_eq_false c66
                                clear c66
                                exact absurd ((Option.some.inj H).trans ht.out) (by decide)
                            · rw [if_neg c65] at H
                              have c65b0 : decide (0 ≤ t387) = false := decide_eq_false c65
                              clear c65
                              exact absurd ((Option.some.inj H).trans ht.out) (by decide)

/-- THE ONE PURE STATEMENT of laws_FnFares: yours. -/
theorem laws_FnFares.walk (P : laws_FnFares.Pure) (a0 : Option Addr) (len0 cap0 : Nat) (z0 : List Int) (w : World) (w0 : (a0 = none ∧ len0 = 0 ∧ cap0 = 0 ∧ z0 = []) ∨ ∃ x, a0 = some x ∧ len0 ≤ cap0 ∧ cap0 ≤ maxLen ∧ z0.length = cap0 ∧ (∀ i, i < z0.length → w.cell? (x.add i) = some (.int .u8 (z0.getD i 0))) ∧ ∀ n ∈ z0, (Lit.int .u8 n).wf = true) (y0 : len0 * 1 ≤ 140737488351232) :
    Calls Try.prog 7 #[.slice a0 len0 cap0] w fun e w' => e = .returned (.bool true) ∧ Below w.heap.size w w' := by
  obtain ⟨l0, rfl, hr0, hm0, hw0, hc0⟩ := ReadsInt.ofRowC w0
  obtain ⟨k, h⟩ := P l0 hm0 y0 hw0
  refine (laws_FnFares.calls k _ _ l0 true w (Kd.C_of_reads (d := (0 : Int)) (h1 := fun _ => rfl) hr0) hc0 ⟨rfl⟩ h).mono ?_
  rintro e w' ⟨rfl, hd⟩
  exact ⟨rfl, hd⟩

end Go.Proofs.Ytcihaeggjfpacaa.P
