/- The law FnExactReadStock, over lists and numbers alone: program and reference read the same formation out of any text. -/
import Derived.Test.YtnojpcmaalbdhaaDoorD
import Derived.Test.YtnojpcmaalbdhaaDoorX6
namespace Go.Proofs.YtnojpcmaalbdhaaDoor.Pure
open Go.RowKit Go.Proofs.YtnojpcmaalbdhaaDoor.P Go.Proofs.YtnojpcmaalbdhaaDoorW.PrintWords Go.Proofs.YtnojpcmaalbdhaaDoorW.PrintLast

theorem FnExactReadStock : laws_FnExactReadStock.Pure := by
  intro t _
  refine Ev.rounds ?_
  unfold laws_FnExactReadStock.f
  by_cases c : (t.size : Int) > 1048576
  · simp only [c, if_true]; exact Ev.now true
  · simp only [c, if_false]
    obtain ⟨⟨L, b⟩, h1, h2, h3, _⟩ := read_both t
    have h3 : L.length ≤ 30 := h3
    have hh := held_units L.length 1 (by omega) (by decide) (by decide)
    have heq := eq_units L (by omega)
    refine Ev.bind h1 (Ev.bind h2 (Ev.bind heq ?_))
    simp only [if_true]
    have hb : (b != b) = false := by cases b <;> rfl
    rw [hb]
    refine Ev.step (f := fun k => (laws_markUnitS.f k L 1).bind fun bt239 => ((laws_heldUnitS.f k bt239.2 1).bind fun t241 => (if t241 < 0 then (some false) else (if t241 = bt239.1 then ((impl_ReadStock.f k t).bind fun bt242 => ((laws_eqUnitS.f k bt242.1 L).bind fun t246 => (if t246 = true then (laws_FnExactReadStock.j1 k bt239.2 bt239.1 (bt242.2 != b)) else (laws_FnExactReadStock.j1 k bt239.2 bt239.1 true)))) else (some false))))) (fun k => ?_) (Ev.bind (mark_units L 1 (by omega) (by decide) (by decide)) (Ev.bind hh ?_))
    · simp only [laws_FnExactReadStock.j0]; rw [if_neg (by decide)]
    · simp only [show ¬ ((1 : Int) + ((4 : Nat) : Int) * (L.length : Int) < 0) by omega, if_false, if_true]
      refine Ev.bind h2 (Ev.bind heq ?_)
      simp only [if_true, hb]
      refine Ev.step (f := fun k => (laws_heldUnitS.f k ((List.range L.length).map fun i => mkU (1 + (4 : Nat) * (i : Nat))) 1).bind fun t247 => (if t247 < 0 then (some false) else (if t247 = 1 + ((4 : Nat) : Int) * (L.length : Int) then (some true) else (some false)))) (fun k => ?_) (Ev.bind hh ?_)
      · simp only [laws_FnExactReadStock.j1]; rw [if_neg (by decide)]
      · simp only [show ¬ ((1 : Int) + ((4 : Nat) : Int) * (L.length : Int) < 0) by omega, if_false, if_true]
        exact Ev.now true
end Go.Proofs.YtnojpcmaalbdhaaDoor.Pure
