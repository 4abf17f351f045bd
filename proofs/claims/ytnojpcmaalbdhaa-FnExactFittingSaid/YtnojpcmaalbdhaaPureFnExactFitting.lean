/- The law FnExactFitting, over numbers alone: program and reference tell the same of any two units. -/
import Derived.Test.YtnojpcmaalbdhaaQFnExactFitting
namespace Go.Proofs.Ytnojpcmaalbdhaa.Pure
open Go.RowKit Go.Proofs.Ytnojpcmaalbdhaa.P Go.Proofs.YtnojpcmaalbdhaaW.PrintWords Go.Proofs.YtnojpcmaalbdhaaW.PrintLast

theorem FnExactFitting : laws_FnExactFitting.Pure2 := by
  intro a b _ _
  have h : ∀ (a0 a1 a2 : Int) (a3 : Bool) (b0 b1 b2 : Int) (b3 : Bool), ∃ r, spec_Fitting.f a0 a1 a2 a3 b0 b1 b2 b3 = some r := by
    intros; unfold spec_Fitting.f
    repeat' split
    all_goals exact ⟨_, rfl⟩
  obtain ⟨r, hr⟩ := h a.f0 a.f1 a.f2 a.f3 b.f0 b.f1 b.f2 b.f3
  have hi : impl_Fitting.f a.f0 a.f1 a.f2 a.f3 b.f0 b.f1 b.f2 b.f3 = some r := hr
  simp [laws_FnExactFitting.f, laws_toUnit.f, hr, hi]
end Go.Proofs.Ytnojpcmaalbdhaa.Pure
