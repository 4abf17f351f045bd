/- Has a booking a number? -/
import Derived.Test.YtklikbjlfaednaaH1
namespace Go.Proofs.Ytklikbjlfaednaa.Pure
open Go.RowKit Go.Proofs.Ytklikbjlfaednaa.P Go.Proofs.YtklikbjlfaednaaW.PrintWords Go.Proofs.YtklikbjlfaednaaW.PrintLast
set_option linter.unusedVariables false

theorem ev_then {α β : Type} {g : Nat → Option α} {r : α} (h : Ev g r) (F : α → β) : Ev (fun k => (g k).bind fun t => some (F t)) (F r) := Ev.bind h (Ev.now _)
def hasId (l : List S66) (id : Int) : Bool := l.any fun o => decide (o.f0 = id)
theorem hasId_iff {l : List S66} {id : Int} : hasId l id = true ↔ ∃ o, o ∈ l ∧ o.f0 = id := by
  unfold hasId
  rw [List.any_eq_true]
  constructor
  · rintro ⟨o, h, e⟩; exact ⟨o, h, of_decide_eq_true e⟩
  · rintro ⟨o, h, e⟩; exact ⟨o, h, decide_eq_true e⟩
theorem hasId_no {l : List S66} {id : Int} (h : hasId l id = false) : ∀ o, o ∈ l → o.f0 ≠ id := fun o ho e => by
  rw [hasId_iff.2 ⟨o, ho, e⟩] at h; cases h
end Go.Proofs.Ytklikbjlfaednaa.Pure
