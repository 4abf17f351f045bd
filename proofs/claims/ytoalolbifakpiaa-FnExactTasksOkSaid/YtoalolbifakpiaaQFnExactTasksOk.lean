/- What the law FnExactTasksOk asks: the pure statement. -/
import Derived.Test.YtoalolbifakpiaaO
namespace Go.Proofs.Ytoalolbifakpiaa.P
open Go.RowKit
def laws_FnExactTasksOk.Pure2 : Prop := ∀ (y0 : List (S23)), (y0.length ≤ maxLen ∧ ∀ e0_, e0_ ∈ y0 → Q23 e0_) → ∃ k, laws_FnExactTasksOk.f k y0 = some true
end Go.Proofs.Ytoalolbifakpiaa.P
