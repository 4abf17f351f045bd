/- What the law FnExactBalanced asks: the pure statement. -/
import Derived.Test.YtoalolbifakpiaaO
namespace Go.Proofs.Ytoalolbifakpiaa.P
open Go.RowKit
def laws_FnExactBalanced.Pure2 : Prop := ∀ (y0 : List (S23)), (y0.length ≤ maxLen ∧ ∀ e0_, e0_ ∈ y0 → Q23 e0_) → ∃ k, laws_FnExactBalanced.f k y0 = some true
end Go.Proofs.Ytoalolbifakpiaa.P
