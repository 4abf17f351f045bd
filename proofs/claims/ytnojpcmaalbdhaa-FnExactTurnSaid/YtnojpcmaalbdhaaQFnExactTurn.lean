/- What the law FnExactTurn asks: the pure statement. -/
import Derived.Test.YtnojpcmaalbdhaaO
namespace Go.Proofs.Ytnojpcmaalbdhaa.P
open Go.RowKit
def laws_FnExactTurn.Pure2 : Prop := ∀ (y0 : List (S23)), (y0.length ≤ maxLen ∧ ∀ e0_, e0_ ∈ y0 → Q23 e0_) → ∃ k, laws_FnExactTurn.f k y0 = some true
end Go.Proofs.Ytnojpcmaalbdhaa.P
