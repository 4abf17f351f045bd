/- What the law FnExactCardsOk asks: the pure statement. -/
import Derived.Test.YtcihaeggjfpacaaO
namespace Go.Proofs.Ytcihaeggjfpacaa.P
open Go.RowKit
def laws_FnExactCardsOk.Pure2 : Prop := ∀ (y0 : List (S60)), (y0.length ≤ maxLen ∧ ∀ e0_, e0_ ∈ y0 → Q60 e0_) → ∃ k, laws_FnExactCardsOk.f k y0 = some true
end Go.Proofs.Ytcihaeggjfpacaa.P
