/- What the law FnExactStockText asks: the pure statement. -/
import Derived.Test.YtnojpcmaalbdhaaDoorO
namespace Go.Proofs.YtnojpcmaalbdhaaDoor.P
open Go.RowKit
def laws_FnExactStockText.Pure2 : Prop := ∀ (y0 : List (S46)), (y0.length ≤ maxLen ∧ ∀ e0_, e0_ ∈ y0 → Q46 e0_) → ∃ k, laws_FnExactStockText.f k y0 = some true
end Go.Proofs.YtnojpcmaalbdhaaDoor.P
