/- What the law FnExactJourneyText asks: the pure statement. -/
import Derived.Test.YtdpjoblnjjkbfaaDoorO
namespace Go.Proofs.YtdpjoblnjjkbfaaDoor.P
open Go.RowKit
def laws_FnExactJourneyText.Pure2 : Prop := ∀ (y0 : List (S52)) (y1 : List (S56)) (y2 : Int), (y0.length ≤ maxLen ∧ ∀ e0_, e0_ ∈ y0 → Q52 e0_) → (y1.length ≤ maxLen ∧ ∀ e0_, e0_ ∈ y1 → Q56 e0_) → (Lit.int .i64 y2).wf = true → ∃ k, laws_FnExactJourneyText.f k y0 y1 y2 = some true
end Go.Proofs.YtdpjoblnjjkbfaaDoor.P
