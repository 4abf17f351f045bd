/- What the law FnExactDriven asks: the pure statement. -/
import Derived.Test.YtnamdbnnijfniaaO
namespace Go.Proofs.Ytnamdbnnijfniaa.P
open Go.RowKit
def laws_FnExactDriven.Pure2 : Prop := ∀ (y0 : List (S56)) (y1 : List Int), (y0.length ≤ maxLen ∧ ∀ e0_, e0_ ∈ y0 → Q56 e0_) → (y1.length ≤ maxLen ∧ ∀ e0_, e0_ ∈ y1 → (Lit.int .i64 e0_).wf = true) → ∃ k, laws_FnExactDriven.f k y0 y1 = some true
end Go.Proofs.Ytnamdbnnijfniaa.P
