/- What the law FnExactStretched asks: the pure statement. -/
import Derived.Test.YtnamdbnnijfniaaO
namespace Go.Proofs.Ytnamdbnnijfniaa.P
open Go.RowKit
def laws_FnExactStretched.Pure2 : Prop := ∀ (y0 : List (S56)) (y1 : List Int) (y2 : Int), (y0.length ≤ maxLen ∧ ∀ e0_, e0_ ∈ y0 → Q56 e0_) → (y1.length ≤ maxLen ∧ ∀ e0_, e0_ ∈ y1 → (Lit.int .i64 e0_).wf = true) → (Lit.int .i64 y2).wf = true → ∃ k, laws_FnExactStretched.f k y0 y1 y2 = some true
end Go.Proofs.Ytnamdbnnijfniaa.P
