/- What the law FnExactWage asks: the pure statement. -/
import Derived.Test.YtnamdbnnijfniaaO
namespace Go.Proofs.Ytnamdbnnijfniaa.P
open Go.RowKit
def laws_FnExactWage.Pure2 : Prop := ∀ (y0 : List (S56)) (y1 : List Int) (y2 : S23) (y3 : Int), (y0.length ≤ maxLen ∧ ∀ e0_, e0_ ∈ y0 → Q56 e0_) → (y1.length ≤ maxLen ∧ ∀ e0_, e0_ ∈ y1 → (Lit.int .i64 e0_).wf = true) → Q23 y2 → (Lit.int .i64 y3).wf = true → ∃ k, laws_FnExactWage.f k y0 y1 y2.f0 y2.f1 y2.f2 y2.f3 y3 = some true
end Go.Proofs.Ytnamdbnnijfniaa.P
