/- What the law FnExactSplit asks: the pure statement. -/
import Derived.Test.YtcihaeggjfpacaaO
namespace Go.Proofs.Ytcihaeggjfpacaa.P
open Go.RowKit
def laws_FnExactSplit.Pure2 : Prop := ∀ (y0 : S31) (y1 : List Int) (y2 : List (S60)) (y3 : Int), Q31 y0 → (y1.length ≤ maxLen ∧ ∀ e0_, e0_ ∈ y1 → (Lit.int .i64 e0_).wf = true) → (y2.length ≤ maxLen ∧ ∀ e0_, e0_ ∈ y2 → Q60 e0_) → (Lit.int .i64 y3).wf = true → ∃ k, laws_FnExactSplit.f k y0.f0 y0.f1 y0.f2 y0.f3 y1 y2 y3 = some true
end Go.Proofs.Ytcihaeggjfpacaa.P
