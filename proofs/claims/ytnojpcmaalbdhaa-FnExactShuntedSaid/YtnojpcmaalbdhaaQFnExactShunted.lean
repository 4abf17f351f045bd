/- What the law FnExactShunted asks: the pure statement. -/
import Derived.Test.YtnojpcmaalbdhaaO
namespace Go.Proofs.Ytnojpcmaalbdhaa.P
open Go.RowKit
def laws_FnExactShunted.Pure2 : Prop := ∀ (y0 : List (S23)) (y1 : List Int), (y0.length ≤ maxLen ∧ ∀ e0_, e0_ ∈ y0 → Q23 e0_) → (y1.length ≤ maxLen ∧ ∀ e0_, e0_ ∈ y1 → (Lit.int .i64 e0_).wf = true) → ∃ k, laws_FnExactShunted.f k y0 y1 = some true
end Go.Proofs.Ytnojpcmaalbdhaa.P
