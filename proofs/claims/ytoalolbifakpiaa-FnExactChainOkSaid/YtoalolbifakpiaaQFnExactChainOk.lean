/- What the law FnExactChainOk asks: the pure statement. -/
import Derived.Test.YtoalolbifakpiaaO
namespace Go.Proofs.Ytoalolbifakpiaa.P
open Go.RowKit
def laws_FnExactChainOk.Pure2 : Prop := ∀ (y0 : List (S23)) (y1 : Int) (y2 : List Int), (y0.length ≤ maxLen ∧ ∀ e0_, e0_ ∈ y0 → Q23 e0_) → (Lit.int .i64 y1).wf = true → (y2.length ≤ maxLen ∧ ∀ e0_, e0_ ∈ y2 → (Lit.int .i64 e0_).wf = true) → ∃ k, laws_FnExactChainOk.f k y0 y1 y2 = some true
end Go.Proofs.Ytoalolbifakpiaa.P
