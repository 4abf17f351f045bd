/- What the law FnExactDue asks: the pure statement. -/
import Derived.Test.YtoalolbifakpiaaO
namespace Go.Proofs.Ytoalolbifakpiaa.P
open Go.RowKit
def laws_FnExactDue.Pure2 : Prop := ∀ (y0 : List (S23)) (y1 : Int) (y2 : Int), (y0.length ≤ maxLen ∧ ∀ e0_, e0_ ∈ y0 → Q23 e0_) → (Lit.int .i64 y1).wf = true → (Lit.int .i64 y2).wf = true → ∃ k, laws_FnExactDue.f k y0 y1 y2 = some true
end Go.Proofs.Ytoalolbifakpiaa.P
