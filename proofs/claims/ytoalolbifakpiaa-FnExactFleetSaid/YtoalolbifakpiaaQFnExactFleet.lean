/- What the law FnExactFleet asks: the pure statement. -/
import Derived.Test.YtoalolbifakpiaaO
namespace Go.Proofs.Ytoalolbifakpiaa.P
open Go.RowKit
def laws_FnExactFleet.Pure2 : Prop := ∀ (y0 : List (S23)) (y1 : Int), (y0.length ≤ maxLen ∧ ∀ e0_, e0_ ∈ y0 → Q23 e0_) → (Lit.int .i64 y1).wf = true → ∃ k, laws_FnExactFleet.f k y0 y1 = some true
end Go.Proofs.Ytoalolbifakpiaa.P
