/- What the law FnExactUnbook asks: the pure statement. -/
import Derived.Test.YtklikbjlfaednaaO
namespace Go.Proofs.Ytklikbjlfaednaa.P
open Go.RowKit
def laws_FnExactUnbook.Pure2 : Prop := ∀ (y0 : S24) (y1 : Int), Q24 y0 → (Lit.int .i64 y1).wf = true → ∃ k, laws_FnExactUnbook.f k y0.f0 y0.f1 y0.f2 y1 = some true
end Go.Proofs.Ytklikbjlfaednaa.P
