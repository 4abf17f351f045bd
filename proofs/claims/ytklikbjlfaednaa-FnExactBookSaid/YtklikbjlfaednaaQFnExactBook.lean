/- What the law FnExactBook asks: the pure statement. -/
import Derived.Test.YtklikbjlfaednaaO
namespace Go.Proofs.Ytklikbjlfaednaa.P
open Go.RowKit
def laws_FnExactBook.Pure2 : Prop := ∀ (y0 : S24) (y1 : Int) (y2 : Int) (y3 : Int), Q24 y0 → (Lit.int .i64 y1).wf = true → (Lit.int .i64 y2).wf = true → (Lit.int .i64 y3).wf = true → ∃ k, laws_FnExactBook.f k y0.f0 y0.f1 y0.f2 y1 y2 y3 = some true
end Go.Proofs.Ytklikbjlfaednaa.P
