/- What the law FnExactTrainOk asks: the pure statement. -/
import Derived.Test.YtklikbjlfaednaaO
namespace Go.Proofs.Ytklikbjlfaednaa.P
open Go.RowKit
def laws_FnExactTrainOk.Pure2 : Prop := ∀ (y0 : S24), Q24 y0 → ∃ k, laws_FnExactTrainOk.f k y0.f0 y0.f1 y0.f2 = some true
end Go.Proofs.Ytklikbjlfaednaa.P
