/- What the law FnExactFare asks: the pure statement. -/
import Derived.Test.YtcihaeggjfpacaaO
namespace Go.Proofs.Ytcihaeggjfpacaa.P
open Go.RowKit
def laws_FnExactFare.Pure2 : Prop := ∀ (y0 : S31) (y1 : Int) (y2 : Int), Q31 y0 → (Lit.int .i64 y1).wf = true → (Lit.int .i64 y2).wf = true → ∃ k, laws_FnExactFare.f k y0.f0 y0.f1 y0.f2 y0.f3 y1 y2 = some true
end Go.Proofs.Ytcihaeggjfpacaa.P
