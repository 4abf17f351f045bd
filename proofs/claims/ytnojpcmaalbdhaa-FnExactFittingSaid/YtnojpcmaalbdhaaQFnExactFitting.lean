/- What the law FnExactFitting asks: the pure statement. -/
import Derived.Test.YtnojpcmaalbdhaaO
namespace Go.Proofs.Ytnojpcmaalbdhaa.P
open Go.RowKit
def laws_FnExactFitting.Pure2 : Prop := ∀ (y0 : S23) (y1 : S23), Q23 y0 → Q23 y1 → laws_FnExactFitting.f y0.f0 y0.f1 y0.f2 y0.f3 y1.f0 y1.f1 y1.f2 y1.f3 = some true
end Go.Proofs.Ytnojpcmaalbdhaa.P
