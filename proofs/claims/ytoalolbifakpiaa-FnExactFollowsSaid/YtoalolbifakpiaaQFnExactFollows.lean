/- What the law FnExactFollows asks: the pure statement. -/
import Derived.Test.YtoalolbifakpiaaO
namespace Go.Proofs.Ytoalolbifakpiaa.P
open Go.RowKit
def laws_FnExactFollows.Pure2 : Prop := ∀ (y0 : S23) (y1 : S23) (y2 : Int), Q23 y0 → Q23 y1 → (Lit.int .i64 y2).wf = true → laws_FnExactFollows.f y0.f0 y0.f1 y0.f2 y0.f3 y0.f4 y1.f0 y1.f1 y1.f2 y1.f3 y1.f4 y2 = some true
end Go.Proofs.Ytoalolbifakpiaa.P
