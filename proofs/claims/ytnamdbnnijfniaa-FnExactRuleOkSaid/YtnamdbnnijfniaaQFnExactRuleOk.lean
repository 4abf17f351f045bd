/- What the law FnExactRuleOk asks: the pure statement. -/
import Derived.Test.YtnamdbnnijfniaaO
namespace Go.Proofs.Ytnamdbnnijfniaa.P
open Go.RowKit
def laws_FnExactRuleOk.Pure2 : Prop := ∀ (y0 : S23), Q23 y0 → laws_FnExactRuleOk.f y0.f0 y0.f1 y0.f2 y0.f3 = some true
end Go.Proofs.Ytnamdbnnijfniaa.P
