/- What the law FnExactTariffOk asks: the pure statement. -/
import Derived.Test.YtcihaeggjfpacaaO
namespace Go.Proofs.Ytcihaeggjfpacaa.P
open Go.RowKit
def laws_FnExactTariffOk.Pure2 : Prop := ∀ (y0 : S31), Q31 y0 → ∃ k, laws_FnExactTariffOk.f k y0.f0 y0.f1 y0.f2 y0.f3 = some true
end Go.Proofs.Ytcihaeggjfpacaa.P
