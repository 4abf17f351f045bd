/- The law FnExactRuleOk, over numbers alone: program and reference tell the same of all rules. -/
import Derived.Test.YtnamdbnnijfniaaQFnExactRuleOk
import Derived.Test.YtnamdbnnijfniaaR1
namespace Go.Proofs.Ytnamdbnnijfniaa.Pure
open Go.RowKit Go.Proofs.Ytnamdbnnijfniaa.P Go.Proofs.YtnamdbnnijfniaaW.PrintWords Go.Proofs.YtnamdbnnijfniaaW.PrintLast

theorem FnExactRuleOk : laws_FnExactRuleOk.Pure2 := by
  intro ⟨a, b, c, d⟩ _
  simp [laws_FnExactRuleOk.f, laws_toRule.f, spec_rule, impl_rule]
end Go.Proofs.Ytnamdbnnijfniaa.Pure
