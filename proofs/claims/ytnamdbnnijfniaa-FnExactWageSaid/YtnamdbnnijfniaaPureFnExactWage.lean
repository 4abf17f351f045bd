/- The law FnExactWage, over lists and numbers alone: program and reference tell the same wage of any duty. -/
import Derived.Test.YtnamdbnnijfniaaQFnExactWage
import Derived.Test.YtnamdbnnijfniaaR4
namespace Go.Proofs.Ytnamdbnnijfniaa.Pure
open Go.RowKit Go.Proofs.Ytnamdbnnijfniaa.P Go.Proofs.YtnamdbnnijfniaaW.PrintWords Go.Proofs.YtnamdbnnijfniaaW.PrintLast

theorem FnExactWage : laws_FnExactWage.Pure2 := by
  intro n l ⟨a, b, c, d⟩ rate hq _ _ _
  refine Ev.rounds ?_
  unfold laws_FnExactWage.f
  by_cases h0 : (l.length : Int) > 1048576
  · simpa [h0] using Ev.now true
  have hl : l.length ≤ 1048576 := by omega
  simp only [h0, if_false, sz_tasks n 1048576 (by omega) (by omega) hq.1, Option.bind_some, laws_toRule.f]
  by_cases h : (1048576 : Int) < n.length
  · simpa [h] using Ev.now true
  · have hn : n.length ≤ 1048576 := by omega
    have hm : (n.map unt).length ≤ 1048576 := by simpa using hn
    simp only [h, if_false, show ¬ ((1048576 : Int) - n.length < 0) by omega]
    refine Ev.bind (to_tasks n hn) (Ev.bind (to_ints l hl) (Ev.bind (spec_wage_all _ l a b c d rate hm hl) ?_))
    refine Ev.bind (to_tasks n hn) (Ev.bind (to_ints l hl) (Ev.bind (impl_wage_all _ l a b c d rate hm hl) ?_))
    simp only [if_true]
    refine Ev.bind (to_tasks n hn) (Ev.bind (eq_tasks _ hm) ?_)
    simp only [if_true]
    refine Ev.bind (to_ints l hl) (Ev.bind (eq_ints l hl) ?_)
    simpa using Ev.now true
end Go.Proofs.Ytnamdbnnijfniaa.Pure
