/- The law FnExactStretched, over lists and numbers alone: program and reference tell the same longest stretch. -/
import Derived.Test.YtnamdbnnijfniaaQFnExactStretched
import Derived.Test.YtnamdbnnijfniaaR2
namespace Go.Proofs.Ytnamdbnnijfniaa.Pure
open Go.RowKit Go.Proofs.Ytnamdbnnijfniaa.P Go.Proofs.YtnamdbnnijfniaaW.PrintWords Go.Proofs.YtnamdbnnijfniaaW.PrintLast

theorem FnExactStretched : laws_FnExactStretched.Pure2 := by
  intro n l rest hq _ _ 
  refine Ev.rounds ?_
  unfold laws_FnExactStretched.f
  by_cases h0 : (l.length : Int) > 1048576
  · simpa [h0] using Ev.now true
  have hl : l.length ≤ 1048576 := by omega
  simp only [h0, if_false, sz_tasks n 1048576 (by omega) (by omega) hq.1, Option.bind_some]
  by_cases h : (1048576 : Int) < n.length
  · simpa [h] using Ev.now true
  · have hn : n.length ≤ 1048576 := by omega
    have hm : (n.map unt).length ≤ 1048576 := by simpa using hn
    simp only [h, if_false, show ¬ ((1048576 : Int) - n.length < 0) by omega]
    refine Ev.bind (to_tasks n hn) (Ev.bind (to_ints l hl) ?_)
    refine Ev.bind (spec_stretched_all _ l rest hm hl) ?_
    refine Ev.bind (to_tasks n hn) (Ev.bind (to_ints l hl) ?_)
    refine Ev.bind (impl_stretched_all _ l rest hm hl) ?_
    simp only [if_true]
    refine Ev.bind (to_tasks n hn) (Ev.bind (eq_tasks _ hm) ?_)
    simp only [if_true]
    refine Ev.bind (to_ints l hl) (Ev.bind (eq_ints l hl) ?_)
    simpa using Ev.now true
end Go.Proofs.Ytnamdbnnijfniaa.Pure
