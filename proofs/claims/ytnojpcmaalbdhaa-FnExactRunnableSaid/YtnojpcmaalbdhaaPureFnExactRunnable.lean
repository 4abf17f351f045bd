/- The law FnExactRunnable, over lists and numbers alone: program and reference tell the same of all units. -/
import Derived.Test.YtnojpcmaalbdhaaQFnExactRunnable
import Derived.Test.YtnojpcmaalbdhaaU2
namespace Go.Proofs.Ytnojpcmaalbdhaa.Pure
open Go.RowKit Go.Proofs.Ytnojpcmaalbdhaa.P Go.Proofs.YtnojpcmaalbdhaaW.PrintWords Go.Proofs.YtnojpcmaalbdhaaW.PrintLast

theorem FnExactRunnable : laws_FnExactRunnable.Pure2 := by
  intro l hl
  refine Ev.rounds ?_
  unfold laws_FnExactRunnable.f
  simp only [sz_units l 1048576 (by omega) (by omega) hl.1, Option.bind_some]
  by_cases h : (1048576 : Int) < l.length
  · simpa [h] using Ev.now true
  · have hn : l.length ≤ 1048576 := by omega
    have hm : (l.map unU).length ≤ 1000000000 := by simp; omega
    simp only [h, if_false, show ¬ ((1048576 : Int) - l.length < 0) by omega]
    refine Ev.bind (to_units l hn) (Ev.bind (spec_run _ hm) (Ev.bind (to_units l hn) (Ev.bind (impl_run _) ?_)))
    simp only [bne_self_eq_false, Bool.false_eq_true, if_false]
    refine Ev.bind (to_units l hn) (Ev.bind (eq_units _ hm) ?_)
    simpa using Ev.now true
end Go.Proofs.Ytnojpcmaalbdhaa.Pure
