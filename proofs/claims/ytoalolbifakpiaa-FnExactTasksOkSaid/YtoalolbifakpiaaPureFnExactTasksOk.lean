/- The law FnExactTasksOk, over lists and numbers alone: program and reference tell the same of all tasks. -/
import Derived.Test.YtoalolbifakpiaaQFnExactTasksOk
import Derived.Test.YtoalolbifakpiaaT1
namespace Go.Proofs.Ytoalolbifakpiaa.Pure
open Go.RowKit Go.Proofs.Ytoalolbifakpiaa.P Go.Proofs.YtoalolbifakpiaaW.PrintWords Go.Proofs.YtoalolbifakpiaaW.PrintLast

theorem FnExactTasksOk : laws_FnExactTasksOk.Pure2 := by
  intro l hl
  refine Ev.rounds ?_
  unfold laws_FnExactTasksOk.f
  simp only [sz_tasks l 1048576 (by omega) (by omega) hl.1, Option.bind_some]
  by_cases h : (1048576 : Int) < l.length
  · simpa [h] using Ev.now true
  · have hn : l.length ≤ 1048576 := by omega
    have hm : (l.map unt).length ≤ 1048576 := by simpa using hn
    simp only [h, if_false, show ¬ ((1048576 : Int) - l.length < 0) by omega]
    refine Ev.bind (to_tasks l hn) (Ev.bind (spec_tasks _ hm) (Ev.bind (to_tasks l hn) (Ev.bind (impl_tasks _ hm) ?_)))
    simp only [bne_self_eq_false, Bool.false_eq_true, if_false]
    refine Ev.bind (to_tasks l hn) (Ev.bind (eq_tasks _ hm) ?_)
    simpa using Ev.now true
end Go.Proofs.Ytoalolbifakpiaa.Pure
