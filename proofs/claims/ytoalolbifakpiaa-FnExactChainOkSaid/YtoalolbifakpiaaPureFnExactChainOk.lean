/- The law FnExactChainOk, over lists and numbers alone: program and reference tell the same of all tasks and units. -/
import Derived.Test.YtoalolbifakpiaaQFnExactChainOk
import Derived.Test.YtoalolbifakpiaaC8
import Derived.Test.YtoalolbifakpiaaI
namespace Go.Proofs.Ytoalolbifakpiaa.Pure
open Go.RowKit Go.Proofs.Ytoalolbifakpiaa.P Go.Proofs.YtoalolbifakpiaaW.PrintWords Go.Proofs.YtoalolbifakpiaaW.PrintLast

theorem FnExactChainOk : laws_FnExactChainOk.Pure2 := by
  intro l turn us hl _ hu
  refine Ev.rounds ?_
  unfold laws_FnExactChainOk.f
  by_cases h0 : (us.length : Int) > 1048576
  · simpa [h0] using Ev.now true
  have hs : us.length ≤ 1048576 := by omega
  simp only [h0, if_false, sz_tasks l 1048576 (by omega) (by omega) hl.1, Option.bind_some]
  by_cases h : (1048576 : Int) < l.length
  · simpa [h] using Ev.now true
  · have hn : l.length ≤ 1048576 := by omega
    have hm : (l.map unt).length ≤ 1048576 := by simpa using hn
    simp only [h, if_false, show ¬ ((1048576 : Int) - l.length < 0) by omega]
    refine Ev.bind (to_tasks l hn) (Ev.bind (to_ints us hs) (Ev.bind (spec_chainB _ turn us hm) (Ev.bind (to_tasks l hn) (Ev.bind (to_ints us hs) (Ev.bind (impl_chainB _ turn us hm) ?_)))))
    simp only [bne_self_eq_false, Bool.false_eq_true, if_false]
    refine Ev.bind (to_tasks l hn) (Ev.bind (eq_tasks _ hm) ?_)
    simp only [if_true]
    refine Ev.bind (to_ints us hs) (Ev.bind (eq_ints us hs) ?_)
    simpa using Ev.now true
end Go.Proofs.Ytoalolbifakpiaa.Pure
