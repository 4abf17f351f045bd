/- The law FnExactFleet, over lists and numbers alone: program and reference need the same number of units. -/
import Derived.Test.YtoalolbifakpiaaQFnExactFleet
import Derived.Test.YtoalolbifakpiaaC15
namespace Go.Proofs.Ytoalolbifakpiaa.Pure
open Go.RowKit Go.Proofs.Ytoalolbifakpiaa.P Go.Proofs.YtoalolbifakpiaaW.PrintWords Go.Proofs.YtoalolbifakpiaaW.PrintLast

theorem FnExactFleet : laws_FnExactFleet.Pure2 := by
  intro l turn hl _
  refine Ev.rounds ?_
  unfold laws_FnExactFleet.f
  simp only [sz_tasks l 1048576 (by omega) (by omega) hl.1, Option.bind_some]
  by_cases h : (1048576 : Int) < l.length
  · simpa [h] using Ev.now true
  · have hn : l.length ≤ 1048576 := by omega
    have hm : (l.map unt).length ≤ 1048576 := by simpa using hn
    simp only [h, if_false, show ¬ ((1048576 : Int) - l.length < 0) by omega]
    obtain ⟨v, hs, hi⟩ := fleet_both (l.map unt) turn hm
    refine Ev.bind (to_tasks l hn) (Ev.bind hs (Ev.bind (to_tasks l hn) (Ev.bind hi ?_)))
    simp only [if_true]
    refine Ev.bind (to_tasks l hn) (Ev.bind (eq_tasks _ hm) ?_)
    simpa using Ev.now true
end Go.Proofs.Ytoalolbifakpiaa.Pure
