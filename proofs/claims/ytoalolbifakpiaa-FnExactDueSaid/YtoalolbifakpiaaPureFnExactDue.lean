/- The law FnExactDue, over lists and numbers alone: program and reference tell the same of all tasks. -/
import Derived.Test.YtoalolbifakpiaaQFnExactDue
import Derived.Test.YtoalolbifakpiaaC7
import Derived.Test.YtoalolbifakpiaaC4
namespace Go.Proofs.Ytoalolbifakpiaa.Pure
open Go.RowKit Go.Proofs.Ytoalolbifakpiaa.P Go.Proofs.YtoalolbifakpiaaW.PrintWords Go.Proofs.YtoalolbifakpiaaW.PrintLast

theorem FnExactDue : laws_FnExactDue.Pure2 := by
  intro l turn limit hl _ _
  refine Ev.rounds ?_
  unfold laws_FnExactDue.f
  simp only [sz_tasks l 1048576 (by omega) (by omega) hl.1, Option.bind_some]
  by_cases h : (1048576 : Int) < l.length
  · simpa [h] using Ev.now true
  · have hn : l.length ≤ 1048576 := by omega
    have hm : (l.map unt).length ≤ 1048576 := by simpa using hn
    simp only [h, if_false, show ¬ ((1048576 : Int) - l.length < 0) by omega]
    obtain ⟨out, ho, hs, hi⟩ := due_both (l.map unt) turn limit hm
    refine Ev.bind (to_tasks l hn) (Ev.bind hs (Ev.bind (to_tasks l hn) (Ev.bind hi (Ev.bind (eq_ints out ho) ?_))))
    simp only [if_true]
    refine Ev.bind (to_tasks l hn) (Ev.bind (eq_tasks _ hm) ?_)
    simp only [if_true]
    refine Ev.bind (mark_tasks _ 1 hm (by omega) (by omega)) ?_
    simp only [show ¬ ((1 : Int) + 5 * ((l.map unt).length : Int) < 0) by omega, if_false]
    refine Ev.bind (eq_ints out ho) ?_
    simp only [Bool.not_true]
    have held := held_ints out.length 1 ho (by omega) (by omega)
    refine ev_at (f := fun k => (laws_markIntS.f k out 1).bind fun b => (laws_heldIntS.f k b.2 1).bind fun t => if t < 0 then some false else if t = b.1 then (laws_toTaskS.f k l).bind fun t1 => (impl_Due.f k t1 turn limit).bind fun t2 => (laws_eqIntS.f k t2 out).bind fun t3 => if t3 = true then (laws_heldIntS.f k b.2 1).bind fun t4 => if t4 < 0 then some false else if t4 = b.1 then some true else some false else some false else some false) ?_ (fun k => by simp [laws_FnExactDue.j0])
    refine Ev.bind (mark_ints out 1 ho (by omega) (by omega)) (Ev.bind held ?_)
    simp only [if_true, show ¬ (1 + (out.length : Int) < 0) by omega, if_false]
    refine Ev.bind (to_tasks l hn) (Ev.bind hi (Ev.bind (eq_ints out ho) ?_))
    simp only [if_true]
    refine Ev.bind held ?_
    simp only [if_true, show ¬ (1 + (out.length : Int) < 0) by omega, if_false]
    exact Ev.now true
end Go.Proofs.Ytoalolbifakpiaa.Pure
