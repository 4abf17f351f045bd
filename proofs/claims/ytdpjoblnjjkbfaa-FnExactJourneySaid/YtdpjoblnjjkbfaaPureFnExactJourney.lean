/- The law FnExactJourney, over lists and numbers alone: program and reference tell the same legs. -/
import Derived.Test.YtdpjoblnjjkbfaaQFnExactJourney
import Derived.Test.YtdpjoblnjjkbfaaPV
namespace Go.Proofs.Ytdpjoblnjjkbfaa.Pure
open Go.RowKit Go.Proofs.Ytdpjoblnjjkbfaa.P Go.Proofs.YtdpjoblnjjkbfaaW.PrintWords Go.Proofs.YtdpjoblnjjkbfaaW.PrintLast

theorem FnExactJourney : laws_FnExactJourney.Pure2 := by
  intro l a1 a2 a3 a4 a5 hl _ _ _ _ _
  refine Ev.rounds ?_
  unfold laws_FnExactJourney.f
  obtain ⟨z, hz, hs⟩ := sz_trips l ⟨hl.1, fun e he => ⟨(hl.2 e he).1, (hl.2 e he).2.1⟩⟩
  refine Ev.bind hz ?_
  by_cases c : z < 0
  · simpa [c] using Ev.now true
  · simp only [c, if_false]
    have hS := hs (by omega)
    have hF := fit_of l hS (fun e he => (hl.2 e he).1)
    have hlen0 := jourB_len (l.map unT) a1 a2 a3 a4 a5
    have hlen : (jourB (l.map unT) a1 a2 a3 a4 a5).length ≤ 1048576 := by omega
    refine Ev.bind (to_trips l hS) (Ev.bind (spec_journey _ hF a1 a2 a3 a4 a5) (Ev.bind (to_trips l hS) (Ev.bind (impl_journey _ hF a1 a2 a3 a4 a5) (Ev.bind (eq_legs _ hlen) ?_))))
    simp only [if_true]
    refine Ev.bind (to_trips l hS) (Ev.bind (eq_trips _ hF.1 (fun t ht => (hF.2 t ht).2)) ?_)
    simp only [if_true]
    obtain ⟨m, hm0, hm⟩ := mark_trips _ hF
    refine Ev.bind hm ?_
    simp only [show ¬ m < 0 by omega, if_false]
    refine Ev.bind (eq_legs _ hlen) ?_
    refine Ev.step (f := fun k => (laws_markLegS.f k (jourB (l.map unT) a1 a2 a3 a4 a5) 1).bind fun bt => (laws_heldLegS.f k bt.2 1).bind fun t273 => if t273 < 0 then some false else if t273 = bt.1 then (laws_toTripS.f k l).bind fun t274 => (impl_Journey.f k t274 a1 a2 a3 a4 a5).bind fun t277 => (laws_eqLegS.f k t277 (jourB (l.map unT) a1 a2 a3 a4 a5)).bind fun t280 => if t280 = true then (laws_heldLegS.f k bt.2 1).bind fun t281 => (if t281 < 0 then (some false) else (if t281 = bt.1 then (some true) else (some false))) else some false else some false) (fun k => by simp [laws_FnExactJourney.j0]) ?_
    have hh := held_legs (jourB (l.map unT) a1 a2 a3 a4 a5).length (by omega)
    refine Ev.bind (mark_legs _ (by omega)) (Ev.bind hh ?_)
    simp only [show ¬ (1 + 3 * ((jourB (l.map unT) a1 a2 a3 a4 a5).length : Int) < 0) by omega, if_false, if_true]
    refine Ev.bind (to_trips l hS) (Ev.bind (impl_journey _ hF a1 a2 a3 a4 a5) (Ev.bind (eq_legs _ hlen) ?_))
    simp only [if_true]
    refine Ev.bind hh ?_
    simp only [show ¬ (1 + 3 * ((jourB (l.map unT) a1 a2 a3 a4 a5).length : Int) < 0) by omega, if_false, if_true]
    exact Ev.now true
end Go.Proofs.Ytdpjoblnjjkbfaa.Pure
