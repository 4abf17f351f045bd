/- The law FnExactLatest, over lists and numbers alone: program and reference tell the same latest minute. -/
import Derived.Test.YtdpjoblnjjkbfaaQFnExactLatest
import Derived.Test.YtdpjoblnjjkbfaaV10
namespace Go.Proofs.Ytdpjoblnjjkbfaa.Pure
open Go.RowKit Go.Proofs.Ytdpjoblnjjkbfaa.P Go.Proofs.YtdpjoblnjjkbfaaW.PrintWords Go.Proofs.YtdpjoblnjjkbfaaW.PrintLast

theorem FnExactLatest : laws_FnExactLatest.Pure2 := by
  intro l a1 a2 a3 a4 a5 hl _ _ _ _ _
  refine Ev.rounds ?_
  unfold laws_FnExactLatest.f
  obtain ⟨z, hz, hs⟩ := sz_trips l ⟨hl.1, fun e he => ⟨(hl.2 e he).1, (hl.2 e he).2.1⟩⟩
  refine Ev.bind hz ?_
  by_cases c : z < 0
  · simpa [c] using Ev.now true
  · simp only [c, if_false]
    have hS := hs (by omega)
    have hF := fit_of l hS (fun e he => (hl.2 e he).1)
    refine Ev.bind (to_trips l hS) (Ev.bind (spec_latest _ hF a1 a2 a3 a4 a5) (Ev.bind (to_trips l hS) (Ev.bind (impl_latest _ hF a1 a2 a3 a4 a5) ?_)))
    simp only [if_true]
    refine Ev.bind (to_trips l hS) (Ev.bind (eq_trips _ hF.1 (fun t ht => (hF.2 t ht).2)) ?_)
    simpa using Ev.now true
end Go.Proofs.Ytdpjoblnjjkbfaa.Pure
