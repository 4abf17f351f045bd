/- The law FnExactFare, over lists and numbers alone: program and reference ask the same fare. -/
import Derived.Test.YtcihaeggjfpacaaQFnExactFare
import Derived.Test.YtcihaeggjfpacaaA4
namespace Go.Proofs.Ytcihaeggjfpacaa.Pure
open Go.RowKit Go.Proofs.Ytcihaeggjfpacaa.P Go.Proofs.YtcihaeggjfpacaaW.PrintWords Go.Proofs.YtcihaeggjfpacaaW.PrintLast

theorem FnExactFare : laws_FnExactFare.Pure2 := by
  intro ⟨b, s, j, r⟩ x y hq _ _
  have hj : j.length ≤ maxLen := hq.2.2.1.1
  refine Ev.rounds ?_
  unfold laws_FnExactFare.f
  simp only [sz_tariff b s j r 1048576 (by omega) (by omega) hj, Option.bind_some]
  by_cases h : (1048576 : Int) < j.length
  · simpa [h] using Ev.now true
  · have hn : j.length ≤ 1048576 := by omega
    simp only [h, if_false, show ¬ ((1048576 : Int) - j.length < 0) by omega]
    refine Ev.bind (to_tariff b s j r hn) (Ev.bind (spec_fare_all b s j r x y hn) (Ev.bind (to_tariff b s j r hn) (Ev.bind (impl_fare_all b s j r x y hn) ?_)))
    simp only [if_true]
    refine Ev.bind (to_tariff b s j r hn) (Ev.bind (eq_tariff b s j r hn) ?_)
    simpa using Ev.now true
end Go.Proofs.Ytcihaeggjfpacaa.Pure
