/- The law FnExactThrough, over lists and numbers alone: program and reference tell the same price of a ticket through. -/
import Derived.Test.YtcihaeggjfpacaaQFnExactThrough
import Derived.Test.YtcihaeggjfpacaaA5
namespace Go.Proofs.Ytcihaeggjfpacaa.Pure
open Go.RowKit Go.Proofs.Ytcihaeggjfpacaa.P Go.Proofs.YtcihaeggjfpacaaW.PrintWords Go.Proofs.YtcihaeggjfpacaaW.PrintLast

theorem FnExactThrough : laws_FnExactThrough.Pure2 := by
  intro ⟨b, s, j, r⟩ stops cards minute hq _ hc _
  have hj : j.length ≤ maxLen := hq.2.2.1.1
  refine Ev.rounds ?_
  unfold laws_FnExactThrough.f
  by_cases h0 : (stops.length : Int) > 1048576
  · simpa [h0] using Ev.now true
  have hs : stops.length ≤ 1048576 := by omega
  simp only [h0, if_false, sz_tariff b s j r 1048576 (by omega) (by omega) hj, Option.bind_some]
  by_cases h : (1048576 : Int) < j.length
  · simpa [h] using Ev.now true
  · have hn : j.length ≤ 1048576 := by omega
    simp only [h, if_false, show ¬ ((1048576 : Int) - j.length < 0) by omega, sz_cards cards _ (show 0 ≤ (1048576 : Int) - j.length by omega) (by omega) hc.1, Option.bind_some]
    by_cases h2 : (1048576 : Int) - j.length < cards.length
    · simpa [h2] using Ev.now true
    · have hk : cards.length ≤ 1048576 := by omega
      have hm : (cards.map unc).length ≤ 1048576 := by simpa using hk
      simp only [h2, if_false, show ¬ ((1048576 : Int) - j.length - cards.length < 0) by omega]
      refine Ev.bind (to_tariff b s j r hn) (Ev.bind (to_ints stops hs) (Ev.bind (to_cards cards hk) (Ev.bind (spec_through b s j r stops _ minute hn hm hs) ?_)))
      refine Ev.bind (to_tariff b s j r hn) (Ev.bind (to_ints stops hs) (Ev.bind (to_cards cards hk) (Ev.bind (impl_through b s j r stops _ minute hn hm hs) ?_)))
      simp only [if_true]
      refine Ev.bind (to_tariff b s j r hn) (Ev.bind (eq_tariff b s j r hn) ?_)
      simp only [if_true]
      refine Ev.bind (to_ints stops hs) (Ev.bind (eq_ints stops hs) ?_)
      simp only [if_true]
      refine Ev.bind (to_cards cards hk) (Ev.bind (eq_cards _ hm) ?_)
      simpa using Ev.now true
end Go.Proofs.Ytcihaeggjfpacaa.Pure
