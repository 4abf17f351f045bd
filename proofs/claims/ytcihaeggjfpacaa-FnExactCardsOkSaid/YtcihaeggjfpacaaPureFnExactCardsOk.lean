/- The law FnExactCardsOk, over lists and numbers alone: program and reference tell the same of all cards. -/
import Derived.Test.YtcihaeggjfpacaaQFnExactCardsOk
import Derived.Test.YtcihaeggjfpacaaA2
namespace Go.Proofs.Ytcihaeggjfpacaa.Pure
open Go.RowKit Go.Proofs.Ytcihaeggjfpacaa.P Go.Proofs.YtcihaeggjfpacaaW.PrintWords Go.Proofs.YtcihaeggjfpacaaW.PrintLast

theorem FnExactCardsOk : laws_FnExactCardsOk.Pure2 := by
  intro l hl
  refine Ev.rounds ?_
  unfold laws_FnExactCardsOk.f
  rw [sz_cards l 1048576 (by omega) (by omega) hl.1]
  simp only [Option.bind_some]
  by_cases h : (1048576 : Int) < l.length
  · simpa [h] using Ev.now true
  · have hn : l.length ≤ 1048576 := by omega
    have hm : (l.map unc).length ≤ 1048576 := by simpa using hn
    simp only [h, if_false, show ¬ ((1048576 : Int) - l.length < 0) by omega]
    refine Ev.bind (to_cards l hn) (Ev.bind (spec_cards _ hm) (Ev.bind (to_cards l hn) (Ev.bind (impl_cards _ hm) ?_)))
    simp only [bne_self_eq_false, Bool.false_eq_true, if_false]
    refine Ev.bind (to_cards l hn) (Ev.bind (eq_cards _ hm) ?_)
    simpa using Ev.now true
end Go.Proofs.Ytcihaeggjfpacaa.Pure
