/- The law FnExactStockText, over lists and numbers alone: program and reference write the same text. -/
import Derived.Test.YtnojpcmaalbdhaaDoorQFnExactStockText
import Derived.Test.YtnojpcmaalbdhaaDoorX1
namespace Go.Proofs.YtnojpcmaalbdhaaDoor.Pure
open Go.RowKit Go.Proofs.YtnojpcmaalbdhaaDoor.P Go.Proofs.YtnojpcmaalbdhaaDoorW.PrintWords Go.Proofs.YtnojpcmaalbdhaaDoorW.PrintLast

theorem FnExactStockText : laws_FnExactStockText.Pure2 := by
  intro l hl
  refine Ev.rounds ?_
  unfold laws_FnExactStockText.f
  rw [sz_units l 1048576 (by decide) (by decide) hl.1]
  by_cases c : (1048576 : Int) < (l.length : Int)
  · simp only [c, if_true, Option.bind_some, show ((-1 : Int) < 0) = True from eq_true (by decide)]
    exact Ev.now true
  · simp only [c, if_false, Option.bind_some, show ¬ ((1048576 : Int) - (l.length : Int) < 0) by omega]
    have hL : l.length ≤ 1048576 := by omega
    refine Ev.bind (to_units l hL) (Ev.bind (spec_stock _) (Ev.bind (to_units l hL) (Ev.bind (impl_stock _) ?_)))
    simp only [if_true]
    refine Ev.bind (to_units l hL) (Ev.bind (eq_units _ (by rw [List.length_map]; omega)) ?_)
    simp only [if_true]
    exact Ev.now true
end Go.Proofs.YtnojpcmaalbdhaaDoor.Pure
