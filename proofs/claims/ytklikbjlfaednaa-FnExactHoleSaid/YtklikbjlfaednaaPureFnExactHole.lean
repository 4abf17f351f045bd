/- The law FnExactHole, over lists and numbers alone. -/
import Derived.Test.YtklikbjlfaednaaQFnExactHole
import Derived.Test.YtklikbjlfaednaaG7
namespace Go.Proofs.Ytklikbjlfaednaa.Pure
open Go.RowKit Go.Proofs.Ytklikbjlfaednaa.P Go.Proofs.YtklikbjlfaednaaW.PrintWords Go.Proofs.YtklikbjlfaednaaW.PrintLast

theorem FnExactHole : laws_FnExactHole.Pure2 := by
  intro ⟨a, b, l⟩ v x y hq _ _ _
  have hl : l.length ≤ maxLen := hq.2.2.1
  refine Ev.rounds ?_
  unfold laws_FnExactHole.f
  simp only [sz_train a b l 1048576 (by omega) (by omega) hl, Option.bind_some]
  by_cases h : (1048576 : Int) < l.length
  · simpa [h] using Ev.now true
  · have hn : l.length ≤ 1048576 := by omega
    have hm : (l.map unb).length ≤ 1048576 := by simpa using hn
    simp only [h, if_false, show ¬ ((1048576 : Int) - l.length < 0) by omega]
    refine Ev.bind (to_train a b l hn) (Ev.bind (spec_holeV a b _ v x y hm) (Ev.bind (to_train a b l hn) (Ev.bind (impl_holeV a b _ v x y) ?_)))
    simp only [if_true]
    refine Ev.bind (to_train a b l hn) (Ev.bind (eq_train a b _ hm) ?_)
    simp only [if_true]
    exact Ev.now _
end Go.Proofs.Ytklikbjlfaednaa.Pure
