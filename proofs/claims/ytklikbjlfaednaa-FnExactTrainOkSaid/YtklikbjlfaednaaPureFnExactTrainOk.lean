/- The law FnExactTrainOk, over lists and numbers alone: program and reference tell the same of all trains. -/
import Derived.Test.YtklikbjlfaednaaQFnExactTrainOk
import Derived.Test.YtklikbjlfaednaaG2
namespace Go.Proofs.Ytklikbjlfaednaa.Pure
open Go.RowKit Go.Proofs.Ytklikbjlfaednaa.P Go.Proofs.YtklikbjlfaednaaW.PrintWords Go.Proofs.YtklikbjlfaednaaW.PrintLast

theorem FnExactTrainOk : laws_FnExactTrainOk.Pure2 := by
  intro ⟨a, b, l⟩ hq
  have hl : l.length ≤ maxLen := hq.2.2.1
  refine Ev.rounds ?_
  unfold laws_FnExactTrainOk.f
  simp only [sz_train a b l 1048576 (by omega) (by omega) hl, Option.bind_some]
  by_cases h : (1048576 : Int) < l.length
  · simpa [h] using Ev.now true
  · have hn : l.length ≤ 1048576 := by omega
    have hm : (l.map unb).length ≤ 1048576 := by simpa using hn
    simp only [h, if_false, show ¬ ((1048576 : Int) - l.length < 0) by omega]
    refine Ev.bind (to_train a b l hn) (Ev.bind (spec_train a b _ hm) (Ev.bind (to_train a b l hn) ?_))
    simp only [impl_TrainOk.f, Option.bind_some, trains_same, bne_self_eq_false, Bool.false_eq_true, if_false]
    refine Ev.bind (to_train a b l hn) (Ev.bind (eq_train a b _ hm) ?_)
    simpa using Ev.now true
end Go.Proofs.Ytklikbjlfaednaa.Pure
