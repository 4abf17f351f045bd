/- The first booking of a number taken out: it is the only one. -/
import Derived.Test.YtklikbjlfaednaaH2a
namespace Go.Proofs.Ytklikbjlfaednaa.Pure
open Go.RowKit Go.Proofs.Ytklikbjlfaednaa.P Go.Proofs.YtklikbjlfaednaaW.PrintWords Go.Proofs.YtklikbjlfaednaaW.PrintLast
set_option linter.unusedVariables false

theorem idx_has (l : List S66) (id : Int) : decide (0 ≤ impl_Unbook.l1 l id) = hasId l id := by
  unfold impl_Unbook.l1
  by_cases h : l.findIdx (fun o => o.f0 == id) < l.length
  · obtain ⟨o, ho, e⟩ := List.findIdx_lt_length.1 h
    rw [if_pos h, decide_eq_true (by omega), hasId_iff.2 ⟨o, ho, by simpa using e⟩]
  · rw [if_neg h, decide_eq_false (by decide)]
    cases hh : hasId l id with
    | false => rfl
    | true =>
      obtain ⟨o, ho, e⟩ := hasId_iff.1 hh
      exact absurd (List.findIdx_lt_length.2 ⟨o, ho, by simpa using e⟩) h
end Go.Proofs.Ytklikbjlfaednaa.Pure
