/- A booking taken out, by the reference. -/
import Derived.Test.YtklikbjlfaednaaH1
namespace Go.Proofs.Ytklikbjlfaednaa.Pure
open Go.RowKit Go.Proofs.Ytklikbjlfaednaa.P Go.Proofs.YtklikbjlfaednaaW.PrintWords Go.Proofs.YtklikbjlfaednaaW.PrintLast
set_option linter.unusedVariables false

theorem ev_then {α β : Type} {g : Nat → Option α} {r : α} (h : Ev g r) (F : α → β) : Ev (fun k => (g k).bind fun t => some (F t)) (F r) := Ev.bind h (Ev.now _)
def hasId (l : List S66) (id : Int) : Bool := l.any fun o => decide (o.f0 = id)
theorem hasId_iff {l : List S66} {id : Int} : hasId l id = true ↔ ∃ o, o ∈ l ∧ o.f0 = id := by
  unfold hasId
  rw [List.any_eq_true]
  constructor
  · rintro ⟨o, h, e⟩; exact ⟨o, h, of_decide_eq_true e⟩
  · rintro ⟨o, h, e⟩; exact ⟨o, h, decide_eq_true e⟩
theorem hasId_no {l : List S66} {id : Int} (h : hasId l id = false) : ∀ o, o ∈ l → o.f0 ≠ id := fun o ho e => by
  rw [hasId_iff.2 ⟨o, ho, e⟩] at h; cases h
def unbookV (a b : Int) (l : List S66) (id : Int) : List S66 × Bool := if trainV a b l = true then (delV l id, hasId l id) else (l, false)
theorem unbook_train {a b : Int} {l : List S66} (h : TrainP a b l) (id : Int) : TrainP a b (unbookV a b l id).1 := by
  unfold unbookV
  rw [if_pos ((train_iff a b l).2 h)]
  exact h.del id
theorem spec_unbook (a b : Int) (l : List S66) (id : Int) (h : l.length ≤ 1048576) : Ev (fun k => spec_Unbook.f k a b l id) (a, b, (unbookV a b l id).1, (unbookV a b l id).2) := by
  unfold spec_Unbook.f unbookV
  refine Ev.bind (spec_train a b l h) ?_
  by_cases ht : trainV a b l = true
  · rw [if_pos ht, ht]
    simp only [if_true]
    have key : ∀ i, i ≤ l.length → (∀ o, o ∈ l.take i → o.f0 ≠ id) → Ev (fun k => spec_Unbook.l0 k id (i : Int) a b l) (a, b, delV l id, hasId l id) := by
      refine down l.length ?_ ?_
      · intro hn
        rw [List.take_length] at hn
        have e : hasId l id = false := by
          cases hh : hasId l id with
          | false => rfl
          | true => obtain ⟨o, ho, e⟩ := hasId_iff.1 hh; exact absurd e (hn o ho)
        rw [del_same hn, e]
        refine ev_at (ev_then (spec_same a b l h) fun bt => (bt.1, bt.2.1, bt.2.2, false)) (fun k => ?_)
        simp only [spec_Unbook.l0, if_neg (Int.lt_irrefl _)]
      · intro i hi ih hn
        have f1 : (i : Int) < l.length := by omega
        have f2 : (0 : Int) ≤ i := by omega
        have hw := w64s hi (by omega)
        by_cases d : (rd_T66 l (i : Int)).f0 = id
        · have e : hasId l id = true := hasId_iff.2 ⟨l[i], List.getElem_mem hi, by rw [← rd_get l i hi]; exact d⟩
          rw [e]
          have hh := spec_held a b l id z66 h
          rw [show (z66.f0 == 0) = true from rfl, held_true] at hh
          refine ev_at (ev_then hh fun bt => (bt.1, bt.2.1, bt.2.2, true)) (fun k => ?_)
          simp only [spec_Unbook.l0, if_pos f1, if_pos f2, if_pos d]
          rfl
        · refine ev_at (ih ?_) (fun k => ?_)
          · intro o ho
            rw [List.take_succ_eq_append_getElem hi] at ho
            rcases List.mem_append.1 ho with ho | ho
            · exact hn o ho
            · rw [List.mem_singleton.1 ho, ← rd_get l i hi]; exact d
          · simp only [spec_Unbook.l0, if_pos f1, if_pos f2, if_neg d, hw]
    exact key 0 (Nat.zero_le _) (fun o ho => by simp at ho)
  · rw [if_neg ht, Bool.eq_false_iff.2 ht]
    simp only [Bool.false_eq_true, if_false]
    exact Ev.bind (spec_same a b l h) (Ev.now _)
end Go.Proofs.Ytklikbjlfaednaa.Pure
