/- A booking taken out: the program's row is the reference's. -/
import Derived.Test.YtklikbjlfaednaaH2u
namespace Go.Proofs.Ytklikbjlfaednaa.Pure
open Go.RowKit Go.Proofs.Ytklikbjlfaednaa.P Go.Proofs.YtklikbjlfaednaaW.PrintWords Go.Proofs.YtklikbjlfaednaaW.PrintLast
set_option linter.unusedVariables false

theorem rm_del (id : Int) : ∀ (l : List S66), (l.Pairwise fun p q => p.f0 < q.f0) → impl_Unbook.l0 l id = delV l id ∧ decide (0 ≤ impl_Unbook.l1 l id) = hasId l id
  | [], _ => ⟨rfl, rfl⟩
  | o :: t, hp => by
    have hpc := List.pairwise_cons.1 hp
    obtain ⟨ih1, ih2⟩ := rm_del id t hpc.2
    unfold impl_Unbook.l0 impl_Unbook.l1 at ih1
    unfold impl_Unbook.l0
    unfold impl_Unbook.l1 at ih2
    unfold delV at ih1
    unfold hasId at ih2
    unfold impl_Unbook.l1 delV hasId
    rw [List.findIdx_cons, List.filter_cons, List.any_cons, List.length_cons]
    by_cases c : o.f0 = id
    · have e1 : (o.f0 == id) = true := by simpa using c
      have e2 : t.filter (fun x => !decide (x.f0 = id)) = t := by
        rw [List.filter_eq_self]
        intro x hx
        have := hpc.1 x hx
        simp; omega
      rw [e1, decide_eq_true c, e2]
      simp
    · have e1 : (o.f0 == id) = false := by simpa using c
      rw [e1, decide_eq_false c]
      simp only [cond_false, Bool.not_false, if_true, Bool.false_or]
      by_cases d : t.findIdx (fun o => o.f0 == id) < t.length
      · rw [if_pos d, if_neg (by omega), Int.toNat_natCast] at ih1
        rw [if_pos d] at ih2
        have d1 : t.findIdx (fun o => o.f0 == id) + 1 < t.length + 1 := by omega
        have d2 : ¬ ((t.findIdx (fun o => o.f0 == id) + 1 : Nat) : Int) < 0 := by omega
        simp only [if_pos d1, if_neg d2, Int.toNat_natCast, List.eraseIdx_cons_succ, ih1]
        refine ⟨trivial, ?_⟩
        rw [← ih2, decide_eq_true (by omega), decide_eq_true (by omega)]
      · rw [if_neg d, if_pos (by decide)] at ih1
        rw [if_neg d] at ih2
        have d1 : ¬ t.findIdx (fun o => o.f0 == id) + 1 < t.length + 1 := by omega
        simp only [if_neg d1, ← ih1]
        exact ⟨by rw [if_pos (by decide)], ih2⟩
theorem impl_unbook (a b : Int) (l : List S66) (id : Int) (h : l.length ≤ 1048576) : impl_Unbook.f a b l id = some (a, b, (unbookV a b l id).1, (unbookV a b l id).2) := by
  unfold impl_Unbook.f unbookV
  rw [if_pos (by omega), trains_same]
  by_cases ht : trainV a b l = true
  · obtain ⟨h1, h2⟩ := rm_del id l (((train_iff a b l).1 ht).order.imp fun q => q.1)
    rw [if_pos ht, if_pos ht, ht, h1, h2]
    rfl
  · rw [if_neg ht, if_neg ht, Bool.eq_false_iff.2 ht]
    rfl
theorem del_len (l : List S66) (id : Int) : (delV l id).length ≤ l.length := List.length_filter_le _ _
theorem unbook_len (a b : Int) (l : List S66) (id : Int) : (unbookV a b l id).1.length ≤ l.length := by
  unfold unbookV
  split
  · exact del_len l id
  · exact Nat.le_refl _
end Go.Proofs.Ytklikbjlfaednaa.Pure
