/- A ride on a train: asked for, and a seat free on a piece. -/
import Derived.Test.YtklikbjlfaednaaG2t
namespace Go.Proofs.Ytklikbjlfaednaa.Pure
open Go.RowKit Go.Proofs.Ytklikbjlfaednaa.P Go.Proofs.YtklikbjlfaednaaW.PrintWords Go.Proofs.YtklikbjlfaednaaW.PrintLast

def rideB (b x y : Int) : Bool := decide (0 ≤ x ∧ x < y ∧ y ≤ b)
theorem ride_f (a b : Int) (l : List S66) (on off : Int) : impl_Train_ride.f a b l on off = some (rideB b on off) := by
  unfold impl_Train_ride.f rideB
  by_cases h : 0 ≤ on
  · rw [if_pos h]
    by_cases h2 : on < off
    · rw [if_pos h2]; simp [h, h2]
    · rw [if_neg h2]; simp [h2]
  · rw [if_neg h]; simp [h]
theorem train_parts {a b : Int} {l : List S66} (h : trainV a b l = true) : (1 ≤ a ∧ a ≤ 60) ∧ (1 ≤ b ∧ b ≤ 11) ∧ l.length ≤ 200 ∧ ∀ i, i < l.length → 1 ≤ (rd_T66 l (i : Int)).f3 ∧ (rd_T66 l (i : Int)).f3 ≤ b := by
  unfold trainV at h
  simp only [Bool.and_eq_true, inB_iff, decide_eq_true_eq, List.all_eq_true, List.mem_range] at h
  refine ⟨h.1.1.1, h.1.1.2, h.1.2, fun i hi => ?_⟩
  have := h.2 i hi
  unfold sOk chk at this
  simp only [Bool.and_eq_true, inB_iff] at this
  exact this.1.1.2
theorem spec_asked (a b : Int) (l : List S66) (x y : Int) (h : l.length ≤ 1048576) : Ev (fun k => spec_l14Asked.f k a b l x y) (trainV a b l && rideB b x y) := by
  unfold spec_l14Asked.f
  refine Ev.bind (spec_train a b l h) ?_
  cases ht : trainV a b l
  · simpa using Ev.now _
  · have hb := (train_parts ht).2.1
    simp only [if_true, l01In, Option.bind_some, Bool.true_and]
    cases hy : inB y 1 b
    · have : rideB b x y = false := by
        unfold rideB
        rw [decide_eq_false_iff_not]
        intro hh
        have := inB_iff.2 (show 1 ≤ y ∧ y ≤ b by omega)
        rw [hy] at this
        cases this
      rw [this]
      simpa using Ev.now _
    · have hy2 := inB_iff.1 hy
      rw [w64 (by omega) (by omega)]
      have : inB x 0 (y - 1) = rideB b x y := by
        rw [Bool.eq_iff_iff, inB_iff]
        unfold rideB
        rw [decide_eq_true_eq]
        omega
      rw [this]
      simpa using Ev.now _
theorem spec_one (a b : Int) (l : List S66) (h : trainV a b l = true) (s p : Nat) : Ev (fun k => spec_l14Free.f k a b l s p) (!(l.any (impl_TrainOk.l4 s p))) := by
  have hp := train_parts h
  have key : ∀ i, i ≤ l.length → Ev (fun k => spec_l14Free.l0 k s p (i : Int) a b l) (!((l.drop i).any (impl_TrainOk.l4 s p))) := by
    refine down l.length ?_ (fun i hi ih => ?_)
    · rw [List.drop_of_length_le (Nat.le_refl _)]
      exact ev_some (fun k => by simp [spec_l14Free.l0])
    · have hw := w64s hi (by omega)
      have hf := hp.2.2.2 i hi
      rw [drop_getD z66 l i hi, List.any_cons]
      have e : l.getD i z66 = rd_T66 l (i : Int) := by simp [rd_T66]
      rw [e]
      obtain ⟨o, ho⟩ : ∃ o, rd_T66 l (i : Int) = o := ⟨_, rfl⟩
      rw [ho] at hf ⊢
      have f1 : (i : Int) < l.length := by clear hw; omega
      have f2 : (0 : Int) ≤ i := by clear hw; omega
      have hv : wrap64 (o.f3 - 1) = o.f3 - 1 := w64 (by clear hw; omega) (by clear hw; omega)
      by_cases c1 : o.f1 = (s : Int)
      · by_cases c2 : inB (p : Int) o.f2 (o.f3 - 1) = true
        · have hc := inB_iff.1 c2
          have : impl_TrainOk.l4 s p o = true := by
            unfold impl_TrainOk.l4
            simp only [Bool.and_eq_true, decide_eq_true_eq]
            refine ⟨⟨c1, hc.1⟩, by clear hw hv; omega⟩
          rw [this]
          simp only [Bool.true_or, Bool.not_true]
          exact ev_some (fun k => by simp only [spec_l14Free.l0, if_pos f1, if_pos f2, ho, if_pos c1, l01In, hv, Option.bind_some, c2, if_true])
        · have : impl_TrainOk.l4 s p o = false := by
            unfold impl_TrainOk.l4
            rw [Bool.not_eq_true] at c2
            rw [Bool.eq_false_iff]
            intro hh
            simp only [Bool.and_eq_true, decide_eq_true_eq] at hh
            have := inB_iff.2 (show o.f2 ≤ (p : Int) ∧ (p : Int) ≤ o.f3 - 1 by clear hw hv; omega)
            rw [c2] at this
            cases this
          rw [this, Bool.false_or]
          exact ev_at ih (fun k => by simp only [spec_l14Free.l0, if_pos f1, if_pos f2, ho, if_pos c1, l01In, hv, Option.bind_some, c2, Bool.false_eq_true, if_false, hw])
      · have : impl_TrainOk.l4 s p o = false := by
          unfold impl_TrainOk.l4
          rw [decide_eq_false c1]
          rfl
        rw [this, Bool.false_or]
        exact ev_at ih (fun k => by simp only [spec_l14Free.l0, if_pos f1, if_pos f2, ho, if_neg c1, hw])
  exact key 0 (Nat.zero_le _)
end Go.Proofs.Ytklikbjlfaednaa.Pure
