/- The seats that are free: reference and program tell the same row. -/
import Derived.Test.YtklikbjlfaednaaG2
namespace Go.Proofs.Ytklikbjlfaednaa.Pure
open Go.RowKit Go.Proofs.Ytklikbjlfaednaa.P Go.Proofs.YtklikbjlfaednaaW.PrintWords Go.Proofs.YtklikbjlfaednaaW.PrintLast

def rideB (b x y : Int) : Bool := decide (0 ≤ x ∧ x < y ∧ y ≤ b)
def freeV (a b : Int) (l : List S66) (x y : Int) : List Int := if trainV a b l && rideB b x y then impl_Train_freeSeats.l1 l a.toNat x.toNat y.toNat else []
theorem ride_f (a b : Int) (l : List S66) (on off : Int) : impl_Train_ride.f a b l on off = some (rideB b on off) := by
  unfold impl_Train_ride.f rideB
  by_cases h : 0 ≤ on
  · rw [if_pos h]
    by_cases h2 : on < off
    · rw [if_pos h2]; simp [h, h2]
    · rw [if_neg h2]; simp [h2]
  · rw [if_neg h]; simp [h]
theorem impl_free (a b : Int) (l : List S66) (x y : Int) : impl_FreeSeats.f a b l x y = some (freeV a b l x y) := by
  unfold impl_FreeSeats.f impl_TrainOk.f freeV
  rw [trains_same]
  simp only [Option.bind_some, ride_f]
  cases ht : trainV a b l
  · rfl
  · cases hr : rideB b x y
    · rfl
    · have h := of_decide_eq_true hr
      simp only [if_true, Bool.and_self]
      unfold impl_Train_freeSeats.f
      rw [trains_same, if_pos ⟨ht, h⟩]
      rfl
theorem train_parts {a b : Int} {l : List S66} (h : trainV a b l = true) : (1 ≤ a ∧ a ≤ 60) ∧ (1 ≤ b ∧ b ≤ 11) ∧ l.length ≤ 200 ∧ ∀ i, i < l.length → 1 ≤ (rd_T66 l (i : Int)).f3 ∧ (rd_T66 l (i : Int)).f3 ≤ b := by
  unfold trainV at h
  simp only [Bool.and_eq_true, inB_iff, decide_eq_true_eq, List.all_eq_true, List.mem_range] at h
  refine ⟨h.1.1.1, h.1.1.2, h.1.2, fun i hi => ?_⟩
  have := h.2 i hi
  unfold sOk chk at this
  simp only [Bool.and_eq_true, inB_iff] at this
  exact this.1.1.2
theorem spec_asked (a b : Int) (l : List S66) (x y : Int) (h : l.length ≤ 1048576) : Ev (fun k => spec_l14Asked.f k a b l x y) (trainV a b l && rideB b x y) := by
  unfold spec_l14Asked.f
  refine Ev.bind (spec_train a b l h) ?_
  cases ht : trainV a b l
  · simpa using Ev.now _
  · have hb := (train_parts ht).2.1
    simp only [if_true, l01In, Option.bind_some, Bool.true_and]
    cases hy : inB y 1 b
    · have : rideB b x y = false := by
        unfold rideB
        rw [decide_eq_false_iff_not]
        intro hh
        have := inB_iff.2 (show 1 ≤ y ∧ y ≤ b by omega)
        rw [hy] at this
        cases this
      rw [this]
      simpa using Ev.now _
    · have hy2 := inB_iff.1 hy
      rw [w64 (by omega) (by omega)]
      have : inB x 0 (y - 1) = rideB b x y := by
        rw [Bool.eq_iff_iff, inB_iff]
        unfold rideB
        rw [decide_eq_true_eq]
        omega
      rw [this]
      simpa using Ev.now _
theorem spec_one (a b : Int) (l : List S66) (h : trainV a b l = true) (s p : Nat) : Ev (fun k => spec_l14Free.f k a b l s p) (!(l.any (impl_TrainOk.l4 s p))) := by
  have hp := train_parts h
  have key : ∀ i, i ≤ l.length → Ev (fun k => spec_l14Free.l0 k s p (i : Int) a b l) (!((l.drop i).any (impl_TrainOk.l4 s p))) := by
    refine down l.length ?_ (fun i hi ih => ?_)
    · rw [List.drop_of_length_le (Nat.le_refl _)]
      exact ev_some (fun k => by simp [spec_l14Free.l0])
    · have hw := w64s hi (by omega)
      have hf := hp.2.2.2 i hi
      rw [drop_getD z66 l i hi, List.any_cons]
      have e : l.getD i z66 = rd_T66 l (i : Int) := by simp [rd_T66]
      rw [e]
      obtain ⟨o, ho⟩ : ∃ o, rd_T66 l (i : Int) = o := ⟨_, rfl⟩
      rw [ho] at hf ⊢
      have f1 : (i : Int) < l.length := by clear hw; omega
      have f2 : (0 : Int) ≤ i := by clear hw; omega
      have hv : wrap64 (o.f3 - 1) = o.f3 - 1 := w64 (by clear hw; omega) (by clear hw; omega)
      by_cases c1 : o.f1 = (s : Int)
      · by_cases c2 : inB (p : Int) o.f2 (o.f3 - 1) = true
        · have hc := inB_iff.1 c2
          have : impl_TrainOk.l4 s p o = true := by
            unfold impl_TrainOk.l4
            simp only [Bool.and_eq_true, decide_eq_true_eq]
            refine ⟨⟨c1, hc.1⟩, by clear hw hv; omega⟩
          rw [this]
          simp only [Bool.true_or, Bool.not_true]
          exact ev_some (fun k => by simp only [spec_l14Free.l0, if_pos f1, if_pos f2, ho, if_pos c1, l01In, hv, Option.bind_some, c2, if_true])
        · have : impl_TrainOk.l4 s p o = false := by
            unfold impl_TrainOk.l4
            rw [Bool.not_eq_true] at c2
            rw [Bool.eq_false_iff]
            intro hh
            simp only [Bool.and_eq_true, decide_eq_true_eq] at hh
            have := inB_iff.2 (show o.f2 ≤ (p : Int) ∧ (p : Int) ≤ o.f3 - 1 by clear hw hv; omega)
            rw [c2] at this
            cases this
          rw [this, Bool.false_or]
          exact ev_at ih (fun k => by simp only [spec_l14Free.l0, if_pos f1, if_pos f2, ho, if_pos c1, l01In, hv, Option.bind_some, c2, Bool.false_eq_true, if_false, hw])
      · have : impl_TrainOk.l4 s p o = false := by
          unfold impl_TrainOk.l4
          rw [decide_eq_false c1]
          rfl
        rw [this, Bool.false_or]
        exact ev_at ih (fun k => by simp only [spec_l14Free.l0, if_pos f1, if_pos f2, ho, if_neg c1, hw])
  exact key 0 (Nat.zero_le _)
theorem free_snoc (l : List S66) (n on off : Nat) : impl_Train_freeSeats.l1 l (n + 1) on off = if impl_Train_freeSeats.l0 l on off n = true then impl_Train_freeSeats.l1 l n on off else impl_Train_freeSeats.l1 l n on off ++ [(n : Int)] := by
  unfold impl_Train_freeSeats.l1
  rw [List.range_succ, List.filter_append, List.map_append]
  cases h : impl_Train_freeSeats.l0 l on off n <;> simp [h]
theorem free_len (l : List S66) (n on off : Nat) : (impl_Train_freeSeats.l1 l n on off).length ≤ n := by
  unfold impl_Train_freeSeats.l1
  rw [List.length_map]
  exact Nat.le_trans (List.length_filter_le _ _) (by simp)
theorem spec_pieces (a b : Int) (l : List S66) (h : trainV a b l = true) (x y s : Nat) (hs : s < 1000) (hy : y ≤ 11) (acc r : List Int) (hacc : acc.length ≤ 1000)
    (hr : Ev (fun k => spec_FreeSeats.l0 k x y (if impl_Train_freeSeats.l0 l x y s = true then acc else acc ++ [(s : Int)]) ((s + 1 : Nat) : Int) a b l) r) :
    ∀ p, p ≤ y → ∀ fl : Bool, (fl && !((List.range' p (y - p)).any fun q => l.any (impl_TrainOk.l4 s q))) = !(impl_Train_freeSeats.l0 l x y s) → Ev (fun k => spec_FreeSeats.l1 k x y acc s fl p a b l) r := by
  have hw : wrap64 ((s : Int) + 1) = ((s + 1 : Nat) : Int) := w64s (show s < s + 1 by omega) (by omega)
  refine down y (fun fl hfl => ?_) (fun p hp ih fl hfl => ?_)
  · rw [Nat.sub_self, List.range'_zero, List.any_nil, Bool.not_false, Bool.and_true] at hfl
    have f1 : ¬ ((y : Int) < y) := Int.lt_irrefl _
    have f2 : acc.length < 17592186044416 := by clear hw; omega
    refine ev_at hr (fun k => ?_)
    rw [hfl]
    simp only [spec_FreeSeats.l1, if_neg f1, hw, if_pos f2]
    cases impl_Train_freeSeats.l0 l x y s <;> rfl
  · have hwp : wrap64 ((p : Int) + 1) = ((p + 1 : Nat) : Int) := w64s (show p < p + 1 by clear hw; omega) (by clear hw; omega)
    have f1 : (p : Int) < y := by clear hw hwp; omega
    have e : List.range' p (y - p) = p :: List.range' (p + 1) (y - (p + 1)) := by
      rw [show y - p = (y - (p + 1)) + 1 by clear hw hwp; omega, List.range'_succ]
    rw [e, List.any_cons] at hfl
    refine ev_at (f := fun k => (spec_l14Free.f k a b l s p).bind fun t => if t = true then spec_FreeSeats.l1 k x y acc s fl ((p + 1 : Nat) : Int) a b l else spec_FreeSeats.l1 k x y acc s false ((p + 1 : Nat) : Int) a b l) ?_ (fun k => by simp only [spec_FreeSeats.l1, if_pos f1, hwp])
    refine Ev.bind (spec_one a b l h s p) ?_
    cases hc : l.any (impl_TrainOk.l4 s p)
    · rw [hc, Bool.false_or] at hfl
      simp only [Bool.not_false, if_true]
      exact ih fl hfl
    · rw [hc, Bool.true_or, Bool.not_true, Bool.and_false] at hfl
      simp only [Bool.not_true, Bool.false_eq_true, if_false]
      exact ih false (by rw [Bool.false_and]; exact hfl)
theorem spec_free (a b : Int) (l : List S66) (x y : Int) (h : l.length ≤ 1048576) : Ev (fun k => spec_FreeSeats.f k a b l x y) (freeV a b l x y) := by
  unfold spec_FreeSeats.f freeV
  refine Ev.bind (spec_asked a b l x y h) ?_
  cases hc : (trainV a b l && rideB b x y)
  · simpa using Ev.now _
  · simp only [if_true]
    rw [Bool.and_eq_true] at hc
    obtain ⟨ht, hr⟩ := hc
    obtain ⟨r0, r1, r2⟩ := of_decide_eq_true hr
    have hp := train_parts ht
    obtain ⟨n, rfl⟩ : ∃ m : Nat, a = (m : Int) := ⟨a.toNat, by omega⟩
    obtain ⟨on, rfl⟩ : ∃ m : Nat, x = (m : Int) := ⟨x.toNat, by omega⟩
    obtain ⟨off, rfl⟩ : ∃ m : Nat, y = (m : Int) := ⟨y.toNat, by omega⟩
    simp only [Int.toNat_natCast]
    have key : ∀ s, s ≤ n → Ev (fun k => spec_FreeSeats.l0 k on off (impl_Train_freeSeats.l1 l s on off) (s : Int) (n : Int) b l) (impl_Train_freeSeats.l1 l n on off) := by
      refine down n (ev_some (fun k => by simp [spec_FreeSeats.l0])) (fun s hs ih => ?_)
      rw [free_snoc] at ih
      have := spec_pieces (n : Int) b l ht on off s (by omega) (by omega) _ _ (Nat.le_trans (free_len l s on off) (by omega)) ih on (by omega) true (by unfold impl_Train_freeSeats.l0; rw [Bool.true_and])
      exact ev_at this (fun k => by simp [spec_FreeSeats.l0, show (s : Int) < n by omega])
    exact key 0 (Nat.zero_le _)

end Go.Proofs.Ytklikbjlfaednaa.Pure
