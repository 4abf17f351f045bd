/- The seats that are free: reference and program tell the same row. -/
import Derived.Test.YtklikbjlfaednaaG5a
namespace Go.Proofs.Ytklikbjlfaednaa.Pure
open Go.RowKit Go.Proofs.Ytklikbjlfaednaa.P Go.Proofs.YtklikbjlfaednaaW.PrintWords Go.Proofs.YtklikbjlfaednaaW.PrintLast

def freeV (a b : Int) (l : List S66) (x y : Int) : List Int := if trainV a b l && rideB b x y then impl_Train_freeSeats.l1 l a.toNat x.toNat y.toNat else []
theorem free_snoc (l : List S66) (n on off : Nat) : impl_Train_freeSeats.l1 l (n + 1) on off = if impl_Train_freeSeats.l0 l on off n = true then impl_Train_freeSeats.l1 l n on off else impl_Train_freeSeats.l1 l n on off ++ [(n : Int)] := by
  unfold impl_Train_freeSeats.l1
  rw [List.range_succ, List.filter_append, List.map_append]
  cases h : impl_Train_freeSeats.l0 l on off n <;> simp [h]
theorem free_len (l : List S66) (n on off : Nat) : (impl_Train_freeSeats.l1 l n on off).length ≤ n := by
  unfold impl_Train_freeSeats.l1
  rw [List.length_map]
  exact Nat.le_trans (List.length_filter_le _ _) (by simp)
theorem spec_pieces (a b : Int) (l : List S66) (h : trainV a b l = true) (x y s : Nat) (hs : s < 1000) (hy : y ≤ 11) (acc r : List Int) (hacc : acc.length ≤ 1000)
    (hr : Ev (fun k => spec_FreeSeats.l0 k x y (if impl_Train_freeSeats.l0 l x y s = true then acc else acc ++ [(s : Int)]) ((s + 1 : Nat) : Int) a b l) r) :
    ∀ p, p ≤ y → ∀ fl : Bool, (fl && !((List.range' p (y - p)).any fun q => l.any (impl_TrainOk.l4 s q))) = !(impl_Train_freeSeats.l0 l x y s) → Ev (fun k => spec_FreeSeats.l1 k x y acc s fl p a b l) r := by
  have hw : wrap64 ((s : Int) + 1) = ((s + 1 : Nat) : Int) := w64s (show s < s + 1 by omega) (by omega)
  refine down y (fun fl hfl => ?_) (fun p hp ih fl hfl => ?_)
  · rw [Nat.sub_self, List.range'_zero, List.any_nil, Bool.not_false, Bool.and_true] at hfl
    have f1 : ¬ ((y : Int) < y) := Int.lt_irrefl _
    have f2 : acc.length < 17592186044416 := by clear hw; omega
    refine ev_at hr (fun k => ?_)
    rw [hfl]
    simp only [spec_FreeSeats.l1, if_neg f1, hw, if_pos f2]
    cases impl_Train_freeSeats.l0 l x y s <;> rfl
  · have hwp : wrap64 ((p : Int) + 1) = ((p + 1 : Nat) : Int) := w64s (show p < p + 1 by clear hw; omega) (by clear hw; omega)
    have f1 : (p : Int) < y := by clear hw hwp; omega
    have e : List.range' p (y - p) = p :: List.range' (p + 1) (y - (p + 1)) := by
      rw [show y - p = (y - (p + 1)) + 1 by clear hw hwp; omega, List.range'_succ]
    rw [e, List.any_cons] at hfl
    refine ev_at (f := fun k => (spec_l14Free.f k a b l s p).bind fun t => if t = true then spec_FreeSeats.l1 k x y acc s fl ((p + 1 : Nat) : Int) a b l else spec_FreeSeats.l1 k x y acc s false ((p + 1 : Nat) : Int) a b l) ?_ (fun k => by simp only [spec_FreeSeats.l1, if_pos f1, hwp])
    refine Ev.bind (spec_one a b l h s p) ?_
    cases hc : l.any (impl_TrainOk.l4 s p)
    · rw [hc, Bool.false_or] at hfl
      simp only [Bool.not_false, if_true]
      exact ih fl hfl
    · rw [hc, Bool.true_or, Bool.not_true, Bool.and_false] at hfl
      simp only [Bool.not_true, Bool.false_eq_true, if_false]
      exact ih false (by rw [Bool.false_and]; exact hfl)
theorem spec_free (a b : Int) (l : List S66) (x y : Int) (h : l.length ≤ 1048576) : Ev (fun k => spec_FreeSeats.f k a b l x y) (freeV a b l x y) := by
  unfold spec_FreeSeats.f freeV
  refine Ev.bind (spec_asked a b l x y h) ?_
  cases hc : (trainV a b l && rideB b x y)
  · simpa using Ev.now _
  · simp only [if_true]
    rw [Bool.and_eq_true] at hc
    obtain ⟨ht, hr⟩ := hc
    obtain ⟨r0, r1, r2⟩ := of_decide_eq_true hr
    have hp := train_parts ht
    obtain ⟨n, rfl⟩ : ∃ m : Nat, a = (m : Int) := ⟨a.toNat, by omega⟩
    obtain ⟨on, rfl⟩ : ∃ m : Nat, x = (m : Int) := ⟨x.toNat, by omega⟩
    obtain ⟨off, rfl⟩ : ∃ m : Nat, y = (m : Int) := ⟨y.toNat, by omega⟩
    simp only [Int.toNat_natCast]
    have key : ∀ s, s ≤ n → Ev (fun k => spec_FreeSeats.l0 k on off (impl_Train_freeSeats.l1 l s on off) (s : Int) (n : Int) b l) (impl_Train_freeSeats.l1 l n on off) := by
      refine down n (ev_some (fun k => by simp [spec_FreeSeats.l0])) (fun s hs ih => ?_)
      rw [free_snoc] at ih
      have := spec_pieces (n : Int) b l ht on off s (by omega) (by omega) _ _ (Nat.le_trans (free_len l s on off) (by omega)) ih on (by omega) true (by unfold impl_Train_freeSeats.l0; rw [Bool.true_and])
      exact ev_at this (fun k => by simp [spec_FreeSeats.l0, show (s : Int) < n by omega])
    exact key 0 (Nat.zero_le _)

end Go.Proofs.Ytklikbjlfaednaa.Pure
