/- Seats spread over a ride: reference and program tell the same row. -/
import Derived.Test.YtklikbjlfaednaaG5a
namespace Go.Proofs.Ytklikbjlfaednaa.Pure
open Go.RowKit Go.Proofs.Ytklikbjlfaednaa.P Go.Proofs.YtklikbjlfaednaaW.PrintWords Go.Proofs.YtklikbjlfaednaaW.PrintLast

def specB (b : Nat × Nat) : Int := if b.2 = 0 then -1 else b.1
theorem spec_run (n : Nat) (b : Int) (l : List S66) (h : trainV n b l = true) (off p s : Nat) (acc : List Int) (best : Int) (most : Nat) (hoff : off ≤ 11) (hs : s < 1000) (R : List Int)
    (hR : Ev (fun k => spec_Spread.l1 k off acc p (if most < impl_Spread.l0 l s (off - p) p then (s : Int) else best) ((if most < impl_Spread.l0 l s (off - p) p then impl_Spread.l0 l s (off - p) p else most : Nat) : Int) ((s + 1 : Nat) : Int) n b l) R) :
    ∀ d m : Nat, p + m + d = off → impl_Spread.l0 l s (off - p) p = m + impl_Spread.l0 l s d (p + m) → Ev (fun k => spec_Spread.l2 k off acc p best most s m n b l) R := by
  have hws : wrap64 ((s : Int) + 1) = ((s + 1 : Nat) : Int) := w64s (show s < s + 1 by omega) (by omega)
  have stop : ∀ m : Nat, impl_Spread.l0 l s (off - p) p = m → Ev (fun k => if (m : Int) > (most : Int) then spec_Spread.l1 k off acc p s m ((s + 1 : Nat) : Int) n b l else spec_Spread.l1 k off acc p best most ((s + 1 : Nat) : Int) n b l) R := by
    intro m hm
    rw [hm] at hR
    by_cases c : most < m
    · have c2 : (m : Int) > most := by clear hws; omega
      simp only [if_pos c] at hR
      simp only [if_pos c2]
      exact hR
    · have c2 : ¬ (m : Int) > most := by clear hws; omega
      simp only [if_neg c] at hR
      simp only [if_neg c2]
      exact hR
  intro d
  induction d with
  | zero =>
    intro m hd hr
    have hw : wrap64 ((p : Int) + m) = (p : Int) + m := w64 (by clear hws; omega) (by clear hws; omega)
    have f1 : ¬ ((p : Int) + m < off) := by clear hws hw; omega
    exact ev_at (stop m (by rw [hr, impl_Spread.l0, Nat.add_zero])) (fun k => by simp only [spec_Spread.l2, hw, if_neg f1, hws])
  | succ d ih =>
    intro m hd hr
    have hw : wrap64 ((p : Int) + m) = ((p + m : Nat) : Int) := by rw [w64 (by clear hws; omega) (by clear hws; omega)]; omega
    have hwm : wrap64 ((m : Int) + 1) = ((m + 1 : Nat) : Int) := w64s (show m < m + 1 by omega) (by clear hws hw; omega)
    have f1 : ((p + m : Nat) : Int) < off := by clear hws hw hwm; omega
    refine ev_at (f := fun k => (spec_l14Free.f k n b l s ((p + m : Nat) : Int)).bind fun t => if t = true then spec_Spread.l2 k off acc p best most s ((m + 1 : Nat) : Int) n b l else (if (m : Int) > (most : Int) then spec_Spread.l1 k off acc p s m ((s + 1 : Nat) : Int) n b l else spec_Spread.l1 k off acc p best most ((s + 1 : Nat) : Int) n b l)) ?_ (fun k => by simp only [spec_Spread.l2, hw, if_pos f1, hws, hwm])
    refine Ev.bind (spec_one n b l h s (p + m)) ?_
    cases hc : l.any (impl_TrainOk.l4 s (p + m))
    · simp only [Bool.not_false, if_true]
      refine ih (m + 1) (by clear hws hw hwm; omega) ?_
      rw [hr, impl_Spread.l0, hc, if_neg (by decide), ← Nat.add_assoc p m 1]
      clear hws hw hwm
      omega
    · simp only [Bool.not_true, Bool.false_eq_true, if_false]
      exact stop m (by rw [hr, impl_Spread.l0, hc, if_pos rfl, Nat.add_zero])
theorem spec_seats (n : Nat) (b : Int) (l : List S66) (h : trainV n b l = true) (off p : Nat) (acc : List Int) (hp : p ≤ off) (hoff : off ≤ 11) (hn : n ≤ 60) (R : List Int)
    (hR : Ev (fun k => spec_Spread.l1 k off acc p (specB (impl_Spread.l1 l p off n)) ((impl_Spread.l1 l p off n).2 : Int) n n b l) R) :
    ∀ s : Nat, s ≤ n → Ev (fun k => spec_Spread.l1 k off acc p (specB (impl_Spread.l1 l p off s)) ((impl_Spread.l1 l p off s).2 : Int) s n b l) R := by
  refine down n hR (fun s hs ih => ?_)
  have f1 : (s : Int) < n := by omega
  refine ev_at (f := fun k => spec_Spread.l2 k off acc p (specB (impl_Spread.l1 l p off s)) ((impl_Spread.l1 l p off s).2 : Int) s ((0 : Nat) : Int) n b l) ?_ (fun k => by simp only [spec_Spread.l1, if_pos f1]; rfl)
  refine spec_run n b l h off p s acc _ _ hoff (by omega) R ?_ (off - p) 0 (by omega) (by simp)
  by_cases c : (impl_Spread.l1 l p off s).2 < impl_Spread.l0 l s (off - p) p
  · simp only [impl_Spread.l1, if_pos c, specB, if_neg (show ¬ impl_Spread.l0 l s (off - p) p = 0 by omega)] at ih ⊢
    exact ih
  · simp only [impl_Spread.l1, if_neg c] at ih ⊢
    exact ih
theorem spec_app (n : Nat) (b : Int) (l : List S66) (off p most : Nat) (acc : List Int) (v : Int) (hp : p ≤ 11) (hm : most ≤ 11) (ha : acc.length ≤ 11) (R : List Int)
    (hR : Ev (fun k => spec_Spread.l0 k off (acc ++ List.replicate most v) ((p + most : Nat) : Int) n b l) R) :
    ∀ j : Nat, j ≤ most → Ev (fun k => spec_Spread.l3 k off (acc ++ List.replicate j v) p v most j n b l) R := by
  refine down most ?_ (fun j hj ih => ?_)
  · have hw : wrap64 ((p : Int) + most) = ((p + most : Nat) : Int) := by rw [w64 (by omega) (by omega)]; omega
    exact ev_at hR (fun k => by simp only [spec_Spread.l3, if_neg (Int.lt_irrefl _), hw])
  · have hw : wrap64 ((j : Int) + 1) = ((j + 1 : Nat) : Int) := w64s (show j < j + 1 by omega) (by omega)
    have f1 : (j : Int) < most := by clear hw; omega
    have f2 : (acc ++ List.replicate j v).length < 17592186044416 := by rw [List.length_append, List.length_replicate]; clear hw; omega
    rw [List.replicate_succ', ← List.append_assoc] at ih
    exact ev_at ih (fun k => by simp only [spec_Spread.l3, if_pos f1, if_pos f2, hw])
theorem sp0_le (l : List S66) (s : Nat) : ∀ d p, impl_Spread.l0 l s d p ≤ d
  | 0, _ => Nat.le_refl _
  | d + 1, p => by
    unfold impl_Spread.l0
    split
    · omega
    · have := sp0_le l s d (p + 1); omega
theorem sp1_le (l : List S66) (p off : Nat) : ∀ n, (impl_Spread.l1 l p off n).2 ≤ off - p
  | 0 => Nat.zero_le _
  | n + 1 => by
    unfold impl_Spread.l1
    split
    · exact sp0_le _ _ _ _
    · exact sp1_le l p off n
theorem spec_outer (n : Nat) (b : Int) (l : List S66) (h : trainV n b l = true) (off : Nat) (hoff : off ≤ 11) (hn : n ≤ 60) :
    ∀ (f p : Nat) (acc : List Int), p ≤ off → off - p ≤ f → acc.length ≤ p → Ev (fun k => spec_Spread.l0 k off acc p n b l) (impl_Spread.l2 l n off f p acc) := by
  intro f
  induction f with
  | zero =>
    intro p acc hp hf ha
    have f1 : ¬ (p : Int) < off := by omega
    exact ev_some (fun k => by simp only [spec_Spread.l0, if_neg f1]; rfl)
  | succ f ih =>
    intro p acc hp hf ha
    rw [impl_Spread.l2]
    by_cases c : p < off
    · have f1 : (p : Int) < off := by omega
      rw [if_pos c]
      refine ev_at (f := fun k => spec_Spread.l1 k off acc p (-1) 0 0 n b l) ?_ (fun k => by simp only [spec_Spread.l0, if_pos f1])
      refine spec_seats n b l h off p acc hp hoff hn _ ?_ 0 (Nat.zero_le _)
      have hle := sp1_le l p off n
      by_cases e : (impl_Spread.l1 l p off n).2 = 0
      · rw [if_pos e]
        exact ev_some (fun k => by simp [spec_Spread.l1, specB, e])
      · rw [if_neg e]
        have f2 : ¬ ((impl_Spread.l1 l p off n).1 : Int) < 0 := by omega
        have := spec_app n b l off p (impl_Spread.l1 l p off n).2 acc ((impl_Spread.l1 l p off n).1 : Int) (by omega) (by omega) (by omega) _ (ih (p + (impl_Spread.l1 l p off n).2) (acc ++ List.replicate (impl_Spread.l1 l p off n).2 ((impl_Spread.l1 l p off n).1 : Int)) (by omega) (by omega) (by rw [List.length_append, List.length_replicate]; omega)) 0 (Nat.zero_le _)
        rw [List.replicate_zero, List.append_nil] at this
        exact ev_at this (fun k => by simp only [spec_Spread.l1, if_neg (Int.lt_irrefl _), specB, if_neg e, if_neg f2]; rfl)
    · have f1 : ¬ (p : Int) < off := by omega
      rw [if_neg c]
      exact ev_some (fun k => by simp only [spec_Spread.l0, if_neg f1])
def spreadV (a b : Int) (l : List S66) (x y : Int) : List Int := if (trainV a b l && rideB b x y) = true then impl_Spread.l2 l a.toNat y.toNat (y.toNat - x.toNat) x.toNat [] else []
theorem impl_spread (a b : Int) (l : List S66) (x y : Int) : impl_Spread.f a b l x y = some (spreadV a b l x y) := by
  unfold impl_Spread.f spreadV
  rw [trains_same]
  have e : (trainV a b l = true ∧ 0 ≤ x ∧ x < y ∧ y ≤ b) ↔ (trainV a b l && rideB b x y) = true := by
    unfold rideB
    rw [Bool.and_eq_true, decide_eq_true_eq]
  by_cases h : (trainV a b l && rideB b x y) = true
  · rw [if_pos h, if_pos (e.2 h)]
  · rw [if_neg h, if_neg (fun hh => h (e.1 hh))]
theorem spec_spread (a b : Int) (l : List S66) (x y : Int) (h : l.length ≤ 1048576) : Ev (fun k => spec_Spread.f k a b l x y) (spreadV a b l x y) := by
  unfold spec_Spread.f spreadV
  refine Ev.bind (spec_asked a b l x y h) ?_
  cases hc : (trainV a b l && rideB b x y)
  · simpa using Ev.now _
  · simp only [if_true]
    rw [Bool.and_eq_true] at hc
    obtain ⟨ht, hr⟩ := hc
    obtain ⟨r0, r1, r2⟩ := of_decide_eq_true hr
    have hp := train_parts ht
    obtain ⟨n, rfl⟩ : ∃ m : Nat, a = (m : Int) := ⟨a.toNat, by omega⟩
    obtain ⟨on, rfl⟩ : ∃ m : Nat, x = (m : Int) := ⟨x.toNat, by omega⟩
    obtain ⟨off, rfl⟩ : ∃ m : Nat, y = (m : Int) := ⟨y.toNat, by omega⟩
    simp only [Int.toNat_natCast]
    exact spec_outer n b l ht off (by omega) (by omega) (off - on) on [] (by omega) (Nat.le_refl _) (Nat.zero_le _)
theorem spread_len_l (l : List S66) (n off : Nat) : ∀ (f p : Nat) (acc : List Int), acc.length ≤ p → p ≤ off → (impl_Spread.l2 l n off f p acc).length ≤ off := by
  intro f
  induction f with
  | zero => intro p acc h1 h2; exact Nat.le_trans h1 h2
  | succ f ih =>
    intro p acc h1 h2
    rw [impl_Spread.l2]
    have hle := sp1_le l p off n
    split
    · split
      · simp
      · exact ih _ _ (by rw [List.length_append, List.length_replicate]; omega) (by omega)
    · omega
theorem spread_short (a b : Int) (l : List S66) (x y : Int) : (spreadV a b l x y).length ≤ 11 := by
  unfold spreadV
  split
  · rename_i hc
    rw [Bool.and_eq_true] at hc
    obtain ⟨ht, hr⟩ := hc
    have hr := of_decide_eq_true hr
    have hp := (train_parts ht).2.1
    have := spread_len_l l a.toNat y.toNat (y.toNat - x.toNat) x.toNat [] (by simp) (by omega)
    omega
  · simp
end Go.Proofs.Ytklikbjlfaednaa.Pure
