/- The hole a seat would leave, by the reference. -/
import Derived.Test.YtklikbjlfaednaaG5
namespace Go.Proofs.Ytklikbjlfaednaa.Pure
open Go.RowKit Go.Proofs.Ytklikbjlfaednaa.P Go.Proofs.YtklikbjlfaednaaW.PrintWords Go.Proofs.YtklikbjlfaednaaW.PrintLast

/-- How far down, and how far up, a seat is free. -/
def holeLo (l : List S66) (s : Nat) : Nat → Nat
  | 0 => 0
  | k + 1 => if l.any (impl_TrainOk.l4 s k) = true then k + 1 else holeLo l s k
def holeHi (l : List S66) (s P : Nat) : Nat → Nat
  | 0 => P
  | d + 1 => if l.any (impl_TrainOk.l4 s (P - (d + 1))) = true then P - (d + 1) else holeHi l s P d
theorem spec_hasV (l : List Int) (v : Int) (h : l.length ≤ 1000000) : Ev (fun k => spec_l01Has.f k l v) (l.any fun x => decide (x = v)) :=
  ev_any l (fun x => decide (x = v)) (fun k i => spec_l01Has.l0 k l v i) (fun k => by simp [spec_l01Has.l0])
    (fun k i hi hp => by
      have hp := of_decide_eq_true hp
      simp [spec_l01Has.l0, hi, rd, hp])
    (fun k i hi hp => by
      have hp := of_decide_eq_false hp
      simp [spec_l01Has.l0, hi, rd, hp, w64s hi (by omega)])
theorem free_in {a b : Int} {l : List S66} {x y v : Int} (h : ((freeV a b l x y).any fun z => decide (z = v)) = true) : trainV a b l = true ∧ (0 ≤ x ∧ x < y ∧ y ≤ b) ∧ 0 ≤ v ∧ v < a := by
  rw [List.any_eq_true] at h
  obtain ⟨z, hz, he⟩ := h
  have he := of_decide_eq_true he
  subst he
  unfold freeV at hz
  split at hz
  · rename_i hc
    rw [Bool.and_eq_true] at hc
    refine ⟨hc.1, of_decide_eq_true hc.2, ?_⟩
    unfold impl_Train_freeSeats.l1 at hz
    obtain ⟨s, hs, rfl⟩ := List.mem_map.1 hz
    have := List.mem_range.1 (List.mem_filter.1 hs).1
    omega
  · simp at hz
theorem spec_hole_up (a : Int) (P : Nat) (l : List S66) (h : trainV a P l = true) (s m : Nat) (hm : m ≤ 11) : ∀ q, q ≤ P → Ev (fun k => spec_Hole.l1 k s m (q : Int) a P l) ((holeHi l s P (P - q) : Int) - (m : Int)) := by
  have hp := (train_parts h).2.1
  refine down P ?_ (fun q hq ih => ?_)
  · refine ev_some (fun k => ?_)
    simp only [spec_Hole.l1, if_neg (Int.lt_irrefl _), Nat.sub_self, holeHi]
    rw [w64 (by omega) (by omega)]
  · have f1 : (q : Int) < P := by omega
    have hw : wrap64 ((q : Int) + 1) = ((q + 1 : Nat) : Int) := w64s (show q < q + 1 by omega) (by omega)
    obtain ⟨d, hd⟩ : ∃ d, P - q = d + 1 := ⟨P - q - 1, by clear hw; omega⟩
    have e1 : P - (d + 1) = q := by clear hw; omega
    have e2 : P - (q + 1) = d := by clear hw; omega
    rw [e2] at ih
    rw [hd, holeHi, e1]
    refine ev_at (f := fun k => (spec_l14Free.f k a P l s q).bind fun t => if t = true then spec_Hole.l1 k s m ((q + 1 : Nat) : Int) a P l else some (wrap64 ((q : Int) - m))) ?_ (fun k => by simp only [spec_Hole.l1, if_pos f1, hw])
    refine Ev.bind (spec_one a P l h s q) ?_
    cases hc : l.any (impl_TrainOk.l4 s q)
    · simpa using ih
    · rw [w64 (by clear hw; omega) (by clear hw; omega)]
      simpa using Ev.now _
theorem spec_hole_down (a : Int) (P : Nat) (l : List S66) (h : trainV a P l = true) (s off : Nat) (ho : off ≤ P) : ∀ m : Nat, m ≤ 11 → Ev (fun k => spec_Hole.l0 k s m off a P l) ((holeHi l s P (P - off) : Int) - (holeLo l s m : Int)) := by
  intro m
  induction m with
  | zero =>
    intro _
    have := spec_hole_up a P l h s 0 (by omega) off ho
    refine ev_at (f := fun k => spec_Hole.j1 k s 0 off a P l) ?_ (fun k => by simp [spec_Hole.l0])
    rw [holeLo]
    exact ev_at this (fun k => by simp [spec_Hole.j1])
  | succ m ih =>
    intro hm
    have hw : wrap64 (((m + 1 : Nat) : Int) - 1) = (m : Int) := by rw [w64 (by omega) (by omega)]; omega
    have f1 : ((m + 1 : Nat) : Int) > 0 := by clear hw; omega
    rw [holeLo]
    refine ev_at (f := fun k => (spec_l14Free.f k a P l s m).bind fun t => if t = true then spec_Hole.l0 k s m off a P l else spec_Hole.j1 k s ((m + 1 : Nat) : Int) off a P l) ?_ (fun k => by simp only [spec_Hole.l0, if_pos f1, hw])
    refine Ev.bind (spec_one a P l h s m) ?_
    cases hc : l.any (impl_TrainOk.l4 s m)
    · simpa using ih (by clear hw; omega)
    · have := spec_hole_up a P l h s (m + 1) (by clear hw; omega) off ho
      simp only [Bool.not_true, Bool.false_eq_true, if_false, if_true]
      exact ev_at this (fun k => by simp [spec_Hole.j1])
def holeV (a b : Int) (l : List S66) (v x y : Int) : Int :=
  if ((freeV a b l x y).any fun z => decide (z = v)) = true then (holeHi l v.toNat b.toNat (b.toNat - y.toNat) : Int) - (holeLo l v.toNat x.toNat : Int) else 0
theorem free_short (a b : Int) (l : List S66) (x y : Int) : (freeV a b l x y).length ≤ 60 := by
  unfold freeV
  split
  · rename_i hc
    rw [Bool.and_eq_true] at hc
    have := (train_parts hc.1).1
    have := free_len l a.toNat x.toNat y.toNat
    omega
  · simp
theorem spec_holeV (a b : Int) (l : List S66) (v x y : Int) (h : l.length ≤ 1048576) : Ev (fun k => spec_Hole.f k a b l v x y) (holeV a b l v x y) := by
  unfold spec_Hole.f holeV
  have hs := free_short a b l x y
  refine Ev.bind (spec_free a b l x y h) (Ev.bind (spec_hasV _ v (by omega)) ?_)
  split
  · rename_i hin
    obtain ⟨ht, hr, h0, h1⟩ := free_in hin
    have hp := train_parts ht
    obtain ⟨P, rfl⟩ : ∃ m : Nat, b = (m : Int) := ⟨b.toNat, by omega⟩
    obtain ⟨s, rfl⟩ : ∃ m : Nat, v = (m : Int) := ⟨v.toNat, by omega⟩
    obtain ⟨on, rfl⟩ : ∃ m : Nat, x = (m : Int) := ⟨x.toNat, by omega⟩
    obtain ⟨off, rfl⟩ : ∃ m : Nat, y = (m : Int) := ⟨y.toNat, by omega⟩
    simp only [Int.toNat_natCast]
    exact spec_hole_down a P l ht s off (by omega) on (by omega)
  · exact Ev.now _
end Go.Proofs.Ytklikbjlfaednaa.Pure
