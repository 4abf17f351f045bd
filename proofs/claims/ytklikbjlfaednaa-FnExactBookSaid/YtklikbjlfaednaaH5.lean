/- A booking sold: the program's train is the reference's. -/
import Derived.Test.YtklikbjlfaednaaH2b
import Derived.Test.YtklikbjlfaednaaH4a
namespace Go.Proofs.Ytklikbjlfaednaa.Pure
open Go.RowKit Go.Proofs.Ytklikbjlfaednaa.P Go.Proofs.YtklikbjlfaednaaW.PrintWords Go.Proofs.YtklikbjlfaednaaW.PrintLast
set_option linter.unusedVariables false

theorem lo_eq (l : List S66) (s : Nat) : ∀ k, impl_Train_hole.l1 l s k = holeLo l s k
  | 0 => rfl
  | k + 1 => by rw [impl_Train_hole.l1, holeLo, lo_eq l s k]
theorem hi_eq (l : List S66) (s P : Nat) : ∀ k, impl_Train_hole.l2 l s P k = holeHi l s P k
  | 0 => rfl
  | k + 1 => by rw [impl_Train_hole.l2, holeHi, hi_eq l s P k]
theorem hole_of {a b : Int} {l : List S66} {x y s : Int} (h : s ∈ freeV a b l x y) : impl_Book.l1 a b l x y s = holeV a b l s x y := by
  unfold impl_Book.l1 holeV
  rw [if_pos (by rw [List.any_eq_true]; exact ⟨s, h, by simp⟩), lo_eq, hi_eq]
theorem best_same (h g : Int → Int) : ∀ (fs : List Int) (b m : Int), (∀ s, s ∈ fs → h s = g s ∧ 0 ≤ s) → (b < 0 ∨ m = g b) → (impl_Book.l0 h fs b m).1 = bestV g fs b
  | [], b, m, _, _ => rfl
  | s :: t, b, m, hs, hb => by
    have h1 := hs s List.mem_cons_self
    have ht : ∀ s, s ∈ t → h s = g s ∧ 0 ≤ s := fun s' hs' => hs s' (List.mem_cons_of_mem _ hs')
    unfold impl_Book.l0 bestV
    by_cases c : b < 0
    · rw [if_pos (Or.inl c), if_pos (Or.inl c)]
      exact best_same h g t s (h s) ht (.inr h1.1)
    · have hm : m = g b := by rcases hb with hb | hb; · exact absurd hb c
                              · exact hb
      rw [h1.1, hm]
      by_cases d : g s < g b
      · rw [if_pos (Or.inr d), if_pos (Or.inr d)]
        exact best_same h g t s (g s) ht (.inr rfl)
      · rw [if_neg (by omega), if_neg (by omega)]
        exact best_same h g t b (g b) ht (.inr rfl)
theorem pick_same {a b : Int} {l : List S66} {x y : Int} (ht : trainV a b l = true) (hr : rideB b x y = true) : impl_Book.l3 a b l x y = pickV a b l x y := by
  unfold impl_Book.l3 pickV
  have e : freeV a b l x y = impl_Train_freeSeats.l1 l a.toNat x.toNat y.toNat := by
    unfold freeV
    rw [ht, hr]
    rfl
  rw [e]
  refine best_same _ _ _ _ _ (fun s hs => ?_) (.inl (by decide))
  rw [← e] at hs
  exact ⟨hole_of hs, (mem_free.1 hs).2.2.1.1⟩
theorem put_ins (y : S66) : ∀ (l : List S66), (l.Pairwise fun p q => p.f0 < q.f0) → (∀ o, o ∈ l → o.f0 ≠ y.f0) → impl_Book.l5 l (impl_Book.l2 y.f0 l) y = insV l y
  | [], _, _ => rfl
  | o :: t, hp, hy => by
    have hpc := List.pairwise_cons.1 hp
    have h0 := hy o List.mem_cons_self
    have ih := put_ins y t hpc.2 (fun x hx => hy x (List.mem_cons_of_mem _ hx))
    unfold impl_Book.l5 insV at ih
    unfold impl_Book.l5 insV impl_Book.l2
    rw [List.filter_cons, List.filter_cons]
    by_cases c : o.f0 < y.f0
    · rw [if_pos c, if_pos (decide_eq_true c), if_neg (by simp; omega), List.take_succ_cons, List.drop_succ_cons, List.cons_append, ih, List.cons_append]
    · have e1 : t.filter (fun x => decide (x.f0 < y.f0)) = [] := by
        rw [List.filter_eq_nil_iff]
        intro x hx
        have := hpc.1 x hx
        simp; omega
      have e2 : t.filter (fun x => decide (y.f0 < x.f0)) = t := by
        rw [List.filter_eq_self]
        intro x hx
        have := hpc.1 x hx
        simp; omega
      rw [if_neg c, if_neg (by simpa using c), if_pos (by simp; omega), e1, e2]
      rfl
theorem sell_same {a b : Int} {l : List S66} (ht : trainV a b l = true) (id x y : Int) : impl_Book.l6 a b l id x y = bookV a b l id x y := by
  have tp := (train_iff a b l).1 ht
  have h2 := idx_has l id
  unfold impl_Book.l6 bookV
  have hok : impl_Book.l4 a b l id x y = (bookOk a b l id x y && decide (0 ≤ impl_Book.l3 a b l x y)) := by
    unfold impl_Book.l4 bookOk
    have e1 : decide (impl_Unbook.l1 l id < 0) = !(hasId l id) := by
      rw [← h2, Bool.eq_iff_iff]
      simp only [decide_eq_true_eq, Bool.not_eq_true', decide_eq_false_iff_not]
      omega
    have e2 : (!decide (l.length = 200)) = decide (l.length < 200) := by
      have := tp.short
      rw [Bool.eq_iff_iff]
      simp only [decide_eq_true_eq, Bool.not_eq_true', decide_eq_false_iff_not]
      omega
    rw [e1, e2, ht]
    show (decide (0 < id) && !hasId l id && rideB b x y && decide (l.length < 200) && decide (0 ≤ impl_Book.l3 a b l x y)) = _
    cases decide (0 < id) <;> cases hasId l id <;> cases rideB b x y <;> cases decide (l.length < 200) <;> rfl
  by_cases hb : bookOk a b l id x y = true
  · have hparts := hb
    unfold bookOk at hparts
    simp only [Bool.and_eq_true, decide_eq_true_eq, Bool.not_eq_true'] at hparts
    have hp := pick_same ht hparts.1.1.1.2
    rw [hok, hb, Bool.true_and, hp]
    by_cases c : 0 ≤ pickV a b l x y
    · rw [if_pos (decide_eq_true c), if_pos ⟨rfl, c⟩]
      have := put_ins ⟨id, pickV a b l x y, x, y⟩ l (tp.order.imp fun q => q.1) (hasId_no hparts.2)
      rw [← this]
    · rw [if_neg (by simpa using c), if_neg (fun q => c q.2)]
  · rw [hok, Bool.eq_false_iff.2 hb, if_neg (by simp), if_neg (by simp)]
theorem impl_bookV (a b : Int) (l : List S66) (id x y : Int) (h : l.length ≤ 1048576) : impl_Book.f a b l id x y = some (a, b, (bookV a b l id x y).1, (bookV a b l id x y).2) := by
  unfold impl_Book.f
  rw [if_pos (by omega), trains_same]
  by_cases ht : trainV a b l = true
  · rw [if_pos ht, if_pos ht, sell_same ht]
  · have : bookV a b l id x y = (l, -1) := by
      unfold bookV bookOk
      rw [Bool.eq_false_iff.2 ht]
      simp
    rw [if_neg ht, if_neg ht, this]
theorem book_len (a b : Int) (l : List S66) (id x y : Int) (h : l.length ≤ 1048576) : (bookV a b l id x y).1.length ≤ 1048576 := by
  unfold bookV
  split
  · rename_i hc
    have h1 := hc.1
    unfold bookOk at h1
    simp only [Bool.and_eq_true, decide_eq_true_eq] at h1
    have := ins_length l ⟨id, pickV a b l x y, x, y⟩
    exact Nat.le_trans this (by omega)
  · exact h
end Go.Proofs.Ytklikbjlfaednaa.Pure
