/- The stable sort of the places 0, 1, .. by a key: sorted by key and place. -/
import Derived.Test.YtoalolbifakpiaaS6
namespace Go.Proofs.Ytoalolbifakpiaa.P
open Go.Sort
set_option linter.unusedVariables false

/-- By key, then by place. -/
def sy_lu {K : Nat} (key : Fin (K + 1) → Int) (x y : Fin (K + 1)) : Bool := decide (key x < key y ∨ (key x = key y ∧ x.val < y.val))
def sy_lt {K : Nat} (key : Fin (K + 1) → Int) (x y : Fin (K + 1)) : Bool := decide (key x < key y)
theorem sy_lu_swo {K : Nat} (key : Fin (K + 1) → Int) : SWO (sy_lu key) := by
  constructor <;> (intros; simp only [sy_lu, decide_eq_true_eq, decide_eq_false_iff_not] at *; omega)
theorem sy_cross {K : Nat} (key : Fin (K + 1) → Int) (x y : Fin (K + 1)) (h : y.val < x.val) : sy_lt key x y = sy_lu key x y := by
  unfold sy_lt sy_lu
  by_cases c : key x < key y
  · rw [decide_eq_true c, decide_eq_true (Or.inl c)]
  · rw [decide_eq_false c, decide_eq_false (by omega)]
theorem sy_inner_same {K : Nat} (key : Fin (K + 1) → Int) (a : Nat) : ∀ (j : Nat) (d : Array (Fin (K + 1))), j < d.size → (∀ q, a ≤ q → q < j → (d[q]!).val < (d[j]!).val) → insInner (sy_lt key) a j d = insInner (sy_lu key) a j d
  | 0, d, _, _ => by unfold insInner; rfl
  | j + 1, d, hj, h => by
    unfold insInner
    by_cases c : j + 1 > a
    · rw [sy_cross key _ _ (h j (by omega) (by omega))]
      split
      · refine sy_inner_same key a j _ (by rw [size_swp]; omega) (fun q h1 h2 => ?_)
        have g := swp_get d (show j + 1 < d.size by omega) (show j < d.size by omega)
        rw [g, g, if_neg (by omega), if_neg (by omega), if_pos rfl]
        exact h q h1 (by omega)
      · rfl
    · rw [if_neg (by simp [c]), if_neg (by simp [c])]
theorem sy_inner_perm {α : Type} [Inhabited α] (lt : α → α → Bool) (a b : Nat) : ∀ (j : Nat) (d : Array α), j < b → b ≤ d.size → PermIn a b d (insInner lt a j d)
  | 0, d, _, _ => by unfold insInner; exact permIn_refl d a b
  | j + 1, d, hj, hb => by
    unfold insInner
    split
    · rename_i c
      simp only [Bool.and_eq_true, decide_eq_true_eq] at c
      exact permIn_trans _ _ _ a b (swp_permIn d a b (j + 1) j (by omega) (by omega) (by omega) (by omega) hb) (sy_inner_perm lt a b j _ (by omega) (by rw [size_swp]; exact hb))
    · exact permIn_refl d a b
theorem sy_outer_same {K : Nat} (key : Fin (K + 1) → Int) (a b : Nat) : ∀ (n i : Nat) (d : Array (Fin (K + 1))), b - i ≤ n → a ≤ i → b ≤ d.size → (∀ q, a ≤ q → q < i → (d[q]!).val < i) → (∀ k, i ≤ k → k < b → (d[k]!).val = k) → insOuter (sy_lt key) a b i d = insOuter (sy_lu key) a b i d
  | 0, i, d, h, _, _, _, _ => by rw [insOuter_stop _ _ _ _ _ (by omega), insOuter_stop _ _ _ _ _ (by omega)]
  | n + 1, i, d, h, hai, hb, h1, h2 => by
    by_cases c : i < b
    · rw [insOuter_go _ _ _ _ _ c, insOuter_go _ _ _ _ _ c, sy_inner_same key a i d (by omega) (fun q e1 e2 => by rw [h2 i (Nat.le_refl _) c]; exact h1 q e1 e2)]
      have P := sy_inner_perm (sy_lu key) a (i + 1) i d (by omega) (by omega)
      refine sy_outer_same key a b n (i + 1) _ (by omega) (by omega) (by rw [P.1]; exact hb) (fun q e1 e2 => ?_) (fun k e1 e2 => ?_)
      · refine permIn_all d _ a (i + 1) (fun x => x.val < i + 1) (by omega) P (fun j j1 j2 => ?_) q e1 e2
        by_cases e : j = i
        · rw [e, h2 i (Nat.le_refl _) c]; omega
        · have := h1 j j1 (by omega); omega
      · rw [P.2.1 k (Or.inr e1)]; exact h2 k (by omega) e2
    · rw [insOuter_stop _ _ _ _ _ c, insOuter_stop _ _ _ _ _ c]
theorem sy_ins_ok {K : Nat} (key : Fin (K + 1) → Int) (a b : Nat) (d : Array (Fin (K + 1))) (hab : a ≤ b) (hb : b ≤ d.size) (hk : ∀ k, a ≤ k → k < b → (d[k]!).val = k) :
    PermIn a b d (Sort.insertionSort (sy_lt key) d a b) ∧ SortedIn (sy_lu key) a b (Sort.insertionSort (sy_lt key) d a b) := by
  have e : Sort.insertionSort (sy_lt key) d a b = Sort.insertionSort (sy_lu key) d a b := by
    unfold Sort.insertionSort
    by_cases c : a < b
    · exact sy_outer_same key a b (b - (a + 1)) (a + 1) d (Nat.le_refl _) (by omega) hb (fun q e1 e2 => by rw [show q = a by omega, hk a (Nat.le_refl _) c]; omega) (fun k e1 e2 => hk k (by omega) e2)
    · rw [insOuter_stop _ _ _ _ _ (by omega), insOuter_stop _ _ _ _ _ (by omega)]
  rw [e]
  exact insertionSort_holds (sy_lu_swo key) d a b hab hb
theorem sy_ins_nil {α : Type} [Inhabited α] (lt : α → α → Bool) (a : Nat) (d : Array α) : Sort.insertionSort lt d a a = d := by
  unfold Sort.insertionSort
  rw [insOuter_stop _ _ _ _ _ (by omega)]
theorem sy_blk_eq {α : Type} [Inhabited α] (lt : α → α → Bool) (N : Nat) (d : Array α) (h : N ≤ 40) : sy_blk lt N 3 0 d = if N < 20 then Sort.insertionSort lt d 0 N else Sort.insertionSort lt (Sort.insertionSort lt d 0 20) 20 N := by
  by_cases c : N < 20
  · rw [if_pos c, sy_blk, if_neg (by omega)]
  · rw [if_neg c, sy_blk, if_pos (by omega), sy_blk]
    by_cases c2 : N = 40
    · subst c2
      rw [if_pos (by omega), sy_blk, if_neg (by omega)]
      exact sy_ins_nil lt 40 _
    · rw [if_neg (by omega)]
theorem sy_stable_ok {K : Nat} (key : Fin (K + 1) → Int) (N : Nat) (d : Array (Fin (K + 1))) (h : N ≤ 40) (hs : d.size = N) (hk : ∀ k, k < N → (d[k]!).val = k) :
    PermIn 0 N d (sy_stable (sy_lt key) N d) ∧ SortedIn (sy_lu key) 0 N (sy_stable (sy_lt key) N d) := by
  unfold sy_stable
  rw [sy_blk_eq _ N d h]
  by_cases c : N < 20
  · rw [if_neg (by omega), if_pos c]
    exact sy_ins_ok key 0 N d (by omega) (by omega) (fun k _ e => hk k e)
  · obtain ⟨P1, S1⟩ := sy_ins_ok key 0 20 d (by omega) (by omega) (fun k _ e => hk k (by omega))
    obtain ⟨d1, hd1⟩ : ∃ q, Sort.insertionSort (sy_lt key) d 0 20 = q := ⟨_, rfl⟩
    rw [hd1] at P1 S1
    have z1 := P1.1
    obtain ⟨P2, S2⟩ := sy_ins_ok key 20 N d1 (by omega) (by omega) (fun k e1 e2 => by rw [P1.2.1 k (Or.inr e1)]; exact hk k e2)
    rw [if_neg c, hd1]
    obtain ⟨d2, hd2⟩ : ∃ q, Sort.insertionSort (sy_lt key) d1 20 N = q := ⟨_, rfl⟩
    rw [hd2] at P2 S2 ⊢
    have z2 := P2.1
    have PF : PermIn 0 N d d2 := permIn_trans _ _ _ 0 N (permIn_mono d d1 0 20 0 N (by omega) (by omega) (by omega) P1) (permIn_mono d1 d2 20 N 0 N (by omega) (by omega) (by omega) P2)
    have S12 : SortedIn (sy_lu key) 0 20 d2 := fun i j e1 e2 e3 => by rw [P2.2.1 i (Or.inl (by omega)), P2.2.1 j (Or.inl e3)]; exact S1 i j e1 e2 e3
    have low : ∀ i, i < 20 → (d2[i]!).val < 20 := fun i hi => by
      rw [P2.2.1 i (Or.inl hi)]
      exact permIn_all d d1 0 20 (fun x => x.val < 20) (by omega) P1 (fun j j1 j2 => by rw [hk j (by omega)]; omega) i (by omega) hi
    have high : ∀ j, 20 ≤ j → j < N → 20 ≤ (d2[j]!).val := fun j e1 e2 => by
      refine permIn_all d1 d2 20 N (fun x => 20 ≤ x.val) (by omega) P2 (fun j' j1 j2 => ?_) j e1 e2
      rw [P1.2.1 j' (Or.inr j1), hk j' j2]; omega
    by_cases c2 : 20 < N
    · rw [if_pos c2]
      obtain ⟨P3, S3⟩ := sy_merge_ok (lt := sy_lt key) (sy_lu_swo key) N 0 20 N d2 (by omega) (by omega) c2 (by omega) S12 S2 (fun i j e1 e2 e3 e4 => sy_cross key _ _ (by have := low i e2; have := high j e3 e4; omega))
      exact ⟨permIn_trans _ _ _ 0 N PF P3, S3⟩
    · rw [if_neg c2]
      have e : N = 20 := by omega
      exact ⟨PF, fun i j e1 e2 e3 => S12 i j e1 e2 (by omega)⟩
end Go.Proofs.Ytoalolbifakpiaa.P
