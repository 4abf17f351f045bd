/- The stable sort of the library at no more than two blocks, as plain functions on an array, and what they answer: the sorted row. -/
import Derived.Sort.LotA
namespace Go.Proofs.Ytoalolbifakpiaa.P
open Go.Sort
set_option linter.unusedVariables false

/-- A binary search: the first place from which on the test fails. -/
def sy_bs (Q : Nat → Bool) (i j : Nat) : Nat := if h : i < j then (if Q ((i + j) / 2) = true then sy_bs Q ((i + j) / 2 + 1) j else sy_bs Q i ((i + j) / 2)) else i
termination_by j - i
theorem sy_bs_spec (Q : Nat → Bool) : ∀ (n i j : Nat), j - i ≤ n → i ≤ j → (∀ c c', i ≤ c → c ≤ c' → c' < j → Q c' = true → Q c = true) →
    i ≤ sy_bs Q i j ∧ sy_bs Q i j ≤ j ∧ (∀ c, i ≤ c → c < sy_bs Q i j → Q c = true) ∧ (∀ c, sy_bs Q i j ≤ c → c < j → Q c = false) := by
  intro n
  induction n with
  | zero =>
    intro i j h1 h2 hm
    rw [sy_bs, dif_neg (by omega)]
    exact ⟨Nat.le_refl _, h2, fun c _ _ => by omega, fun c _ _ => by omega⟩
  | succ n ih =>
    intro i j h1 h2 hm
    rw [sy_bs]
    by_cases h : i < j
    · rw [dif_pos h]
      cases hq : Q ((i + j) / 2) with
      | true =>
        rw [if_pos rfl]
        obtain ⟨a, b, c, d⟩ := ih ((i + j) / 2 + 1) j (by omega) (by omega) (fun c c' e1 e2 e3 => hm c c' (by omega) e2 e3)
        refine ⟨by omega, b, fun x hx1 hx2 => ?_, d⟩
        by_cases hx : (i + j) / 2 + 1 ≤ x
        · exact c x hx hx2
        · exact hm x ((i + j) / 2) hx1 (by omega) (by omega) hq
      | false =>
        rw [if_neg (by simp)]
        obtain ⟨a, b, c, d⟩ := ih i ((i + j) / 2) (by omega) (by omega) (fun c c' e1 e2 e3 => hm c c' e1 e2 (by omega))
        refine ⟨a, by omega, c, fun x hx1 hx2 => ?_⟩
        by_cases hx : x < (i + j) / 2
        · exact d x hx1 hx
        · cases hqx : Q x with
          | false => rfl
          | true => rw [hm ((i + j) / 2) x (by omega) (by omega) hx2 hqx] at hq; cases hq
    · rw [dif_neg h]
      exact ⟨Nat.le_refl _, h2, fun c _ _ => by omega, fun c _ _ => by omega⟩

variable {α : Type} [Inhabited α]
/-- 'swap k, k+1' for so many rounds, from k on. -/
def sy_up : Nat → Nat → Array α → Array α
  | 0, _, d => d
  | n + 1, k, d => sy_up n (k + 1) (swp d k (k + 1))
/-- 'swap k, k-1' for so many rounds, from k on downwards. -/
def sy_down : Nat → Nat → Array α → Array α
  | 0, _, d => d
  | n + 1, k, d => sy_down n (k - 1) (swp d k (k - 1))
/-- 'swap a+i, b+i' for so many rounds, from i on. -/
def sy_swr (a b : Nat) : Nat → Nat → Array α → Array α
  | 0, _, d => d
  | n + 1, i, d => sy_swr a b n (i + 1) (swp d (a + i) (b + i))
/-- Two rows side by side change places: the loop of rotate. -/
def sy_rot (m : Nat) : Nat → Nat → Nat → Array α → Array α
  | 0, _, _, d => d
  | f + 1, i, j, d => if i = j then sy_swr (m - i) m i 0 d else if i > j then sy_rot m f (i - j) j (sy_swr (m - i) m j 0 d) else sy_rot m f i (j - i) (sy_swr (m - i) (m + j - i) i 0 d)
theorem sy_up_size : ∀ (n k : Nat) (d : Array α), (sy_up n k d).size = d.size
  | 0, _, _ => rfl
  | n + 1, k, d => by rw [sy_up, sy_up_size, size_swp]
theorem sy_down_size : ∀ (n k : Nat) (d : Array α), (sy_down n k d).size = d.size
  | 0, _, _ => rfl
  | n + 1, k, d => by rw [sy_down, sy_down_size, size_swp]
theorem sy_swr_size (a b : Nat) : ∀ (n i : Nat) (d : Array α), (sy_swr a b n i d).size = d.size
  | 0, _, _ => rfl
  | n + 1, i, d => by rw [sy_swr, sy_swr_size, size_swp]
theorem sy_rot_size (m : Nat) : ∀ (f i j : Nat) (d : Array α), (sy_rot m f i j d).size = d.size
  | 0, _, _, _ => rfl
  | f + 1, i, j, d => by
    rw [sy_rot]
    split
    · exact sy_swr_size _ _ _ _ _
    · split
      · rw [sy_rot_size, sy_swr_size]
      · rw [sy_rot_size, sy_swr_size]
theorem sy_up_get : ∀ (n k : Nat) (d : Array α), k + n < d.size → ∀ x, (sy_up n k d)[x]! = if x < k ∨ k + n < x then d[x]! else if x = k + n then d[k]! else d[x + 1]!
  | 0, k, d, _, x => by
    rw [sy_up]
    split
    · rfl
    · rw [if_pos (by omega), show x = k by omega]
  | n + 1, k, d, h, x => by
    rw [sy_up, sy_up_get n (k + 1) _ (by rw [size_swp]; omega)]
    have g := swp_get d (show k < d.size by omega) (show k + 1 < d.size by omega)
    by_cases c1 : x < k ∨ k + (n + 1) < x
    · rw [if_pos (by omega), if_pos c1, g, if_neg (by omega), if_neg (by omega)]
    · rw [if_neg c1]
      by_cases c2 : x = k + (n + 1)
      · rw [if_neg (by omega), if_pos (by omega), if_pos c2, g, if_pos rfl]
      · rw [if_neg c2]
        by_cases c3 : x = k
        · rw [if_pos (by omega), g, if_neg (by omega), if_pos c3, c3]
        · rw [if_neg (by omega), if_neg (by omega), g, if_neg (by omega), if_neg (by omega)]
theorem sy_down_get : ∀ (n k : Nat) (d : Array α), n ≤ k → k < d.size → ∀ x, (sy_down n k d)[x]! = if x < k - n ∨ k < x then d[x]! else if x = k - n then d[k]! else d[x - 1]!
  | 0, k, d, _, _, x => by
    rw [sy_down]
    split
    · rfl
    · rw [if_pos (by omega), show x = k by omega]
  | n + 1, k, d, h0, h, x => by
    rw [sy_down, sy_down_get n (k - 1) _ (by omega) (by rw [size_swp]; omega)]
    have g := swp_get d (show k < d.size by omega) (show k - 1 < d.size by omega)
    by_cases c1 : x < k - (n + 1) ∨ k < x
    · rw [if_pos (by omega), if_pos c1, g, if_neg (by omega), if_neg (by omega)]
    · rw [if_neg c1]
      by_cases c2 : x = k - (n + 1)
      · rw [if_neg (by omega), if_pos (by omega), if_pos c2, g, if_pos rfl]
      · rw [if_neg c2]
        by_cases c3 : x = k
        · rw [if_pos (by omega), g, if_neg (by omega), if_pos c3, c3]
        · rw [if_neg (by omega), if_neg (by omega), g, if_neg (by omega), if_neg (by omega)]
theorem sy_swr_get (a b : Nat) : ∀ (n i : Nat) (d : Array α), a + i + n ≤ b + i → b + i + n ≤ d.size → ∀ x,
    (sy_swr a b n i d)[x]! = if a + i ≤ x ∧ x < a + i + n then d[x - a + b]! else if b + i ≤ x ∧ x < b + i + n then d[x - b + a]! else d[x]!
  | 0, i, d, _, _, x => by
    rw [sy_swr, if_neg (by omega), if_neg (by omega)]
  | n + 1, i, d, h1, h2, x => by
    rw [sy_swr, sy_swr_get a b n (i + 1) _ (by omega) (by rw [size_swp]; omega)]
    have g := swp_get d (show a + i < d.size by omega) (show b + i < d.size by omega)
    by_cases c1 : a + i ≤ x ∧ x < a + i + (n + 1)
    · rw [if_pos c1]
      by_cases e : x = a + i
      · rw [if_neg (by omega), if_neg (by omega), g, if_neg (by omega), if_pos e, show x - a + b = b + i by omega]
      · rw [if_pos (by omega), g, if_neg (by omega), if_neg (by omega)]
    · rw [if_neg c1]
      by_cases c2 : b + i ≤ x ∧ x < b + i + (n + 1)
      · rw [if_pos c2]
        by_cases e : x = b + i
        · rw [if_neg (by omega), if_neg (by omega), g, if_pos e, show x - b + a = a + i by omega]
        · rw [if_neg (by omega), if_pos (by omega), g, if_neg (by omega), if_neg (by omega)]
      · rw [if_neg c2, if_neg (by omega), if_neg (by omega), g, if_neg (by omega), if_neg (by omega)]
theorem sy_rot_get (m : Nat) : ∀ (f i j : Nat) (d : Array α), i + j ≤ f → 1 ≤ i → 1 ≤ j → i ≤ m → m + j ≤ d.size → ∀ x,
    (sy_rot m f i j d)[x]! = if m - i ≤ x ∧ x < m - i + j then d[x + i]! else if m - i + j ≤ x ∧ x < m + j then d[x - j]! else d[x]!
  | 0, i, j, d, h, h1, _, _, _, x => by omega
  | f + 1, i, j, d, h, h1, h2, h3, h4, x => by
    rw [sy_rot]
    by_cases e : i = j
    · subst e
      rw [if_pos rfl, sy_swr_get _ _ _ _ _ (by omega) (by omega)]
      by_cases c1 : m - i ≤ x ∧ x < m - i + i
      · rw [if_pos (by omega), if_pos c1, show x - (m - i) + m = x + i by omega]
      · rw [if_neg (by omega), if_neg c1]
        by_cases c2 : m - i + i ≤ x ∧ x < m + i
        · rw [if_pos (by omega), if_pos c2, show x - m + (m - i) = x - i by omega]
        · rw [if_neg (by omega), if_neg c2]
    · rw [if_neg e]
      by_cases e2 : i > j
      · rw [if_pos e2, sy_rot_get m f (i - j) j _ (by omega) (by omega) h2 (by omega) (by rw [sy_swr_size]; exact h4)]
        have g := sy_swr_get (m - i) m j 0 d (by omega) (by omega)
        by_cases c1 : m - i ≤ x ∧ x < m - i + j
        · rw [if_neg (by omega), if_neg (by omega), if_pos c1, g, if_pos (by omega), show x - (m - i) + m = x + i by omega]
        · rw [if_neg c1]
          by_cases c2 : m - i + j ≤ x ∧ x < m + j
          · rw [if_pos c2]
            by_cases c3 : x < m - (i - j) + j
            · rw [if_pos (by omega), g, if_neg (by omega)]
              by_cases c4 : m ≤ x + (i - j)
              · rw [if_pos (by omega)]; congr 1; omega
              · omega
            · rw [if_neg (by omega), if_pos (by omega), g, if_neg (by omega), if_neg (by omega)]
          · rw [if_neg (by omega), if_neg (by omega), if_neg c2, g, if_neg (by omega), if_neg (by omega)]
      · rw [if_neg e2, sy_rot_get m f i (j - i) _ (by omega) h1 (by omega) h3 (by rw [sy_swr_size]; omega)]
        have g := sy_swr_get (m - i) (m + j - i) i 0 d (by omega) (by omega)
        by_cases c1 : m - i ≤ x ∧ x < m - i + j
        · rw [if_pos c1]
          by_cases c3 : x < m - i + (j - i)
          · rw [if_pos (by omega), g, if_neg (by omega), if_neg (by omega)]
          · rw [if_neg (by omega)]
            by_cases c4 : x < m + (j - i)
            · rw [if_pos (by omega), g]
              by_cases c5 : m - i + 0 ≤ x - (j - i) ∧ x - (j - i) < m - i + 0 + i
              · rw [if_pos c5]; congr 1; omega
              · omega
            · omega
        · rw [if_neg c1]
          by_cases c2 : m - i + j ≤ x ∧ x < m + j
          · rw [if_pos c2, if_neg (by omega)]
            by_cases c4 : x < m + (j - i)
            · omega
            · rw [if_neg (by omega), g, if_neg (by omega), if_pos (by omega)]; congr 1; omega
          · rw [if_neg (by omega), if_neg (by omega), if_neg c2, g, if_neg (by omega), if_neg (by omega)]
theorem sy_up_perm (a b : Nat) : ∀ (n k : Nat) (d : Array α), a ≤ k → k + n < b → b ≤ d.size → PermIn a b d (sy_up n k d)
  | 0, _, d, _, _, _ => permIn_refl d a b
  | n + 1, k, d, h1, h2, h3 => permIn_trans _ _ _ a b (swp_permIn d a b k (k + 1) h1 (by omega) (by omega) (by omega) h3) (sy_up_perm a b n (k + 1) _ (by omega) (by omega) (by rw [size_swp]; exact h3))
theorem sy_down_perm (a b : Nat) : ∀ (n k : Nat) (d : Array α), a + n ≤ k → k < b → b ≤ d.size → PermIn a b d (sy_down n k d)
  | 0, _, d, _, _, _ => permIn_refl d a b
  | n + 1, k, d, h1, h2, h3 => permIn_trans _ _ _ a b (swp_permIn d a b k (k - 1) (by omega) h2 (by omega) (by omega) h3) (sy_down_perm a b n (k - 1) _ (by omega) (by omega) (by rw [size_swp]; exact h3))
theorem sy_swr_perm (a b p q : Nat) : ∀ (n i : Nat) (d : Array α), a ≤ p + i → p ≤ q → q + i + n ≤ b → b ≤ d.size → PermIn a b d (sy_swr p q n i d)
  | 0, _, d, _, _, _, _ => permIn_refl d a b
  | n + 1, i, d, h1, h2, h3, h4 => permIn_trans _ _ _ a b (swp_permIn d a b (p + i) (q + i) h1 (by omega) (by omega) (by omega) h4) (sy_swr_perm a b p q n (i + 1) _ (by omega) h2 (by omega) (by rw [size_swp]; exact h4))
theorem sy_rot_perm (a b m : Nat) : ∀ (f i j : Nat) (d : Array α), i + j ≤ f → 1 ≤ i → 1 ≤ j → i ≤ m → a + i ≤ m → m + j ≤ b → b ≤ d.size → PermIn a b d (sy_rot m f i j d)
  | 0, i, j, d, h, h1, _, _, _, _, _ => by omega
  | f + 1, i, j, d, h, h1, h2, h3, h4, h5, h6 => by
    rw [sy_rot]
    by_cases e : i = j
    · rw [if_pos e]; exact sy_swr_perm a b _ _ _ _ _ (by omega) (by omega) (by omega) h6
    · rw [if_neg e]
      by_cases e2 : i > j
      · rw [if_pos e2]
        exact permIn_trans _ _ _ a b (sy_swr_perm a b _ _ _ _ _ (by omega) (by omega) (by omega) h6) (sy_rot_perm a b m f (i - j) j _ (by omega) (by omega) h2 (by omega) (by omega) h5 (by rw [sy_swr_size]; exact h6))
      · rw [if_neg e2]
        exact permIn_trans _ _ _ a b (sy_swr_perm a b _ _ _ _ _ (by omega) (by omega) (by omega) h6) (sy_rot_perm a b m f i (j - i) _ (by omega) h1 (by omega) h3 h4 (by omega) (by rw [sy_swr_size]; exact h6))

/-- symMerge. -/
def sy_merge (lt : α → α → Bool) : Nat → Nat → Nat → Nat → Array α → Array α
  | 0, _, _, _, d => d
  | f + 1, a, m, b, d =>
    if m - a = 1 then sy_up (sy_bs (fun h => lt d[h]! d[a]!) m b - 1 - a) a d
    else if b - m = 1 then sy_down (m - sy_bs (fun h => !lt d[m]! d[h]!) a m) m d
    else
      let mid := (a + b) / 2
      let s := if m > mid then sy_bs (fun c => !lt d[mid + m - 1 - c]! d[c]!) (mid + m - b) mid else sy_bs (fun c => !lt d[mid + m - 1 - c]! d[c]!) a m
      let e := mid + m - s
      let d1 := if s < m ∧ m < e then sy_rot m (e - s) (m - s) (e - m) d else d
      let d2 := if a < s ∧ s < mid then sy_merge lt f a s mid d1 else d1
      if mid < e ∧ e < b then sy_merge lt f mid e b d2 else d2
theorem sy_merge_size (lt : α → α → Bool) : ∀ (f a m b : Nat) (d : Array α), (sy_merge lt f a m b d).size = d.size
  | 0, _, _, _, _ => rfl
  | f + 1, a, m, b, d => by
    rw [sy_merge]
    split
    · exact sy_up_size _ _ _
    · split
      · exact sy_down_size _ _ _
      · simp only []
        generalize (if m > (a + b) / 2 then sy_bs (fun c => !lt d[(a + b) / 2 + m - 1 - c]! d[c]!) ((a + b) / 2 + m - b) ((a + b) / 2) else sy_bs (fun c => !lt d[(a + b) / 2 + m - 1 - c]! d[c]!) a m) = s
        have e1 : (if s < m ∧ m < (a + b) / 2 + m - s then sy_rot m ((a + b) / 2 + m - s - s) (m - s) ((a + b) / 2 + m - s - m) d else d).size = d.size := by
          split
          · exact sy_rot_size _ _ _ _ _
          · rfl
        generalize (if s < m ∧ m < (a + b) / 2 + m - s then sy_rot m ((a + b) / 2 + m - s - s) (m - s) ((a + b) / 2 + m - s - m) d else d) = d1 at e1 ⊢
        have e2 : (if a < s ∧ s < (a + b) / 2 then sy_merge lt f a s ((a + b) / 2) d1 else d1).size = d.size := by
          split
          · rw [sy_merge_size, e1]
          · exact e1
        split
        · rw [sy_merge_size, e2]
        · exact e2
/-- What lies left is not more than what lies right, behind two changes each of which stays on its side. -/
theorem sy_join {lt : α → α → Bool} {a mid b : Nat} {d1 d2 d3 : Array α} (h1 : a ≤ mid) (h2 : mid ≤ b) (hb : b ≤ d1.size) (p2 : PermIn a mid d1 d2) (p3 : PermIn mid b d2 d3) (s2 : SortedIn lt a mid d2) (s3 : SortedIn lt mid b d3)
    (hc : ∀ i j, a ≤ i → i < mid → mid ≤ j → j < b → lt d1[j]! d1[i]! = false) : PermIn a b d1 d3 ∧ SortedIn lt a b d3 := by
  have hz2 := p2.1
  refine ⟨permIn_trans _ _ _ a b (permIn_mono d1 d2 a mid a b (Nat.le_refl _) h2 hb p2) (permIn_mono d2 d3 mid b a b h1 (Nat.le_refl _) (by omega) p3), fun i j hai hij hjb => ?_⟩
  have e : ∀ i, i < mid → d3[i]! = d2[i]! := fun i hi => p3.2.1 i (Or.inl hi)
  by_cases c1 : j < mid
  · rw [e i (by omega), e j c1]; exact s2 i j hai hij c1
  · by_cases c2 : mid ≤ i
    · exact s3 i j c2 hij hjb
    · rw [e i (by omega)]
      refine permIn_all d2 d3 mid b (fun x => lt x d2[i]! = false) (by omega) p3 (fun j' hj1 hj2 => ?_) j (by omega) hjb
      rw [p2.2.1 j' (Or.inr hj1)]
      exact permIn_all d1 d2 a mid (fun x => lt d1[j']! x = false) (by omega) p2 (fun i' hi1 hi2 => hc i' j' hi1 hi2 hj1 hj2) i hai (by omega)
theorem sy_merge_ok {lt lu : α → α → Bool} (hS : SWO lu) : ∀ (f a m b : Nat) (d : Array α), b - a ≤ f → a < m → m < b → b ≤ d.size → SortedIn lu a m d → SortedIn lu m b d →
    (∀ i j, a ≤ i → i < m → m ≤ j → j < b → lt d[j]! d[i]! = lu d[j]! d[i]!) → PermIn a b d (sy_merge lt f a m b d) ∧ SortedIn lu a b (sy_merge lt f a m b d)
  | 0, a, m, b, d, h, h1, h2, _, _, _, _ => by omega
  | f + 1, a, m, b, d, hf, h1, h2, hb, sl, sr, ha => by
    rw [sy_merge]
    by_cases c1 : m - a = 1
    · rw [if_pos c1]
      have hm : m = a + 1 := by omega
      subst hm
      obtain ⟨q1, q2, q3, q4⟩ := sy_bs_spec (fun h => lt d[h]! d[a]!) (b - (a + 1)) (a + 1) b (Nat.le_refl _) (by omega) (fun c c' e1 e2 e3 e4 => by
        have e4 : lt d[c']! d[a]! = true := e4
        show lt d[c]! d[a]! = true
        rw [ha a c' (Nat.le_refl _) (by omega) (by omega) e3] at e4
        rw [ha a c (Nat.le_refl _) (by omega) e1 (by omega)]
        by_cases e : c = c'
        · rw [e]; exact e4
        · cases hx : lu d[c]! d[a]! with
          | true => rfl
          | false =>
            have := hS.ntrans _ _ _ (sr c c' e1 (by omega) e3) hx
            rw [e4] at this; cases this)
      obtain ⟨s, hs⟩ : ∃ s, sy_bs (fun h => lt d[h]! d[a]!) (a + 1) b = s := ⟨_, rfl⟩
      rw [hs] at q1 q2 q3 q4 ⊢
      refine ⟨sy_up_perm a b _ _ _ (Nat.le_refl _) (by omega) hb, fun i j hai hij hjb => ?_⟩
      have g := sy_up_get (s - 1 - a) a d (by omega)
      have low : ∀ c, a + 1 ≤ c → c < s → lu d[c]! d[a]! = true := fun c e1 e2 => by
        rw [← ha a c (Nat.le_refl _) (by omega) e1 (by omega)]; exact q3 c e1 e2
      have high : ∀ c, s ≤ c → c < b → lu d[c]! d[a]! = false := fun c e1 e2 => by
        rw [← ha a c (Nat.le_refl _) (by omega) (by omega) e2]; exact q4 c e1 e2
      rw [g i, g j]
      by_cases x1 : i < a ∨ a + (s - 1 - a) < i
      · rw [if_pos x1, if_pos (by omega)]; exact sr i j (by omega) hij hjb
      · rw [if_neg x1]
        by_cases x2 : i = a + (s - 1 - a)
        · rw [if_pos x2, if_pos (by omega)]; exact high j (by omega) hjb
        · rw [if_neg x2]
          by_cases y1 : j < a ∨ a + (s - 1 - a) < j
          · rw [if_pos y1]; exact sr (i + 1) j (by omega) (by omega) hjb
          · rw [if_neg y1]
            by_cases y2 : j = a + (s - 1 - a)
            · rw [if_pos y2]; exact hS.asymmA (low (i + 1) (by omega) (by omega))
            · rw [if_neg y2]; exact sr (i + 1) (j + 1) (by omega) (by omega) (by omega)
    · rw [if_neg c1]
      by_cases c2 : b - m = 1
      · rw [if_pos c2]
        have hm : b = m + 1 := by omega
        subst hm
        obtain ⟨q1, q2, q3, q4⟩ := sy_bs_spec (fun h => !lt d[m]! d[h]!) (m - a) a m (Nat.le_refl _) (by omega) (fun c c' e1 e2 e3 e4 => by
          have e4 : (!lt d[m]! d[c']!) = true := e4
          show (!lt d[m]! d[c]!) = true
          rw [Bool.not_eq_true'] at e4 ⊢
          rw [ha c' m (by omega) (by omega) (Nat.le_refl _) (by omega)] at e4
          rw [ha c m (by omega) (by omega) (Nat.le_refl _) (by omega)]
          by_cases e : c = c'
          · rw [e]; exact e4
          · exact hS.ntrans _ _ _ e4 (sl c c' e1 (by omega) e3))
        obtain ⟨s, hs⟩ : ∃ s, sy_bs (fun h => !lt d[m]! d[h]!) a m = s := ⟨_, rfl⟩
        rw [hs] at q1 q2 q3 q4 ⊢
        refine ⟨sy_down_perm a (m + 1) _ _ _ (by omega) (by omega) hb, fun i j hai hij hjb => ?_⟩
        have g := sy_down_get (m - s) m d (by omega) (by omega)
        have low : ∀ c, a ≤ c → c < s → lu d[m]! d[c]! = false := fun c e1 e2 => by
          rw [← ha c m e1 (by omega) (Nat.le_refl _) (by omega)]
          have := q3 c e1 e2
          simpa using this
        have high : ∀ c, s ≤ c → c < m → lu d[m]! d[c]! = true := fun c e1 e2 => by
          rw [← ha c m (by omega) (by omega) (Nat.le_refl _) (by omega)]
          have := q4 c e1 e2
          simpa using this
        rw [g i, g j]
        by_cases x1 : i < m - (m - s) ∨ m < i
        · rw [if_pos x1]
          by_cases y1 : j < m - (m - s) ∨ m < j
          · rw [if_pos y1]; exact sl i j hai hij (by omega)
          · rw [if_neg y1]
            by_cases y2 : j = m - (m - s)
            · rw [if_pos y2]; exact low i hai (by omega)
            · rw [if_neg y2]; exact sl i (j - 1) hai (by omega) (by omega)
        · rw [if_neg x1, if_neg (show ¬ (j < m - (m - s) ∨ m < j) by omega), if_neg (show ¬ j = m - (m - s) by omega)]
          by_cases x2 : i = m - (m - s)
          · rw [if_pos x2]; exact hS.asymmA (high (j - 1) (by omega) (by omega))
          · rw [if_neg x2]; exact sl (i - 1) (j - 1) (by omega) (by omega) (by omega)
      · rw [if_neg c2]
        simp only []
        obtain ⟨mid, hmid⟩ : ∃ mid, (a + b) / 2 = mid := ⟨_, rfl⟩
        rw [hmid]
        -- the search: its bounds and its test
        obtain ⟨lo, hi, hlo, hhi, hlh, hal, hbl, hend, htop⟩ : ∃ lo hi, (if m > mid then mid + m - b else a) = lo ∧ (if m > mid then mid else m) = hi ∧ lo ≤ hi ∧ a ≤ lo ∧ mid + m ≤ b + lo ∧ (lo = a ∨ mid + m = b + lo) ∧ (hi = m ∨ hi = mid) ∧ hi ≤ m ∧ hi ≤ mid := by
          by_cases c : m > mid
          · exact ⟨mid + m - b, mid, by rw [if_pos c], by rw [if_pos c], by omega, by omega, by omega, by omega, by omega, by omega, by omega⟩
          · exact ⟨a, m, by rw [if_neg c], by rw [if_neg c], by omega, by omega, by omega, by omega, by omega, by omega, by omega⟩
        obtain ⟨htop, hhm, hhd⟩ := htop
        have inR : ∀ c, lo ≤ c → c < hi → a ≤ c ∧ c < m ∧ m ≤ mid + m - 1 - c ∧ mid + m - 1 - c < b := fun c e1 e2 => by omega
        obtain ⟨q1, q2, q3, q4⟩ := sy_bs_spec (fun c => !lt d[mid + m - 1 - c]! d[c]!) (hi - lo) lo hi (Nat.le_refl _) hlh (fun c c' e1 e2 e3 e4 => by
          have e4 : (!lt d[mid + m - 1 - c']! d[c']!) = true := e4
          show (!lt d[mid + m - 1 - c]! d[c]!) = true
          rw [Bool.not_eq_true'] at e4 ⊢
          have r := inR c e1 (by omega)
          have r' := inR c' (by omega) e3
          rw [ha c' _ r'.1 r'.2.1 r'.2.2.1 r'.2.2.2] at e4
          rw [ha c _ r.1 r.2.1 r.2.2.1 r.2.2.2]
          by_cases e : c = c'
          · rw [e]; exact e4
          · exact hS.ntrans _ _ _ (sr _ _ r'.2.2.1 (by omega) r.2.2.2) (hS.ntrans _ _ _ e4 (sl c c' r.1 (by omega) r'.2.1)))
        have hsel : (if m > mid then sy_bs (fun c => !lt d[mid + m - 1 - c]! d[c]!) (mid + m - b) mid else sy_bs (fun c => !lt d[mid + m - 1 - c]! d[c]!) a m) = sy_bs (fun c => !lt d[mid + m - 1 - c]! d[c]!) lo hi := by
          rw [← hlo, ← hhi]; split <;> rfl
        rw [hsel]
        obtain ⟨s, hs⟩ : ∃ s, sy_bs (fun c => !lt d[mid + m - 1 - c]! d[c]!) lo hi = s := ⟨_, rfl⟩
        rw [hs] at q1 q2 q3 q4 ⊢
        clear hsel hs
        obtain ⟨e, he⟩ : ∃ e, mid + m - s = e := ⟨_, rfl⟩
        rw [he]
        have b1 : a ≤ s ∧ s ≤ m ∧ s ≤ mid ∧ m ≤ e ∧ e ≤ b ∧ mid ≤ e ∧ e - m = mid - s ∧ m - s = e - mid ∧ e + s = mid + m := by omega
        obtain ⟨b1, b2, b3, b4, b5, b6, b7, b8, b9⟩ := b1
        -- behind the rotation
        obtain ⟨d1, hd1⟩ : ∃ d1, (if s < m ∧ m < e then sy_rot m (e - s) (m - s) (e - m) d else d) = d1 := ⟨_, rfl⟩
        rw [hd1]
        have g : ∀ x, d1[x]! = if s ≤ x ∧ x < mid then d[x + (m - s)]! else if mid ≤ x ∧ x < e then d[x - (e - m)]! else d[x]! := fun x => by
          rw [← hd1]
          by_cases c : s < m ∧ m < e
          · rw [if_pos c, sy_rot_get m (e - s) (m - s) (e - m) d (by omega) (by omega) (by omega) (by omega) (by omega)]
            rw [show m - (m - s) = s by omega, show s + (e - m) = mid by omega, show m + (e - m) = e by omega]
          · rw [if_neg c]
            by_cases x1 : s ≤ x ∧ x < mid
            · rw [if_pos x1, show x + (m - s) = x by omega]
            · rw [if_neg x1]
              by_cases x2 : mid ≤ x ∧ x < e
              · rw [if_pos x2, show x - (e - m) = x by omega]
              · rw [if_neg x2]
        have p1 : PermIn a b d d1 := by
          rw [← hd1]
          split
          · exact sy_rot_perm a b m _ _ _ _ (by omega) (by omega) (by omega) (by omega) (by omega) (by omega) hb
          · exact permIn_refl d a b
        have z1 := p1.1
        clear hd1
        have s11 : SortedIn lu a s d1 := fun i j x1 x2 x3 => by
          rw [g i, g j, if_neg (by omega), if_neg (by omega), if_neg (by omega), if_neg (by omega)]; exact sl i j x1 x2 (by omega)
        have s12 : SortedIn lu s mid d1 := fun i j x1 x2 x3 => by
          rw [g i, g j, if_pos (by omega), if_pos (by omega)]; exact sr _ _ (by omega) (by omega) (by omega)
        have s13 : SortedIn lu mid e d1 := fun i j x1 x2 x3 => by
          rw [g i, g j, if_neg (by omega), if_pos (by omega), if_neg (by omega), if_pos (by omega)]; exact sl _ _ (by omega) (by omega) (by omega)
        have s14 : SortedIn lu e b d1 := fun i j x1 x2 x3 => by
          rw [g i, g j, if_neg (by omega), if_neg (by omega), if_neg (by omega), if_neg (by omega)]; exact sr i j (by omega) x2 x3
        have le_of : ∀ {l : Nat} {r : Nat} (S : SortedIn lu l r d) (i j : Nat), l ≤ i → i ≤ j → j < r → lu d[j]! d[i]! = false := fun S i j x1 x2 x3 => by
          by_cases e : i = j
          · rw [e]; exact hS.irrefl _
          · exact S i j x1 (by omega) x3
        -- the two crossings that the search tells of
        have kA : ∀ i j, a ≤ i → i < s → e ≤ j → j < b → lu d[j]! d[i]! = false := fun i j x1 x2 x3 x4 => by
          have hsl : lo < s := by omega
          have := q3 (s - 1) (by omega) (by omega)
          simp only [Bool.not_eq_true'] at this
          have r := inR (s - 1) (by omega) (by omega)
          rw [show mid + m - 1 - (s - 1) = e by omega] at this r
          rw [ha _ _ r.1 r.2.1 r.2.2.1 r.2.2.2] at this
          exact hS.ntrans _ _ _ (le_of sr e j (by omega) x3 x4) (hS.ntrans _ _ _ this (le_of sl i (s - 1) x1 (by omega) (by omega)))
        have kB : ∀ i j, s ≤ i → i < m → m ≤ j → j < e → lu d[i]! d[j]! = false := fun i j x1 x2 x3 x4 => by
          have hsl : s < hi := by omega
          have := q4 s (Nat.le_refl _) hsl
          simp only [Bool.not_eq_false'] at this
          have r := inR s q1 hsl
          rw [show mid + m - 1 - s = e - 1 by omega] at this r
          rw [ha _ _ r.1 r.2.1 r.2.2.1 r.2.2.2] at this
          have u1 := le_of sr j (e - 1) x3 (by omega) (by omega)
          have u2 := le_of sl s i (by omega) x1 x2
          cases hx : lu d[i]! d[j]! with
          | false => rfl
          | true =>
            have y1 := hS.ntrans _ _ _ u1 (hS.asymmA hx)
            have := hS.ntrans _ _ _ y1 u2
            simp_all
        have cross : ∀ i j, a ≤ i → i < mid → mid ≤ j → j < b → lu d1[j]! d1[i]! = false := fun i j x1 x2 x3 x4 => by
          rw [g i, g j, if_neg (show ¬ (s ≤ j ∧ j < mid) by omega)]
          by_cases y1 : s ≤ i ∧ i < mid
          · rw [if_pos y1]
            by_cases y2 : mid ≤ j ∧ j < e
            · rw [if_pos y2]; exact kB _ _ (by omega) (by omega) (by omega) (by omega)
            · rw [if_neg y2]; exact le_of sr _ _ (by omega) (by omega) x4
          · rw [if_neg y1, if_neg (show ¬ (mid ≤ i ∧ i < e) by omega)]
            by_cases y2 : mid ≤ j ∧ j < e
            · rw [if_pos y2]; exact le_of sl _ _ x1 (by omega) (by omega)
            · rw [if_neg y2]; exact kA i j x1 (by omega) (by omega) x4
        obtain ⟨d2, hd2⟩ : ∃ d2, (if a < s ∧ s < mid then sy_merge lt f a s mid d1 else d1) = d2 := ⟨_, rfl⟩
        have P2 : PermIn a mid d1 d2 ∧ SortedIn lu a mid d2 := by
          rw [← hd2]
          by_cases c : a < s ∧ s < mid
          · rw [if_pos c]
            refine sy_merge_ok hS f a s mid d1 (by omega) c.1 c.2 (by omega) s11 s12 (fun i j x1 x2 x3 x4 => ?_)
            rw [g i, g j, if_neg (show ¬ (s ≤ i ∧ i < mid) by omega), if_neg (show ¬ (mid ≤ i ∧ i < e) by omega), if_pos (by omega)]
            exact ha _ _ x1 (by omega) (by omega) (by omega)
          · rw [if_neg c]
            refine ⟨permIn_refl _ _ _, ?_⟩
            by_cases c2 : s = a
            · rw [← c2]; exact s12
            · rw [show mid = s by omega]; exact s11
        rw [hd2]
        obtain ⟨P2, S2⟩ := P2
        have z2 := P2.1
        have P3 : PermIn mid b d2 (if mid < e ∧ e < b then sy_merge lt f mid e b d2 else d2) ∧ SortedIn lu mid b (if mid < e ∧ e < b then sy_merge lt f mid e b d2 else d2) := by
          have g2 : ∀ x, mid ≤ x → d2[x]! = d1[x]! := fun x hx => P2.2.1 x (Or.inr hx)
          have t13 : SortedIn lu mid e d2 := fun i j x1 x2 x3 => by rw [g2 i x1, g2 j (by omega)]; exact s13 i j x1 x2 x3
          have t14 : SortedIn lu e b d2 := fun i j x1 x2 x3 => by rw [g2 i (by omega), g2 j (by omega)]; exact s14 i j x1 x2 x3
          by_cases c : mid < e ∧ e < b
          · rw [if_pos c]
            refine sy_merge_ok hS f mid e b d2 (by omega) c.1 c.2 (by omega) t13 t14 (fun i j x1 x2 x3 x4 => ?_)
            rw [g2 i x1, g2 j (by omega), g i, g j, if_neg (show ¬ (s ≤ i ∧ i < mid) by omega), if_pos (show mid ≤ i ∧ i < e by omega), if_neg (show ¬ (s ≤ j ∧ j < mid) by omega), if_neg (show ¬ (mid ≤ j ∧ j < e) by omega)]
            exact ha _ _ (by omega) (by omega) (by omega) x4
          · rw [if_neg c]
            refine ⟨permIn_refl _ _ _, ?_⟩
            by_cases c2 : e = mid
            · rw [← c2]; exact t14
            · rw [show b = e by omega]; exact t13
        obtain ⟨P3, S3⟩ := P3
        obtain ⟨PF, SF⟩ := sy_join (show a ≤ mid by omega) (show mid ≤ b by omega) (by omega) P2 P3 S2 S3 cross
        exact ⟨permIn_trans _ _ _ a b p1 PF, SF⟩
end Go.Proofs.Ytoalolbifakpiaa.P
