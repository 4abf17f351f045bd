/- The fewest pieces from each place of a row on, and the place the first piece leads to: what both programs reckon from the end. -/
import Derived.Test.YtnamdbnnijfniaaR4
namespace Go.Proofs.Ytnamdbnnijfniaa.Pure
open Go.RowKit Go.Proofs.Ytnamdbnnijfniaa.P Go.Proofs.YtnamdbnnijfniaaW.PrintWords Go.Proofs.YtnamdbnnijfniaaW.PrintLast

theorem getD_set_at {β : Type} (z : β) (l : List β) (i x : Nat) (v : β) (h : x ≠ i) : (l.set i v).getD x z = l.getD x z := by
  simp [List.getD_eq_getElem?_getD, Ne.symm h]

/-- One more place j is looked at for place i. -/
def stp (F : Nat → Nat → Bool) (i j : Nat) (p : List Int × List Int) : List Int × List Int :=
  if 0 ≤ p.1.getD j 0 ∧ F i j = true ∧ (p.1.getD i 0 < 0 ∨ p.1.getD j 0 + 1 < p.1.getD i 0) then (p.1.set i (p.1.getD j 0 + 1), p.2.set i (j : Int)) else p
def inn (F : Nat → Nat → Bool) (i : Nat) : Nat → Nat → List Int × List Int → List Int × List Int
  | 0, _, p => p
  | e + 1, j, p => inn F i e (j + 1) (stp F i j p)
def outr (F : Nat → Nat → Bool) (N : Nat) : Nat → List Int × List Int → List Int × List Int
  | 0, p => p
  | d + 1, p => outr F N d (inn F d (min N (d + 12) - d) (d + 1) (p.1.set d (-1), p.2))

/-- Of the places below m the least was taken, the first of them. -/
def BestTo (F : Nat → Nat → Bool) (i m : Nat) (p : List Int × List Int) : Prop :=
  (p.1.getD i 0 = -1 ∧ ∀ j, i < j → j < m → F i j = true → p.1.getD j 0 < 0) ∨
  ∃ t : Nat, i < t ∧ t < m ∧ F i t = true ∧ 0 ≤ p.1.getD t 0 ∧ p.1.getD i 0 = p.1.getD t 0 + 1 ∧ p.2.getD i 0 = (t : Int) ∧
    ∀ j, i < j → j < m → F i j = true → 0 ≤ p.1.getD j 0 → p.1.getD t 0 ≤ p.1.getD j 0 ∧ (j < t → p.1.getD t 0 < p.1.getD j 0)
structure Sh (N : Nat) (p : List Int × List Int) : Prop where
  l1 : p.1.length = N + 1
  l2 : p.2.length = N
  b : ∀ x, x ≤ N → -1 ≤ p.1.getD x 0 ∧ p.1.getD x 0 ≤ (N : Int) - x
  e : p.1.getD N 0 = 0

theorem stp_sh {F : Nat → Nat → Bool} {N i j : Nat} {p : List Int × List Int} (h : Sh N p) (hi : i < N) (hij : i < j) (hj : j ≤ N) : Sh N (stp F i j p) := by
  unfold stp
  split
  · rename_i hc
    refine ⟨by simpa using h.l1, by simpa using h.l2, fun x hx => ?_, ?_⟩
    · simp only
      by_cases e : x = i
      · subst e
        rw [getD_set_self 0 p.1 x _ (by rw [h.l1]; omega)]
        have := h.b j hj
        omega
      · rw [getD_set_at 0 p.1 i x _ e]
        exact h.b x hx
    · simp only
      rw [getD_set_at 0 p.1 i N _ (by omega)]
      exact h.e
  · exact h
theorem stp_keeps {F : Nat → Nat → Bool} {i j x : Nat} (p : List Int × List Int) (hx : x ≠ i) : (stp F i j p).1.getD x 0 = p.1.getD x 0 ∧ (stp F i j p).2.getD x 0 = p.2.getD x 0 := by
  unfold stp
  split
  · exact ⟨getD_set_at 0 p.1 i x _ hx, getD_set_at 0 p.2 i x _ hx⟩
  · exact ⟨rfl, rfl⟩
theorem stp_best {F : Nat → Nat → Bool} {N i j : Nat} {p : List Int × List Int} (h : Sh N p) (hi : i < N) (hij : i < j) (hb : BestTo F i j p) : BestTo F i (j + 1) (stp F i j p) := by
  have hk : ∀ x, x ≠ i → (stp F i j p).1.getD x 0 = p.1.getD x 0 := fun x hx => (stp_keeps p hx).1
  by_cases hc : 0 ≤ p.1.getD j 0 ∧ F i j = true ∧ (p.1.getD i 0 < 0 ∨ p.1.getD j 0 + 1 < p.1.getD i 0)
  · refine .inr ⟨j, hij, Nat.lt_succ_self j, hc.2.1, by rw [hk j (by omega)]; exact hc.1, ?_, ?_, fun x hx hxm hF hx0 => ?_⟩
    · rw [hk j (by omega)]
      unfold stp
      rw [if_pos hc]
      exact getD_set_self 0 p.1 i _ (by rw [h.l1]; omega)
    · unfold stp
      rw [if_pos hc]
      exact getD_set_self 0 p.2 i _ (by rw [h.l2]; omega)
    · rw [hk x (by omega)] at hx0
      rw [hk j (by omega), hk x (by omega)]
      by_cases e : x = j
      · subst e
        exact ⟨Int.le_refl _, fun h => absurd h (Nat.lt_irrefl _)⟩
      · rcases hb with ⟨_, hn⟩ | ⟨t, _, _, _, ht0, hti, _, hall⟩
        · have := hn x hx (by omega) hF
          omega
        · have := hall x hx (by omega) hF hx0
          omega
  · have es : stp F i j p = p := by unfold stp; rw [if_neg hc]
    rw [es]
    rcases hb with ⟨h1, hn⟩ | ⟨t, h1, h2, h3, h4, h5, h6, hall⟩
    · refine .inl ⟨h1, fun x hx hxm hF => ?_⟩
      by_cases e : x = j
      · subst e
        refine Int.not_le.1 (fun h0 => hc ⟨h0, hF, .inl (by omega)⟩)
      · exact hn x hx (by omega) hF
    · refine .inr ⟨t, h1, by omega, h3, h4, h5, h6, fun x hx hxm hF hx0 => ?_⟩
      by_cases e : x = j
      · subst e
        refine ⟨Int.not_lt.1 (fun hlt => hc ⟨hx0, hF, .inr (by omega)⟩), fun h => by omega⟩
      · exact hall x hx (by omega) hF hx0

theorem inn_all {F : Nat → Nat → Bool} {N i : Nat} (hi : i < N) : ∀ (e j : Nat) (p : List Int × List Int), Sh N p → i < j → j + e ≤ N + 1 → BestTo F i j p →
    Sh N (inn F i e j p) ∧ BestTo F i (j + e) (inn F i e j p) ∧ ∀ x, x ≠ i → (inn F i e j p).1.getD x 0 = p.1.getD x 0 ∧ (inn F i e j p).2.getD x 0 = p.2.getD x 0
  | 0, j, p, h, _, _, hb => ⟨h, hb, fun _ _ => ⟨rfl, rfl⟩⟩
  | e + 1, j, p, h, hij, hje, hb => by
    have := inn_all hi e (j + 1) (stp F i j p) (stp_sh h hi hij (by omega)) (by omega) (by omega) (stp_best h hi hij hb)
    rw [show j + 1 + e = j + (e + 1) by omega] at this
    refine ⟨this.1, this.2.1, fun x hx => ?_⟩
    have h1 := this.2.2 x hx
    have h2 := stp_keeps (F := F) (j := j) p hx
    exact ⟨h1.1.trans h2.1, h1.2.trans h2.2⟩

theorem best_congr {F : Nat → Nat → Bool} {i m : Nat} {p q : List Int × List Int} (h : ∀ x, i ≤ x → p.1.getD x 0 = q.1.getD x 0 ∧ p.2.getD x 0 = q.2.getD x 0) (hb : BestTo F i m p) : BestTo F i m q := by
  rcases hb with ⟨h1, hn⟩ | ⟨t, h1, h2, h3, h4, h5, h6, hall⟩
  · exact .inl ⟨by rw [← (h i (Nat.le_refl _)).1]; exact h1, fun x hx hm hF => by rw [← (h x (by omega)).1]; exact hn x hx hm hF⟩
  · refine .inr ⟨t, h1, h2, h3, by rw [← (h t (by omega)).1]; exact h4, by rw [← (h t (by omega)).1, ← (h i (Nat.le_refl _)).1]; exact h5, by rw [← (h i (Nat.le_refl _)).2]; exact h6, fun x hx hm hF h0 => ?_⟩
    rw [← (h x (by omega)).1] at h0 ⊢
    rw [← (h t (by omega)).1]
    exact hall x hx hm hF h0

theorem set_sh {N x : Nat} {p : List Int × List Int} (h : Sh N p) (hx : x < N) : Sh N (p.1.set x (-1), p.2) := by
  refine ⟨by simpa using h.l1, h.l2, fun y hy => ?_, ?_⟩
  · by_cases e : y = x
    · subst e
      simp only
      rw [getD_set_self 0 p.1 y _ (by rw [h.l1]; omega)]
      omega
    · simp only
      rw [getD_set_at 0 p.1 x y _ e]
      exact h.b y hy
  · simp only
    rw [getD_set_at 0 p.1 x N _ (by omega)]
    exact h.e

theorem outr_all {F : Nat → Nat → Bool} {N : Nat} : ∀ (d : Nat) (p : List Int × List Int), d ≤ N → Sh N p → (∀ i, d ≤ i → i < N → BestTo F i (min N (i + 12) + 1) p) →
    Sh N (outr F N d p) ∧ ∀ i, i < N → BestTo F i (min N (i + 12) + 1) (outr F N d p)
  | 0, p, _, h, hb => ⟨h, fun i hi => hb i (Nat.zero_le _) hi⟩
  | d + 1, p, hd, h, hb => by
    have h0 : Sh N (p.1.set d (-1), p.2) := set_sh h hd
    have hb0 : BestTo F d (d + 1) (p.1.set d (-1), p.2) := .inl ⟨getD_set_self 0 p.1 d _ (by rw [h.l1]; omega), fun j h1 h2 => by omega⟩
    obtain ⟨g1, g2, g3⟩ := inn_all (F := F) (show d < N by omega) (min N (d + 12) - d) (d + 1) _ h0 (Nat.lt_succ_self d) (by omega) hb0
    rw [show d + 1 + (min N (d + 12) - d) = min N (d + 12) + 1 by omega] at g2
    refine outr_all d _ (by omega) g1 (fun i hi hiN => ?_)
    by_cases e : i = d
    · subst e
      exact g2
    · refine best_congr (p := p) (fun x hx => ?_) (hb i (by omega) hiN)
      have := g3 x (by omega)
      rw [this.1, this.2]
      exact ⟨(getD_set_at 0 p.1 d x _ (by omega)).symm, rfl⟩

/-- The rows in the end. -/
def few (F : Nat → Nat → Bool) (N : Nat) : List Int × List Int := outr F N N (List.replicate (N + 1) 0, List.replicate N 0)
theorem start_sh (N : Nat) : Sh N (List.replicate (N + 1) 0, List.replicate N 0) :=
  ⟨by simp, by simp, fun x hx => by simp [List.getD_eq_getElem?_getD, List.getElem?_replicate]; split <;> simp <;> omega, by simp [List.getD_eq_getElem?_getD]⟩
theorem few_all (F : Nat → Nat → Bool) (N : Nat) : Sh N (few F N) ∧ ∀ i, i < N → BestTo F i (min N (i + 12) + 1) (few F N) :=
  outr_all N _ (Nat.le_refl N) (start_sh N) (fun i h1 h2 => by omega)
def cst (F : Nat → Nat → Bool) (N i : Nat) : Int := (few F N).1.getD i 0
def nxt (F : Nat → Nat → Bool) (N i : Nat) : Nat := ((few F N).2.getD i 0).toNat

/-- Where there is a way: the place the first piece leads to. -/
theorem nxt_is {F : Nat → Nat → Bool} {N i : Nat} (hi : i < N) (h : 0 ≤ cst F N i) : i < nxt F N i ∧ nxt F N i ≤ N ∧ nxt F N i ≤ i + 12 ∧ F i (nxt F N i) = true ∧ 0 ≤ cst F N (nxt F N i) ∧ cst F N i = cst F N (nxt F N i) + 1 ∧
    (few F N).2.getD i 0 = (nxt F N i : Int) ∧ ∀ j, i < j → j ≤ N → j ≤ i + 12 → F i j = true → 0 ≤ cst F N j → cst F N (nxt F N i) ≤ cst F N j ∧ (j < nxt F N i → cst F N (nxt F N i) < cst F N j) := by
  rcases (few_all F N).2 i hi with ⟨h1, hn⟩ | ⟨t, h1, h2, h3, h4, h5, h6, hall⟩
  · unfold cst at h
    omega
  · have e : nxt F N i = t := by unfold nxt; rw [h6]; omega
    rw [e]
    exact ⟨h1, by omega, by omega, h3, h4, h5, h6, fun j a b c => hall j a (by omega)⟩
theorem no_way {F : Nat → Nat → Bool} {N i : Nat} (hi : i < N) (h : cst F N i < 0) : ∀ j, i < j → j ≤ N → j ≤ i + 12 → F i j = true → cst F N j < 0 := by
  rcases (few_all F N).2 i hi with ⟨h1, hn⟩ | ⟨t, h1, h2, h3, h4, h5, h6, hall⟩
  · exact fun j a b c => hn j a (by omega)
  · unfold cst at h
    omega
theorem cst_end (F : Nat → Nat → Bool) (N : Nat) : cst F N N = 0 := (few_all F N).1.e
theorem cst_b (F : Nat → Nat → Bool) {N i : Nat} (hi : i ≤ N) : -1 ≤ cst F N i ∧ cst F N i ≤ (N : Int) - i := (few_all F N).1.b i hi
theorem cst_zero {F : Nat → Nat → Bool} {N i : Nat} (hi : i ≤ N) (h : cst F N i = 0) : i = N := by
  refine Nat.le_antisymm hi (Nat.not_lt.1 (fun hlt => ?_))
  have := nxt_is (F := F) hlt (by omega)
  omega

/-- The places where a piece begins. -/
def wlk (F : Nat → Nat → Bool) (N : Nat) : Nat → Nat → List Int
  | 0, _ => []
  | d + 1, i => if i < N then (i : Int) :: wlk F N d (nxt F N i) else []
theorem wlk_len {F : Nat → Nat → Bool} {N : Nat} : ∀ d i, i ≤ N → N - i ≤ d → 0 ≤ cst F N i → ((wlk F N d i).length : Int) = cst F N i
  | 0, i, hi, hd, _ => by
    have : i = N := by omega
    rw [this, cst_end]
    simp [wlk]
  | d + 1, i, hi, hd, h0 => by
    by_cases hlt : i < N
    · obtain ⟨h1, h2, _, _, h4, h5, _⟩ := nxt_is hlt h0
      have := wlk_len d (nxt F N i) h2 (by omega) h4
      simp only [wlk, hlt, if_true, List.length_cons]
      omega
    · have : i = N := by omega
      rw [this, cst_end]
      simp [wlk]
theorem wlk_short {F : Nat → Nat → Bool} {N : Nat} : ∀ d i, (wlk F N d i).length ≤ d
  | 0, _ => Nat.le_refl _
  | d + 1, i => by
    have := wlk_short (F := F) (N := N) d (nxt F N i)
    simp only [wlk]
    split
    · simp only [List.length_cons]
      omega
    · simp
theorem one_is {F : Nat → Nat → Bool} {N : Nat} (hN : 1 ≤ N) (h : 0 ≤ cst F N 0) : cst F N 0 = 1 ↔ N ≤ 12 ∧ F 0 N = true := by
  obtain ⟨h1, h2, h3, h4, h5, h6, _, h8⟩ := nxt_is (show 0 < N by omega) h
  constructor
  · intro e
    have := cst_zero (F := F) h2 (by omega)
    rw [this] at h3 h4
    exact ⟨by omega, h4⟩
  · intro ⟨h12, hF⟩
    have := (h8 N (by omega) (Nat.le_refl _) (by omega) hF (by rw [cst_end]; exact Int.le_refl _)).1
    rw [cst_end] at this
    omega
end Go.Proofs.Ytnamdbnnijfniaa.Pure
