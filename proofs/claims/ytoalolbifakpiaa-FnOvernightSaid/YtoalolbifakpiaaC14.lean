/- Balanced: how many more begin at a node than end there. -/
import Derived.Test.YtoalolbifakpiaaT1
namespace Go.Proofs.Ytoalolbifakpiaa.Pure
open Go.RowKit Go.Proofs.Ytoalolbifakpiaa.P Go.Proofs.YtoalolbifakpiaaW.PrintWords Go.Proofs.YtoalolbifakpiaaW.PrintLast

/-- How many more begin at a node than end there. -/
def one (a : Int) (x : Nat) : Int := if a = (x : Int) then 1 else 0
def net : List S25 → Nat → Int
  | [], _ => 0
  | t :: ts, x => one t.f0 x - one t.f1 x + net ts x
theorem one_b (a : Int) (x : Nat) : 0 ≤ one a x ∧ one a x ≤ 1 := by unfold one; split <;> omega

theorem set_getD (xs : List Int) (i x : Nat) (v : Int) (h : i < xs.length) : (xs.set i v).getD x 0 = if x = i then v else xs.getD x 0 := by
  by_cases e : x = i
  · subst e
    simp [List.getD_eq_getElem?_getD, h]
  · simp [List.getD_eq_getElem?_getD, Ne.symm e, e]
theorem step_at (xs : List Int) (hx : xs.length = 30) (t : S25) (ht : 0 ≤ t.f0 ∧ t.f0 < 30 ∧ 0 ≤ t.f1 ∧ t.f1 < 30) (B : Int) (hB : 0 ≤ B ∧ B ≤ 1000000) (hb : ∀ x : Nat, -B ≤ xs.getD x 0 ∧ xs.getD x 0 ≤ B) (x : Nat) :
    (impl_Balanced.l1 (impl_Balanced.l1 xs t.f0 1) t.f1 (-1)).getD x 0 = xs.getD x 0 + one t.f0 x - one t.f1 x := by
  obtain ⟨h0, h1, h2, h3⟩ := ht
  obtain ⟨i, hi⟩ : ∃ i : Nat, t.f0 = (i : Int) := ⟨t.f0.toNat, by omega⟩
  obtain ⟨j, hj⟩ : ∃ j : Nat, t.f1 = (j : Int) := ⟨t.f1.toNat, by omega⟩
  unfold impl_Balanced.l1 one
  rw [hi, hj, Int.toNat_natCast, Int.toNat_natCast]
  have bi := hb i
  have bj := hb j
  rw [set_getD _ j x _ (by simp; omega), set_getD xs i x _ (by omega), set_getD xs i j _ (by omega), w64 (x := xs.getD i 0 + 1) (by omega) (by omega)]
  by_cases e1 : x = j
  · subst e1
    rw [if_pos rfl]
    by_cases e2 : x = i
    · subst e2
      rw [if_pos rfl, if_pos rfl, w64 (by omega) (by omega)]
      omega
    · rw [if_neg e2, if_neg (by omega), if_pos rfl, w64 (by omega) (by omega)]
      omega
  · rw [if_neg e1]
    by_cases e2 : x = i
    · subst e2
      rw [if_pos rfl, if_pos rfl, if_neg (by omega)]
      omega
    · rw [if_neg e2, if_neg (by omega), if_neg (by omega)]
      omega
theorem impl_bal : ∀ (ts : List S25) (xs : List Int) (B : Int), xs.length = 30 → (∀ t, t ∈ ts → taskB t = true) → 0 ≤ B → B + 2 * ts.length ≤ 1000000 → (∀ x : Nat, -B ≤ xs.getD x 0 ∧ xs.getD x 0 ≤ B) →
    impl_Balanced.l0 ts xs = some ((List.range 30).all fun x => decide (xs.getD x 0 + net ts x = 0))
  | [], xs, B, hx, _, _, _, _ => by
    unfold impl_Balanced.l0
    congr 1
    rw [Bool.eq_iff_iff, List.all_eq_true, List.all_eq_true]
    constructor
    · intro h x hx'
      have hx2 : x < 30 := by simpa using hx'
      have := h (xs.getD x 0) (getD_mem 0 xs x (by omega))
      simp only [decide_eq_true_eq] at this ⊢
      simp only [net]
      omega
    · intro h y hy
      obtain ⟨i, hi, rfl⟩ := List.mem_iff_getElem.1 hy
      have := h i (by simp; omega)
      simpa [net, List.getD_eq_getElem?_getD, List.getElem?_eq_getElem hi] using this
  | t :: ts, xs, B, hx, ht, hB, hB2, hb => by
    have h1 := taskB_bounds (ht t (by simp))
    rw [List.length_cons] at hB2
    have hst := step_at xs hx t ⟨h1.1.1, by omega, h1.2.1.1, by omega⟩ B ⟨hB, by omega⟩ hb
    rw [impl_Balanced.l0, if_pos ⟨h1.1.1, by omega, h1.2.1.1, by omega⟩]
    rw [impl_bal ts _ (B + 1) (by simp [impl_Balanced.l1, hx]) (fun u hu => ht u (by simp [hu])) (by omega) (by omega) (fun x => by
      rw [hst x]
      have := hb x
      have := one_b t.f0 x
      have := one_b t.f1 x
      omega)]
    congr 1
    rw [Bool.eq_iff_iff, List.all_eq_true, List.all_eq_true]
    constructor
    · intro h x hx'
      have := h x hx'
      rw [hst x] at this
      simp only [decide_eq_true_eq] at this ⊢
      simp only [net]
      omega
    · intro h x hx'
      have := h x hx'
      rw [hst x]
      simp only [decide_eq_true_eq] at this ⊢
      simp only [net] at this
      omega
theorem impl_balanced (l : List S25) (h : l.length ≤ 1048576) : Ev (fun k => impl_Balanced.f k l) (tasksB l && (List.range 30).all fun x => decide (net l x = 0)) := by
  unfold impl_Balanced.f
  refine Ev.bind (impl_tasks l h) ?_
  cases ht : tasksB l
  · simpa using Ev.now _
  · have hp := tasksB_parts ht
    simp only [if_true, Bool.true_and]
    have := impl_bal l (List.replicate 30 0) 0 (by simp) hp.2 (Int.le_refl _) (by omega) (fun x => by
      have : (List.replicate 30 (0 : Int)).getD x 0 = 0 := by
        simp only [List.getD_eq_getElem?_getD, List.getElem?_replicate]
        split <;> rfl
      rw [this]
      omega)
    rw [this]
    have e : ((List.range 30).all fun x => decide ((List.replicate 30 (0 : Int)).getD x 0 + net l x = 0)) = (List.range 30).all fun x => decide (net l x = 0) := by
      congr 1
      funext x
      have : (List.replicate 30 (0 : Int)).getD x 0 = 0 := by
        simp only [List.getD_eq_getElem?_getD, List.getElem?_replicate]
        split <;> rfl
      rw [this, Int.zero_add]
    rw [e]
    exact Ev.now _

end Go.Proofs.Ytoalolbifakpiaa.Pure
