/- Tests that lie below all others: is a number within bounds. -/
import Derived.Test.YtnojpcmaalbdhaaDoorE
namespace Go.Proofs.YtnojpcmaalbdhaaDoor.Pure
open Go.RowKit Go.Proofs.YtnojpcmaalbdhaaDoor.P Go.Proofs.YtnojpcmaalbdhaaDoorW.PrintWords Go.Proofs.YtnojpcmaalbdhaaDoorW.PrintLast

def inB (x a b : Int) : Bool := decide (a ≤ x) && decide (x ≤ b)
theorem l01In (x a b : Int) : spec_l01In.f x a b = some (inB x a b) := by unfold spec_l01In.f inB; by_cases h : a ≤ x <;> simp [h]
theorem between (x a b : Int) : impl_between.f x a b = some (inB x a b) := by unfold impl_between.f inB; by_cases h : a ≤ x <;> simp [h]
theorem inB_iff {x a b : Int} : inB x a b = true ↔ a ≤ x ∧ x ≤ b := by simp [inB]

/-- A loop that looks for one. -/
theorem ev_any {α : Type} (l : List α) (p : α → Bool) (g : Nat → Int → Option Bool) (h0 : ∀ k, g (k + 1) l.length = some false)
    (h1 : ∀ k (i : Nat) (h : i < l.length), p l[i] = true → g (k + 1) i = some true) (h2 : ∀ k (i : Nat) (h : i < l.length), p l[i] = false → g (k + 1) i = g k ((i + 1 : Nat) : Int)) :
    Ev (fun k => g k 0) (l.any p) := by
  have key : ∀ i, i ≤ l.length → Ev (fun k => g k (i : Int)) ((l.drop i).any p) := by
    refine down l.length ?_ ?_
    · rw [List.drop_of_length_le (Nat.le_refl _)]
      exact ev_some h0
    · intro i hi ih
      rw [List.drop_eq_getElem_cons hi, List.any_cons]
      cases hp : p l[i] with
      | false => rw [Bool.false_or]; exact ev_at ih (fun k => h2 k i hi hp)
      | true => simp only [Bool.true_or]; exact ev_some (fun k => h1 k i hi hp)
  have := key 0 (Nat.zero_le _)
  simpa using this

/-- A loop over the places that goes on or tells an end. -/
theorem ev_fold {α σ ρ : Type} (l : List α) (st : σ → α → σ) (g : Nat → σ → Int → Option ρ) (fin : σ → ρ) (Inv : Nat → σ → Prop)
    (h0 : ∀ s, Inv l.length s → Ev (fun k => g k s l.length) (fin s))
    (h1 : ∀ (i : Nat) (h : i < l.length) s (r : ρ), Inv i s → Inv (i + 1) (st s l[i]) ∧ (Ev (fun k => g k (st s l[i]) ((i + 1 : Nat) : Int)) r → Ev (fun k => g k s i) r)) :
    ∀ s, Inv 0 s → Ev (fun k => g k s 0) (fin (l.foldl st s)) := by
  have key : ∀ i, i ≤ l.length → ∀ s, Inv i s → Ev (fun k => g k s (i : Int)) (fin ((l.drop i).foldl st s)) := by
    refine down l.length (fun s hs => ?_) (fun i hi ih s hs => ?_)
    · rw [List.drop_of_length_le (Nat.le_refl _)]
      exact h0 s hs
    · rw [List.drop_eq_getElem_cons hi, List.foldl_cons]
      obtain ⟨hs', hg⟩ := h1 i hi s (fin ((l.drop (i + 1)).foldl st (st s l[i]))) hs
      exact hg (ih _ hs')
  intro s hs
  have := key 0 (Nat.zero_le _) s hs
  simpa using this
end Go.Proofs.YtnojpcmaalbdhaaDoor.Pure
