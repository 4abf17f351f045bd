/- Plain lemmas about functions with a number of rounds: loops that test all, copy all, mark all; sizes. -/
import Derived.Test.YtdpjoblnjjkbfaaDoorD
namespace Go.Proofs.YtdpjoblnjjkbfaaDoor.Pure
open Go.RowKit Go.Proofs.YtdpjoblnjjkbfaaDoor.P Go.Proofs.YtdpjoblnjjkbfaaDoorW.PrintWords Go.Proofs.YtdpjoblnjjkbfaaDoorW.PrintLast

theorem w64 {x : Int} (h0 : -9223372036854775808 ≤ x) (h1 : x ≤ 9223372036854775807) : wrap64 x = x := by unfold wrap64; omega
theorem w64s {i n : Nat} (h : i < n) (hn : n ≤ 1000000000) : wrap64 ((i : Int) + 1) = ((i + 1 : Nat) : Int) := by rw [w64 (by omega) (by omega)]; omega

/-- What holds of the last place, and goes back from each place to the one ahead of it, holds of all. -/
theorem down {p : Nat → Prop} (n : Nat) (h0 : p n) (h1 : ∀ i, i < n → p (i + 1) → p i) : ∀ i, i ≤ n → p i := by
  intro i hi
  obtain ⟨d, rfl⟩ : ∃ d, n = i + d := ⟨n - i, by omega⟩
  induction d generalizing i with
  | zero => exact h0
  | succ d ih => exact h1 i (by omega) (ih (i + 1) (by have : i + 1 + d = i + (d + 1) := by omega
                                                       rw [this]; exact h0) (fun j hj => h1 j (by omega)) (by omega))

theorem drop_getD {α : Type} (z : α) (l : List α) (i : Nat) (h : i < l.length) : l.drop i = l.getD i z :: l.drop (i + 1) := by
  rw [List.drop_eq_getElem_cons h]; simp [List.getD_eq_getElem?_getD, List.getElem?_eq_getElem h]
theorem take_getD {α : Type} (z : α) (l : List α) (i : Nat) (h : i < l.length) : l.take (i + 1) = l.take i ++ [l.getD i z] := by
  rw [List.take_succ_eq_append_getElem h]; simp [List.getD_eq_getElem?_getD, List.getElem?_eq_getElem h]
theorem getD_mem {α : Type} (z : α) (l : List α) (i : Nat) (h : i < l.length) : l.getD i z ∈ l := by
  simp [List.getD_eq_getElem?_getD, List.getElem?_eq_getElem h]

/-- One round. -/
theorem ev_at {α : Type} {g f : Nat → Option α} {r : α} (k : Ev f r) (h : ∀ k, g (k + 1) = f k) : Ev g r := Ev.step h k
theorem ev_some {α : Type} {g : Nat → Option α} {r : α} (h : ∀ k, g (k + 1) = some r) : Ev g r := Ev.step (f := fun _ => some r) h (Ev.now r)

theorem wf_u8 {x : Int} (h : (Lit.int .u8 x).wf = true) : 0 ≤ x ∧ x ≤ 255 := by
  have e : IntKind.u8.min = 0 := by rfl
  simp only [Lit.wf, Bool.and_eq_true, decide_eq_true_eq] at h
  have e2 : IntKind.u8.max = 255 := by rfl
  omega
end Go.Proofs.YtdpjoblnjjkbfaaDoor.Pure
