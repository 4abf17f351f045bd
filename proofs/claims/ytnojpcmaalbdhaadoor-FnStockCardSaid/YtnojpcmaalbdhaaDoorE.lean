/- Plain lemmas about functions with a number of rounds: loops that test all, copy all, mark all; sizes. -/
import Derived.Test.YtnojpcmaalbdhaaDoorD
namespace Go.Proofs.YtnojpcmaalbdhaaDoor.Pure
open Go.RowKit Go.Proofs.YtnojpcmaalbdhaaDoor.P Go.Proofs.YtnojpcmaalbdhaaDoorW.PrintWords Go.Proofs.YtnojpcmaalbdhaaDoorW.PrintLast

theorem w64 {x : Int} (h0 : -9223372036854775808 ≤ x) (h1 : x ≤ 9223372036854775807) : wrap64 x = x := by unfold wrap64; omega
theorem w64s {i n : Nat} (h : i < n) (hn : n ≤ 1000000000) : wrap64 ((i : Int) + 1) = ((i + 1 : Nat) : Int) := by rw [w64 (by omega) (by omega)]; omega

/-- What holds of the last place, and goes back from each place to the one ahead of it, holds of all. -/
theorem down {p : Nat → Prop} (n : Nat) (h0 : p n) (h1 : ∀ i, i < n → p (i + 1) → p i) : ∀ i, i ≤ n → p i := by
  intro i hi
  obtain ⟨d, rfl⟩ : ∃ d, n = i + d := ⟨n - i, by omega⟩
  induction d generalizing i with
  | zero => exact h0
  | succ d ih => exact h1 i (by omega) (ih (i + 1) (by have : i + 1 + d = i + (d + 1) := by omega
                                                       rw [this]; exact h0) (fun j hj => h1 j (by omega)) (by omega))

theorem drop_getD {α : Type} (z : α) (l : List α) (i : Nat) (h : i < l.length) : l.drop i = l.getD i z :: l.drop (i + 1) := by
  rw [List.drop_eq_getElem_cons h]; simp [List.getD_eq_getElem?_getD, List.getElem?_eq_getElem h]
theorem take_getD {α : Type} (z : α) (l : List α) (i : Nat) (h : i < l.length) : l.take (i + 1) = l.take i ++ [l.getD i z] := by
  rw [List.take_succ_eq_append_getElem h]; simp [List.getD_eq_getElem?_getD, List.getElem?_eq_getElem h]
theorem getD_mem {α : Type} (z : α) (l : List α) (i : Nat) (h : i < l.length) : l.getD i z ∈ l := by
  simp [List.getD_eq_getElem?_getD, List.getElem?_eq_getElem h]

/-- One round. -/
theorem ev_at {α : Type} {g f : Nat → Option α} {r : α} (k : Ev f r) (h : ∀ k, g (k + 1) = f k) : Ev g r := Ev.step h k
theorem ev_some {α : Type} {g : Nat → Option α} {r : α} (h : ∀ k, g (k + 1) = some r) : Ev g r := Ev.step (f := fun _ => some r) h (Ev.now r)

/-- A loop that tests all. -/
theorem ev_all {α : Type} (l : List α) (p : α → Bool) (g : Nat → Int → Option Bool) (fin : Bool) (h0 : ∀ k, g (k + 1) l.length = some fin)
    (h1 : ∀ k (i : Nat) (h : i < l.length), p l[i] = true → g (k + 1) i = g k ((i + 1 : Nat) : Int)) (h2 : ∀ k (i : Nat) (h : i < l.length), p l[i] = false → g (k + 1) i = some false) :
    Ev (fun k => g k 0) (l.all p && fin) := by
  have key : ∀ i, i ≤ l.length → Ev (fun k => g k (i : Int)) ((l.drop i).all p && fin) := by
    refine down l.length ?_ ?_
    · rw [List.drop_of_length_le (Nat.le_refl _)]
      exact ev_some (by simpa using h0)
    · intro i hi ih
      rw [List.drop_eq_getElem_cons hi, List.all_cons]
      cases hp : p l[i] with
      | true => rw [Bool.true_and]; exact ev_at ih (fun k => h1 k i hi hp)
      | false => simp only [Bool.false_and]; exact ev_some (fun k => h2 k i hi hp)
  have := key 0 (Nat.zero_le _)
  simpa using this

/-- A loop that finds all in order. -/
theorem ev_true (n : Nat) (g : Nat → Int → Option Bool) (h0 : ∀ k, g (k + 1) n = some true) (h1 : ∀ k (i : Nat), i < n → g (k + 1) i = g k ((i + 1 : Nat) : Int)) : Ev (fun k => g k 0) true := by
  have key : ∀ i, i ≤ n → Ev (fun k => g k (i : Int)) true := down n (ev_some h0) (fun i hi ih => ev_at ih (fun k => h1 k i hi))
  exact key 0 (Nat.zero_le _)

theorem set_take {α : Type} (acc : List α) (i : Nat) (v : α) (h : i < acc.length) : (acc.set i v).take (i + 1) = acc.take i ++ [v] := by
  rw [List.take_succ_eq_append_getElem (by simpa using h)]
  simp [List.take_set_of_le]

/-- A loop that copies all, each element by a function of rounds. -/
theorem ev_map' {α β : Type} (z : α) (l : List α) (f : α → β) (g : Nat → List β → Int → Option (List β)) (acc : List β) (hacc : acc.length = l.length)
    (h0 : ∀ k acc, acc.length = l.length → g (k + 1) acc l.length = some acc)
    (h1 : ∀ (i : Nat) acc (r : List β), i < l.length → acc.length = l.length → Ev (fun k => g k (acc.set i (f (l.getD i z))) ((i + 1 : Nat) : Int)) r → Ev (fun k => g k acc i) r) : Ev (fun k => g k acc 0) (l.map f) := by
  have key : ∀ i, i ≤ l.length → ∀ acc : List β, acc.length = l.length → Ev (fun k => g k acc (i : Int)) (acc.take i ++ (l.drop i).map f) := by
    refine down l.length ?_ ?_
    · intro acc ha
      rw [List.drop_of_length_le (Nat.le_refl _), List.take_of_length_le (by omega)]
      simpa using ev_some (fun k => h0 k acc ha)
    · intro i hi ih acc ha
      refine h1 i acc _ hi ha ?_
      have := ih (acc.set i (f (l.getD i z))) (by simpa using ha)
      rw [set_take acc i _ (by omega)] at this
      rw [drop_getD z l i hi, List.map_cons]
      simpa using this
  have := key 0 (Nat.zero_le _) acc hacc
  simpa using this

/-- A loop that copies all. -/
theorem ev_map {α β : Type} (z : α) (l : List α) (f : α → β) (g : Nat → List β → Int → Option (List β)) (acc : List β) (hacc : acc.length = l.length)
    (h0 : ∀ k acc, acc.length = l.length → g (k + 1) acc l.length = some acc)
    (h1 : ∀ k acc (i : Nat), i < l.length → acc.length = l.length → g (k + 1) acc i = g k (acc.set i (f (l.getD i z))) ((i + 1 : Nat) : Int)) : Ev (fun k => g k acc 0) (l.map f) :=
  ev_map' z l f g acc hacc h0 (fun i acc _ hi ha h => ev_at h (fun k => h1 k acc i hi ha))

/-- A loop that writes numbers into all. -/
theorem ev_mark {β : Type} (n : Nat) (c : Nat) (f : Int → β) (g : Nat → List β → Int → Int → Option (Int × List β)) (x : Int) (l : List β) (hl : l.length = n)
    (h0 : ∀ k x l, l.length = n → g (k + 1) l x n = some (x, l))
    (h1 : ∀ k l (i : Nat), i < n → l.length = n → g (k + 1) l (x + c * i) i = g k (l.set i (f (x + c * i))) (x + c * (i + 1 : Nat)) ((i + 1 : Nat) : Int)) :
    Ev (fun k => g k l x 0) (x + c * n, (List.range n).map fun i => f (x + c * (i : Nat))) := by
  have key : ∀ i, i ≤ n → ∀ l : List β, l.length = n → Ev (fun k => g k l (x + c * i) (i : Int)) (x + c * n, l.take i ++ ((List.range n).drop i).map fun i => f (x + c * (i : Nat))) := by
    refine down n ?_ ?_
    · intro l hl
      rw [List.drop_of_length_le (by simp), List.take_of_length_le (by omega)]
      simpa using ev_some (fun k => h0 k _ l hl)
    · intro i hi ih l hl
      refine ev_at ?_ (fun k => h1 k l i hi hl)
      have := ih (l.set i (f (x + c * i))) (by simpa using hl)
      rw [set_take l i _ (by omega)] at this
      rw [drop_getD 0 (List.range n) i (by simpa using hi), List.map_cons]
      have e : (List.range n).getD i 0 = i := by simp [List.getD_eq_getElem?_getD, hi]
      rw [e]
      simpa using this
  have := key 0 (Nat.zero_le _) l hl
  simpa using this

/-- A loop that finds the numbers where they were written. -/
theorem ev_held (n : Nat) (c : Nat) (g : Nat → Int → Int → Option Int) (x : Int)
    (h0 : ∀ k x, g (k + 1) x n = some x) (h1 : ∀ k (i : Nat), i < n → g (k + 1) (x + c * i) i = g k (x + c * (i + 1 : Nat)) ((i + 1 : Nat) : Int)) : Ev (fun k => g k x 0) (x + c * n) := by
  have key : ∀ i, i ≤ n → Ev (fun k => g k (x + c * i) (i : Int)) (x + c * n) := down n (ev_some (fun k => h0 k _)) (fun i hi ih => ev_at ih (fun k => h1 k i hi))
  have := key 0 (Nat.zero_le _)
  simpa using this

theorem getD_map_range {β : Type} (z : β) (n : Nat) (f : Nat → β) (i : Nat) (h : i < n) : ((List.range n).map f).getD i z = f i := by
  simp [List.getD_eq_getElem?_getD, h]
theorem getD_set_self {β : Type} (z : β) (l : List β) (i : Nat) (v : β) (h : i < l.length) : (l.set i v).getD i z = v := by
  simp [List.getD_eq_getElem?_getD, h]

/-- A number of a kind, as bounds. -/
theorem wf_bounds {x : Int} (h : (Lit.int .i64 x).wf = true) : -9223372036854775808 ≤ x ∧ x ≤ 9223372036854775807 := by
  have e : IntKind.i64.min = -9223372036854775808 := by rfl
  simp only [Lit.wf, Bool.and_eq_true, decide_eq_true_eq] at h
  have e2 : IntKind.i64.max = 9223372036854775807 := by rfl
  omega
theorem wf_u8 {x : Int} (h : (Lit.int .u8 x).wf = true) : 0 ≤ x ∧ x ≤ 255 := by
  have e : IntKind.u8.min = 0 := by rfl
  simp only [Lit.wf, Bool.and_eq_true, decide_eq_true_eq] at h
  have e2 : IntKind.u8.max = 255 := by rfl
  omega
end Go.Proofs.YtnojpcmaalbdhaaDoor.Pure
