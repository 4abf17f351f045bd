/- Tasks, their order, their units, their matchings, over lists alone. -/
import Derived.Test.YtoalolbifakpiaaD
namespace Go.Proofs.Ytoalolbifakpiaa.Pure
open Go.RowKit Go.Proofs.Ytoalolbifakpiaa.P Go.Proofs.YtoalolbifakpiaaW.PrintWords Go.Proofs.YtoalolbifakpiaaW.PrintLast
set_option linter.unusedVariables false
set_option linter.unusedSimpArgs false

theorem w64 {x : Int} (h0 : -9223372036854775808 ≤ x) (h1 : x ≤ 9223372036854775807) : wrap64 x = x := by unfold wrap64; omega
theorem w64s {i n : Nat} (h : i < n) (hn : n ≤ 1000000000) : wrap64 ((i : Int) + 1) = ((i + 1 : Nat) : Int) := by rw [w64 (by omega) (by omega)]; omega

/-- What holds of the last place, and goes back from each place to the one ahead of it, holds of all. -/
theorem down {p : Nat → Prop} (n : Nat) (h0 : p n) (h1 : ∀ i, i < n → p (i + 1) → p i) : ∀ i, i ≤ n → p i := by
  intro i hi
  obtain ⟨d, rfl⟩ : ∃ d, n = i + d := ⟨n - i, by omega⟩
  induction d generalizing i with
  | zero => exact h0
  | succ d ih => exact h1 i (by omega) (ih (i + 1) (by have : i + 1 + d = i + (d + 1) := by omega
                                                       rw [this]; exact h0) (fun j hj => h1 j (by omega)) (by omega))

theorem drop_getD {α : Type} (z : α) (l : List α) (i : Nat) (h : i < l.length) : l.drop i = l.getD i z :: l.drop (i + 1) := by
  rw [List.drop_eq_getElem_cons h]; simp [List.getD_eq_getElem?_getD, List.getElem?_eq_getElem h]
theorem take_getD {α : Type} (z : α) (l : List α) (i : Nat) (h : i < l.length) : l.take (i + 1) = l.take i ++ [l.getD i z] := by
  rw [List.take_succ_eq_append_getElem h]; simp [List.getD_eq_getElem?_getD, List.getElem?_eq_getElem h]
theorem getD_mem {α : Type} (z : α) (l : List α) (i : Nat) (h : i < l.length) : l.getD i z ∈ l := by
  simp [List.getD_eq_getElem?_getD, List.getElem?_eq_getElem h]

/-- One round. -/
theorem ev_at {α : Type} {g f : Nat → Option α} {r : α} (k : Ev f r) (h : ∀ k, g (k + 1) = f k) : Ev g r := Ev.step h k
theorem ev_some {α : Type} {g : Nat → Option α} {r : α} (h : ∀ k, g (k + 1) = some r) : Ev g r := Ev.step (f := fun _ => some r) h (Ev.now r)

/-- A loop that tests all. -/
theorem ev_all {α : Type} (l : List α) (p : α → Bool) (g : Nat → Int → Option Bool) (fin : Bool) (h0 : ∀ k, g (k + 1) l.length = some fin)
    (h1 : ∀ k (i : Nat) (h : i < l.length), p l[i] = true → g (k + 1) i = g k ((i + 1 : Nat) : Int)) (h2 : ∀ k (i : Nat) (h : i < l.length), p l[i] = false → g (k + 1) i = some false) :
    Ev (fun k => g k 0) (l.all p && fin) := by
  have key : ∀ i, i ≤ l.length → Ev (fun k => g k (i : Int)) ((l.drop i).all p && fin) := by
    refine down l.length ?_ ?_
    · rw [List.drop_of_length_le (Nat.le_refl _)]
      exact ev_some (by simpa using h0)
    · intro i hi ih
      rw [List.drop_eq_getElem_cons hi, List.all_cons]
      cases hp : p l[i] with
      | true => rw [Bool.true_and]; exact ev_at ih (fun k => h1 k i hi hp)
      | false => simp only [Bool.false_and]; exact ev_some (fun k => h2 k i hi hp)
  have := key 0 (Nat.zero_le _)
  simpa using this

/-- A loop that finds all in order. -/
theorem ev_true (n : Nat) (g : Nat → Int → Option Bool) (h0 : ∀ k, g (k + 1) n = some true) (h1 : ∀ k (i : Nat), i < n → g (k + 1) i = g k ((i + 1 : Nat) : Int)) : Ev (fun k => g k 0) true := by
  have key : ∀ i, i ≤ n → Ev (fun k => g k (i : Int)) true := down n (ev_some h0) (fun i hi ih => ev_at ih (fun k => h1 k i hi))
  exact key 0 (Nat.zero_le _)

theorem set_take {α : Type} (acc : List α) (i : Nat) (v : α) (h : i < acc.length) : (acc.set i v).take (i + 1) = acc.take i ++ [v] := by
  rw [List.take_succ_eq_append_getElem (by simpa using h)]
  simp [List.take_set_of_le]

/-- A loop that copies all, each element by a function of rounds. -/
theorem ev_map' {α β : Type} (z : α) (l : List α) (f : α → β) (g : Nat → List β → Int → Option (List β)) (acc : List β) (hacc : acc.length = l.length)
    (h0 : ∀ k acc, acc.length = l.length → g (k + 1) acc l.length = some acc)
    (h1 : ∀ (i : Nat) acc (r : List β), i < l.length → acc.length = l.length → Ev (fun k => g k (acc.set i (f (l.getD i z))) ((i + 1 : Nat) : Int)) r → Ev (fun k => g k acc i) r) : Ev (fun k => g k acc 0) (l.map f) := by
  have key : ∀ i, i ≤ l.length → ∀ acc : List β, acc.length = l.length → Ev (fun k => g k acc (i : Int)) (acc.take i ++ (l.drop i).map f) := by
    refine down l.length ?_ ?_
    · intro acc ha
      rw [List.drop_of_length_le (Nat.le_refl _), List.take_of_length_le (by omega)]
      simpa using ev_some (fun k => h0 k acc ha)
    · intro i hi ih acc ha
      refine h1 i acc _ hi ha ?_
      have := ih (acc.set i (f (l.getD i z))) (by simpa using ha)
      rw [set_take acc i _ (by omega)] at this
      rw [drop_getD z l i hi, List.map_cons]
      simpa using this
  have := key 0 (Nat.zero_le _) acc hacc
  simpa using this

/-- A loop that copies all. -/
theorem ev_map {α β : Type} (z : α) (l : List α) (f : α → β) (g : Nat → List β → Int → Option (List β)) (acc : List β) (hacc : acc.length = l.length)
    (h0 : ∀ k acc, acc.length = l.length → g (k + 1) acc l.length = some acc)
    (h1 : ∀ k acc (i : Nat), i < l.length → acc.length = l.length → g (k + 1) acc i = g k (acc.set i (f (l.getD i z))) ((i + 1 : Nat) : Int)) : Ev (fun k => g k acc 0) (l.map f) :=
  ev_map' z l f g acc hacc h0 (fun i acc _ hi ha h => ev_at h (fun k => h1 k acc i hi ha))

/-- A loop that writes numbers into all. -/
theorem ev_mark {β : Type} (n : Nat) (c : Nat) (f : Int → β) (g : Nat → List β → Int → Int → Option (Int × List β)) (x : Int) (l : List β) (hl : l.length = n)
    (h0 : ∀ k x l, l.length = n → g (k + 1) l x n = some (x, l))
    (h1 : ∀ k l (i : Nat), i < n → l.length = n → g (k + 1) l (x + c * i) i = g k (l.set i (f (x + c * i))) (x + c * (i + 1 : Nat)) ((i + 1 : Nat) : Int)) :
    Ev (fun k => g k l x 0) (x + c * n, (List.range n).map fun i => f (x + c * (i : Nat))) := by
  have key : ∀ i, i ≤ n → ∀ l : List β, l.length = n → Ev (fun k => g k l (x + c * i) (i : Int)) (x + c * n, l.take i ++ ((List.range n).drop i).map fun i => f (x + c * (i : Nat))) := by
    refine down n ?_ ?_
    · intro l hl
      rw [List.drop_of_length_le (by simp), List.take_of_length_le (by omega)]
      simpa using ev_some (fun k => h0 k _ l hl)
    · intro i hi ih l hl
      refine ev_at ?_ (fun k => h1 k l i hi hl)
      have := ih (l.set i (f (x + c * i))) (by simpa using hl)
      rw [set_take l i _ (by omega)] at this
      rw [drop_getD 0 (List.range n) i (by simpa using hi), List.map_cons]
      have e : (List.range n).getD i 0 = i := by simp [List.getD_eq_getElem?_getD, hi]
      rw [e]
      simpa using this
  have := key 0 (Nat.zero_le _) l hl
  simpa using this

/-- A loop that finds the numbers where they were written. -/
theorem ev_held (n : Nat) (c : Nat) (g : Nat → Int → Int → Option Int) (x : Int)
    (h0 : ∀ k x, g (k + 1) x n = some x) (h1 : ∀ k (i : Nat), i < n → g (k + 1) (x + c * i) i = g k (x + c * (i + 1 : Nat)) ((i + 1 : Nat) : Int)) : Ev (fun k => g k x 0) (x + c * n) := by
  have key : ∀ i, i ≤ n → Ev (fun k => g k (x + c * i) (i : Int)) (x + c * n) := down n (ev_some (fun k => h0 k _)) (fun i hi ih => ev_at ih (fun k => h1 k i hi))
  have := key 0 (Nat.zero_le _)
  simpa using this

theorem getD_map_range {β : Type} (z : β) (n : Nat) (f : Nat → β) (i : Nat) (h : i < n) : ((List.range n).map f).getD i z = f i := by
  simp [List.getD_eq_getElem?_getD, h]
theorem getD_set_self {β : Type} (z : β) (l : List β) (i : Nat) (v : β) (h : i < l.length) : (l.set i v).getD i z = v := by
  simp [List.getD_eq_getElem?_getD, h]

/-- A number of a kind, as bounds. -/
theorem wf_bounds {x : Int} (h : (Lit.int .i64 x).wf = true) : -9223372036854775808 ≤ x ∧ x ≤ 9223372036854775807 := by
  have e : IntKind.i64.min = -9223372036854775808 := by rfl
  simp only [Lit.wf, Bool.and_eq_true, decide_eq_true_eq] at h
  have e2 : IntKind.i64.max = 9223372036854775807 := by rfl
  omega
theorem wf_u8 {x : Int} (h : (Lit.int .u8 x).wf = true) : 0 ≤ x ∧ x ≤ 255 := by
  have e : IntKind.u8.min = 0 := by rfl
  simp only [Lit.wf, Bool.and_eq_true, decide_eq_true_eq] at h
  have e2 : IntKind.u8.max = 255 := by rfl
  omega


def inB (x a b : Int) : Bool := decide (a ≤ x) && decide (x ≤ b)
theorem l01In (x a b : Int) : spec_l01In.f x a b = some (inB x a b) := by unfold spec_l01In.f inB; by_cases h : a ≤ x <;> simp [h]
theorem between (x a b : Int) : impl_between.f x a b = some (inB x a b) := by unfold impl_between.f inB; by_cases h : a ≤ x <;> simp [h]
theorem inB_iff {x a b : Int} : inB x a b = true ↔ a ≤ x ∧ x ≤ b := by simp [inB]

/-- A loop that looks for one. -/
theorem ev_any {α : Type} (l : List α) (p : α → Bool) (g : Nat → Int → Option Bool) (h0 : ∀ k, g (k + 1) l.length = some false)
    (h1 : ∀ k (i : Nat) (h : i < l.length), p l[i] = true → g (k + 1) i = some true) (h2 : ∀ k (i : Nat) (h : i < l.length), p l[i] = false → g (k + 1) i = g k ((i + 1 : Nat) : Int)) :
    Ev (fun k => g k 0) (l.any p) := by
  have key : ∀ i, i ≤ l.length → Ev (fun k => g k (i : Int)) ((l.drop i).any p) := by
    refine down l.length ?_ ?_
    · rw [List.drop_of_length_le (Nat.le_refl _)]
      exact ev_some h0
    · intro i hi ih
      rw [List.drop_eq_getElem_cons hi, List.any_cons]
      cases hp : p l[i] with
      | false => rw [Bool.false_or]; exact ev_at ih (fun k => h2 k i hi hp)
      | true => simp only [Bool.true_or]; exact ev_some (fun k => h1 k i hi hp)
  have := key 0 (Nat.zero_le _)
  simpa using this

/-- A loop over the places that goes on or tells an end. -/
theorem ev_fold {α σ ρ : Type} (l : List α) (st : σ → α → σ) (g : Nat → σ → Int → Option ρ) (fin : σ → ρ) (Inv : Nat → σ → Prop)
    (h0 : ∀ s, Inv l.length s → Ev (fun k => g k s l.length) (fin s))
    (h1 : ∀ (i : Nat) (h : i < l.length) s (r : ρ), Inv i s → Inv (i + 1) (st s l[i]) ∧ (Ev (fun k => g k (st s l[i]) ((i + 1 : Nat) : Int)) r → Ev (fun k => g k s i) r)) :
    ∀ s, Inv 0 s → Ev (fun k => g k s 0) (fin (l.foldl st s)) := by
  have key : ∀ i, i ≤ l.length → ∀ s, Inv i s → Ev (fun k => g k s (i : Int)) (fin ((l.drop i).foldl st s)) := by
    refine down l.length (fun s hs => ?_) (fun i hi ih s hs => ?_)
    · rw [List.drop_of_length_le (Nat.le_refl _)]
      exact h0 s hs
    · rw [List.drop_eq_getElem_cons hi, List.foldl_cons]
      obtain ⟨hs', hg⟩ := h1 i hi s (fin ((l.drop (i + 1)).foldl st (st s l[i]))) hs
      exact hg (ih _ hs')
  intro s hs
  have := key 0 (Nat.zero_le _) s hs
  simpa using this


def unt (x : S23) : S25 := ⟨x.f0, x.f1, x.f2, x.f3, x.f4⟩
theorem to_tasks (l : List S23) (h : l.length ≤ 1048576) : Ev (fun k => laws_toTaskS.f k l) (l.map unt) := by
  have key := ev_map z23 l unt (fun k acc i => laws_toTaskS.l0 k l acc i) (List.replicate l.length z25) (by simp)
    (fun k acc ha => by simp [laws_toTaskS.l0])
    (fun k acc i hi ha => by simp [laws_toTaskS.l0, laws_toTask.f, w64s hi (by omega), hi, ha, rd_T23, unt])
  simpa [laws_toTaskS.f, show l.length ≤ 7036874417766 by omega] using key
theorem eq_tasks (l : List S25) (h : l.length ≤ 1048576) : Ev (fun k => laws_eqTaskS.f k l l) true := by
  have key := ev_true l.length (fun k i => laws_eqTaskS.l0 k l l i) (fun k => by simp [laws_eqTaskS.l0]) (fun k i hi => by simp [laws_eqTaskS.l0, laws_eqTask.f, w64s hi (by omega), hi])
  simpa [laws_eqTaskS.f] using key
theorem sz_tasks (l : List S23) (n : Int) (h0 : 0 ≤ n) (h1 : n ≤ 1048576) (h : l.length ≤ maxLen) : laws_szTaskS.f l n = some (if n < l.length then -1 else n - l.length) := by
  unfold maxLen at h
  unfold laws_szTaskS.f
  rw [w64 (by omega) (by omega)]
  split <;> split <;> first | rfl | omega

/-- A task that is right. -/
def taskB (t : S25) : Bool := inB t.f0 0 29 && inB t.f1 0 29 && inB t.f3 0 100000 && inB t.f2 0 (t.f3 - 1) && inB t.f4 0 2000
theorem taskB_iff (t : S25) : taskB t = true ↔ ((0 ≤ t.f0 ∧ t.f0 ≤ 29) ∧ (0 ≤ t.f1 ∧ t.f1 ≤ 29)) ∧ (0 ≤ t.f2 ∧ t.f2 < t.f3 ∧ t.f3 ≤ 100000) ∧ (0 ≤ t.f4 ∧ t.f4 ≤ 2000) := by
  simp only [taskB, Bool.and_eq_true, inB_iff]
  omega
theorem spec_task (t : S25) : spec_l16Task.f t.f0 t.f1 t.f2 t.f3 t.f4 = some (taskB t) := by
  unfold spec_l16Task.f taskB
  simp only [l01In, Option.bind_some]
  cases inB t.f0 0 29 <;> cases inB t.f1 0 29 <;> simp
  cases h : inB t.f3 0 100000 <;> simp
  have := inB_iff.1 h
  rw [w64 (by omega) (by omega)]
  cases inB t.f2 0 (t.f3 - 1) <;> simp
theorem impl_task (t : S25) : impl_taskOk.f t.f0 t.f1 t.f2 t.f3 t.f4 = some (taskB t) := by
  unfold impl_taskOk.f
  simp only [impl_isMinute.f, between, Option.bind_some]
  by_cases h : taskB t = true
  · obtain ⟨⟨a, b⟩, ⟨c, d, e⟩, f⟩ := (taskB_iff t).1 h
    rw [h, inB_iff.2 a, inB_iff.2 b, inB_iff.2 (show 0 ≤ t.f2 ∧ t.f2 ≤ 100000 by omega), inB_iff.2 (show 0 ≤ t.f3 ∧ t.f3 ≤ 100000 by omega), inB_iff.2 f]
    simp [d]
  · rw [Bool.not_eq_true] at h
    rw [h]
    cases ha : inB t.f0 0 29 <;> cases hb : inB t.f1 0 29 <;> cases hc : inB t.f2 0 100000 <;> cases hd : inB t.f3 0 100000 <;> cases hf : inB t.f4 0 2000 <;> simp
    refine Int.not_lt.1 (fun hlt => ?_)
    have := (taskB_iff t).2 ⟨⟨inB_iff.1 ha, inB_iff.1 hb⟩, ⟨(inB_iff.1 hc).1, hlt, (inB_iff.1 hd).2⟩, inB_iff.1 hf⟩
    rw [h] at this
    simp at this

def tasksB (l : List S25) : Bool := l.all taskB && decide ((l.length : Int) ≤ 40)
theorem spec_tasks (l : List S25) (h : l.length ≤ 1048576) : Ev (fun k => spec_TasksOk.f k l) (tasksB l) :=
  ev_all l taskB (fun k i => spec_TasksOk.l0 k l i) (decide ((l.length : Int) ≤ 40)) (fun k => by simp [spec_TasksOk.l0])
    (fun k i hi hp => by
      have := spec_task l[i]
      simp [spec_TasksOk.l0, hi, rd_T25, this, hp, w64s hi (by omega)])
    (fun k i hi hp => by
      have := spec_task l[i]
      simp [spec_TasksOk.l0, hi, rd_T25, this, hp])
theorem impl_tasks (l : List S25) (h : l.length ≤ 1048576) : Ev (fun k => impl_TasksOk.f k l) (tasksB l) := by
  have key := ev_all l taskB (fun k i => impl_TasksOk.l0 k l l.length i) true (fun k => by simp [impl_TasksOk.l0])
    (fun k i hi hp => by
      have := impl_task l[i]
      simp [impl_TasksOk.l0, hi, rd_T25, this, hp, w64s hi (by omega)])
    (fun k i hi hp => by
      have := impl_task l[i]
      simp [impl_TasksOk.l0, hi, rd_T25, this, hp])
  unfold impl_TasksOk.f tasksB
  by_cases hl : (l.length : Int) ≤ 40
  · simpa [hl, show ¬ (40 < (l.length : Int)) by omega] using key
  · simp only [hl, decide_false, Bool.and_false, show (l.length : Int) > 40 by omega, if_true]
    exact Ev.now _
theorem tasksB_parts {l : List S25} (h : tasksB l = true) : l.length ≤ 40 ∧ ∀ t, t ∈ l → taskB t = true := by
  simp only [tasksB, Bool.and_eq_true, List.all_eq_true, decide_eq_true_eq] at h
  exact ⟨by omega, h.1⟩
theorem taskB_bounds {t : S25} (h : taskB t = true) : (0 ≤ t.f0 ∧ t.f0 ≤ 29) ∧ (0 ≤ t.f1 ∧ t.f1 ≤ 29) ∧ (0 ≤ t.f2 ∧ t.f2 < t.f3 ∧ t.f3 ≤ 100000) ∧ (0 ≤ t.f4 ∧ t.f4 ≤ 2000) := by
  obtain ⟨⟨a, b⟩, c, d⟩ := (taskB_iff t).1 h
  exact ⟨a, b, c, d⟩


def follB (a b : S25) (turn : Int) : Bool := decide (a.f1 = b.f0) && decide (a.f3 + turn ≤ b.f2)
def followsB (a b : S25) (turn : Int) : Bool := taskB a && taskB b && inB turn 0 120 && follB a b turn
theorem impl_foll {a : S25} (b : S25) {turn : Int} (ha : taskB a = true) (ht : 0 ≤ turn ∧ turn ≤ 120) : impl_follows.f a.f0 a.f1 a.f2 a.f3 a.f4 b.f0 b.f1 b.f2 b.f3 b.f4 turn = some (follB a b turn) := by
  have := (taskB_bounds ha).2.2.1
  unfold impl_follows.f follB
  rw [w64 (by omega) (by omega)]
  by_cases h : a.f1 = b.f0 <;> simp [h]
theorem spec_follows (a b : S25) (turn : Int) : spec_Follows.f a.f0 a.f1 a.f2 a.f3 a.f4 b.f0 b.f1 b.f2 b.f3 b.f4 turn = some (followsB a b turn) := by
  unfold spec_Follows.f followsB spec_l16Turn.f
  simp only [spec_task, l01In, Option.bind_some]
  cases ha : taskB a <;> cases taskB b <;> simp
  cases ht : inB turn 0 120 <;> simp
  have := (taskB_bounds ha).2.2.1
  have := inB_iff.1 ht
  unfold follB
  rw [w64 (by omega) (by omega)]
  by_cases h : a.f1 = b.f0 <;> simp [h]


theorem spec_has (xs : List Int) (a : Int) (h : xs.length ≤ 1000000) : Ev (fun k => spec_l01Has.f k xs a) (xs.any fun x => decide (x = a)) := by
  refine ev_any xs (fun x => decide (x = a)) (fun k i => spec_l01Has.l0 k xs a i) (fun k => by simp [spec_l01Has.l0]) (fun k i hi hp => ?_) (fun k i hi hp => ?_)
  · have e : rd xs (i : Int) = xs[i] := by unfold rd; rw [Int.toNat_natCast, List.getD_eq_getElem?_getD, List.getElem?_eq_getElem hi]; rfl
    simp only [decide_eq_true_eq] at hp
    simp [spec_l01Has.l0, hi, e, hp]
  · have e : rd xs (i : Int) = xs[i] := by unfold rd; rw [Int.toNat_natCast, List.getD_eq_getElem?_getD, List.getElem?_eq_getElem hi]; rfl
    simp only [decide_eq_false_iff_not] at hp
    simp [spec_l01Has.l0, hi, e, hp, w64s hi (by omega)]
/-- The places, by Dep and place. -/
def ordN (l : List S25) : List Nat := (List.range l.length).mergeSort (impl_byDep.l1 l)
theorem ord_map (l : List S25) : impl_byDep.l0 l = (ordN l).map (fun (i : Nat) => (i : Int)) := rfl
theorem ord_perm (l : List S25) : (ordN l).Perm (List.range l.length) := List.mergeSort_perm _ _
theorem ord_len (l : List S25) : (ordN l).length = l.length := by rw [(ord_perm l).length_eq, List.length_range]
theorem ord_mem (l : List S25) (x : Nat) : x ∈ ordN l ↔ x < l.length := by rw [(ord_perm l).mem_iff, List.mem_range]
theorem ord_nodup (l : List S25) : (ordN l).Nodup := (ord_perm l).symm.nodup List.nodup_range
theorem le_trans' (l : List S25) (a b c : Nat) (h1 : impl_byDep.l1 l a b = true) (h2 : impl_byDep.l1 l b c = true) : impl_byDep.l1 l a c = true := by
  simp only [impl_byDep.l1, decide_eq_true_eq] at h1 h2 ⊢
  omega
theorem le_total' (l : List S25) (a b : Nat) : (impl_byDep.l1 l a b || impl_byDep.l1 l b a) = true := by
  simp only [impl_byDep.l1, Bool.or_eq_true, decide_eq_true_eq]
  omega
theorem ord_sorted (l : List S25) : List.Pairwise (fun a b => impl_byDep.l1 l a b = true) (ordN l) := List.pairwise_mergeSort (le_trans' l) (le_total' l) _
theorem le_antisymm' (l : List S25) (a b : Nat) (h1 : impl_byDep.l1 l a b = true) (h2 : impl_byDep.l1 l b a = true) : a = b := by
  simp only [impl_byDep.l1, decide_eq_true_eq] at h1 h2
  omega
theorem any_cast (m : List Nat) (x : Nat) : ((m.map (fun (i : Nat) => (i : Int))).any fun y => decide (y = (x : Int))) = decide (x ∈ m) := by
  rw [Bool.eq_iff_iff, List.any_eq_true]
  simp only [decide_eq_true_eq, List.mem_map]
  constructor
  · rintro ⟨_, ⟨a, ha, rfl⟩, h⟩
    have : a = x := by omega
    rwa [← this]
  · intro h
    exact ⟨_, ⟨x, h, rfl⟩, rfl⟩
/-- The best so far: of the places below j that are not taken. -/
def bestAt (l : List S25) (tk : List Nat) (j : Nat) (x : Int) : Prop := (x = -1 ∧ ∀ y, y < j → y ∈ tk) ∨ (∃ b : Nat, x = (b : Int) ∧ b < j ∧ b ∉ tk ∧ ∀ y, y < j → y ∉ tk → impl_byDep.l1 l b y = true)
theorem bestAt_taken {l : List S25} {tk : List Nat} {j : Nat} {x : Int} (h : bestAt l tk j x) (hj : j ∈ tk) : bestAt l tk (j + 1) x := by
  rcases h with ⟨h1, h2⟩ | ⟨b, h1, h2, h3, h4⟩
  · exact Or.inl ⟨h1, fun y hy => by by_cases e : y = j; (· rw [e]; exact hj); exact h2 y (by omega)⟩
  · exact Or.inr ⟨b, h1, by omega, h3, fun y hy hn => h4 y (by have : y ≠ j := fun e => hn (e ▸ hj)
                                                               omega) hn⟩
theorem bestAt_first {l : List S25} {tk : List Nat} {j : Nat} {x : Int} (h : bestAt l tk j x) (hj : j ∉ tk) (hx : x < 0) : bestAt l tk (j + 1) (j : Int) := by
  rcases h with ⟨h1, h2⟩ | ⟨b, h1, h2, h3, h4⟩
  · exact Or.inr ⟨j, rfl, by omega, hj, fun y hy hn => by
      by_cases e : y = j
      · rw [e]; simp [impl_byDep.l1]
      · exact absurd (h2 y (by omega)) hn⟩
  · omega
theorem bestAt_next {l : List S25} {tk : List Nat} {j b : Nat} (h : bestAt l tk j (b : Int)) (hj : j ∉ tk) : bestAt l tk (j + 1) (if (rd_T25 l j).f2 < (rd_T25 l b).f2 then (j : Int) else (b : Int)) := by
  rcases h with ⟨h1, h2⟩ | ⟨b', h1, h2, h3, h4⟩
  · omega
  · have e : b = b' := by omega
    subst e
    by_cases c : (rd_T25 l j).f2 < (rd_T25 l b).f2
    · rw [if_pos c]
      refine Or.inr ⟨j, rfl, by omega, hj, fun y hy hn => ?_⟩
      by_cases e : y = j
      · rw [e]; simp [impl_byDep.l1]
      · have := h4 y (by omega) hn
        simp only [impl_byDep.l1, decide_eq_true_eq] at this ⊢
        omega
    · rw [if_neg c]
      refine Or.inr ⟨b, rfl, by omega, h3, fun y hy hn => ?_⟩
      by_cases e : y = j
      · rw [e]
        simp only [impl_byDep.l1, decide_eq_true_eq]
        omega
      · exact h4 y (by omega) hn
theorem best_end (l : List S25) (i : Nat) (hi : i < l.length) (x : Int) (h : bestAt l ((ordN l).take i) l.length x) : x = (((ordN l)[i]'(by rw [ord_len]; exact hi) : Nat) : Int) := by
  have hl : i < (ordN l).length := by rw [ord_len]; exact hi
  have nd := ord_nodup l
  have hnot : (ordN l)[i] ∉ (ordN l).take i := fun hm => by
    obtain ⟨j, hj, e⟩ := List.mem_iff_getElem.1 hm
    rw [List.getElem_take] at e
    rw [List.length_take] at hj
    have := (List.getElem_inj nd).1 e
    omega
  have hlt : (ordN l)[i] < l.length := (ord_mem l _).1 (List.getElem_mem _)
  rcases h with ⟨h1, h2⟩ | ⟨b, rfl, h2, h3, h4⟩
  · exact absurd (h2 _ hlt) hnot
  · have hb : b ∈ (ordN l).take i ++ (ordN l).drop i := by rw [List.take_append_drop]; exact (ord_mem l b).2 h2
    rcases List.mem_append.1 hb with hb | hb
    · exact absurd hb h3
    · rw [List.drop_eq_getElem_cons hl] at hb
      rcases List.mem_cons.1 hb with hb | hb
      · rw [hb]
      · have hs := ord_sorted l
        have h5 : impl_byDep.l1 l (ordN l)[i] b = true := by
          obtain ⟨j, hj, e⟩ := List.mem_iff_getElem.1 hb
          rw [List.getElem_drop] at e
          rw [← e]
          exact (List.pairwise_iff_getElem.1 hs) i (i + 1 + j) hl (by rw [List.length_drop] at hj; omega) (by omega)
        rw [le_antisymm' l _ _ (h4 _ hlt hnot) h5]
theorem spec_order (l : List S25) (h : l.length ≤ 1000000) : Ev (fun k => spec_l16Order.f k l) (impl_byDep.l0 l) := by
  have hO := ord_map l
  have hlen : (impl_byDep.l0 l).length = l.length := by rw [hO, List.length_map, ord_len]
  have key : ∀ i, i ≤ l.length → Ev (fun k => spec_l16Order.l0 k l ((impl_byDep.l0 l).take i)) (impl_byDep.l0 l) := by
    refine down l.length ?_ (fun i hi ih => ?_)
    · rw [List.take_of_length_le (by omega)]
      exact ev_some (fun k => by simp [spec_l16Order.l0, hlen])
    · have hti : ((impl_byDep.l0 l).take i).length = i := by rw [List.length_take]; omega
      have hm : (impl_byDep.l0 l).take i = ((ordN l).take i).map (fun (i : Nat) => (i : Int)) := by rw [hO, List.map_take]
      have inner : ∀ j, j ≤ l.length → ∀ x, bestAt l ((ordN l).take i) j x → Ev (fun k => spec_l16Order.l1 k l ((impl_byDep.l0 l).take i) x (j : Int)) (impl_byDep.l0 l) := by
        refine down l.length (fun x hx => ?_) (fun j hj ih2 x hx => ?_)
        · have hx2 := best_end l i hi x hx
          refine ev_at ih (fun k => ?_)
          have e : (impl_byDep.l0 l).take (i + 1) = (impl_byDep.l0 l).take i ++ [x] := by
            rw [List.take_succ_eq_append_getElem (by omega), hx2]
            simp [hO]
          simp only [spec_l16Order.l1, Int.lt_irrefl, if_false]
          rw [if_pos (by omega), e]
        · have hh := spec_has ((impl_byDep.l0 l).take i) (j : Int) (by omega)
          rw [hm, any_cast, ← hm] at hh
          refine ev_at (f := fun k => (spec_l01Has.f k ((impl_byDep.l0 l).take i) (j : Int)).bind fun t => if t = true then spec_l16Order.l1 k l ((impl_byDep.l0 l).take i) x ((j + 1 : Nat) : Int) else if x < 0 then spec_l16Order.l1 k l ((impl_byDep.l0 l).take i) (j : Int) ((j + 1 : Nat) : Int) else if x < l.length then (if (rd_T25 l j).f2 < (rd_T25 l x).f2 then spec_l16Order.l1 k l ((impl_byDep.l0 l).take i) (j : Int) ((j + 1 : Nat) : Int) else spec_l16Order.l1 k l ((impl_byDep.l0 l).take i) x ((j + 1 : Nat) : Int)) else none) ?_ (fun k => ?_)
          · refine Ev.bind hh ?_
            by_cases c : j ∈ (ordN l).take i
            · simp only [c, decide_true, if_true]
              exact ih2 x (bestAt_taken hx c)
            · simp only [c, decide_false, Bool.false_eq_true, if_false]
              by_cases c2 : x < 0
              · simp only [c2, if_true]
                exact ih2 _ (bestAt_first hx c c2)
              · obtain ⟨b, rfl⟩ : ∃ b : Nat, x = (b : Int) := ⟨x.toNat, by omega⟩
                have hb : b < j := by rcases hx with ⟨h1, _⟩ | ⟨b', h1, h2, _⟩ <;> omega
                have := ih2 _ (bestAt_next hx c)
                simp only [c2, if_false, show ((b : Nat) : Int) < (l.length : Int) by omega, if_true]
                by_cases c3 : (rd_T25 l j).f2 < (rd_T25 l b).f2
                · simp only [c3, if_true] at this ⊢; exact this
                · simp only [c3, if_false] at this ⊢; exact this
          · simp only [spec_l16Order.l1, show (j : Int) < (l.length : Int) by omega, if_true, w64s hj (show l.length ≤ 1000000000 by omega), show (0 : Int) ≤ (j : Int) by omega]
            congr 1
            funext t
            by_cases c : t = true
            · simp [c]
            · simp only [c]
              by_cases c2 : x < 0
              · simp [c2]
              · simp [c2, show 0 ≤ x by omega]
      refine ev_at (inner 0 (by omega) (-1) (Or.inl ⟨rfl, fun y hy => by omega⟩)) (fun k => ?_)
      simp only [spec_l16Order.l0]
      rw [if_pos (by omega)]
      rfl
  have := key 0 (Nat.zero_le _)
  simpa [spec_l16Order.f] using this


theorem l3_foll {a : S25} (b : S25) {turn : Int} (ha : taskB a = true) (ht : 0 ≤ turn ∧ turn ≤ 120) : impl_chains.l3 turn a b = follB a b turn := by
  have := (taskB_bounds ha).2.2.1
  unfold impl_chains.l3 follB
  rw [w64 (by omega) (by omega)]
def cat (us : List (List Int)) (u : Nat) : List Int := us.getD u []
def lst (c : List Int) : Int := rd c ((c.length - 1 : Nat) : Int)
def lasts (us : List (List Int)) : List Int := us.map lst
theorem l2_lst (us : List (List Int)) (u : Nat) : impl_chains.l2 us u = lst (cat us u) := rfl
theorem lst_snoc (c : List Int) (t : Int) : lst (c ++ [t]) = t := by
  unfold lst rd
  rw [List.length_append, List.length_singleton, Int.toNat_natCast]
  simp
theorem lst_mem (c : List Int) (h : c ≠ []) : lst c ∈ c := by
  unfold lst rd
  have := List.length_pos_iff.2 h
  rw [Int.toNat_natCast, List.getD_eq_getElem?_getD, List.getElem?_eq_getElem (show c.length - 1 < c.length by omega)]
  exact List.getElem_mem _
theorem lasts_rd (us : List (List Int)) (u : Nat) (h : u < us.length) : rd (lasts us) (u : Int) = lst (cat us u) := by
  unfold rd lasts cat
  rw [Int.toNat_natCast, List.getD_eq_getElem?_getD, List.getElem?_map, List.getElem?_eq_getElem h, List.getD_eq_getElem?_getD, List.getElem?_eq_getElem h]
  rfl
theorem cat_push (us : List (List Int)) (c : List Int) (u : Nat) (h : u < us.length + 1) : cat (us ++ [c]) u = if u = us.length then c else cat us u := by
  unfold cat
  rw [List.getD_eq_getElem?_getD]
  by_cases e : u = us.length
  · rw [if_pos e, e]; simp
  · rw [if_neg e, List.getElem?_append_left (by omega), ← List.getD_eq_getElem?_getD]
theorem cat_set (us : List (List Int)) (b u : Nat) (c : List Int) (h : b < us.length) : cat (us.set b c) u = if b = u then c else cat us u := by
  unfold cat
  rw [List.getD_eq_getElem?_getD, List.getElem?_set]
  by_cases e : b = u
  · rw [if_pos e, if_pos e, if_pos h]; rfl
  · rw [if_neg e, if_neg e, ← List.getD_eq_getElem?_getD]
def un (out : List Int) (t : Int) : Int := out.getD t.toNat (-1)
theorem un_set (out : List Int) (t x v : Int) (ht : 0 ≤ t) (hx : 0 ≤ x) (h : t < out.length) : un (out.set t.toNat v) x = if x = t then v else un out x := by
  unfold un
  rw [List.getD_eq_getElem?_getD, List.getElem?_set]
  by_cases e : x = t
  · rw [if_pos e, if_pos (by rw [e]), if_pos (by omega)]; rfl
  · rw [if_neg e, if_neg (by omega), ← List.getD_eq_getElem?_getD]
/-- The units' rows and the numbers by task say the same of the tasks done. -/
structure Rel (n : Nat) (ts : List Int) (us : List (List Int)) (out : List Int) : Prop where
  ol : out.length = n
  ne : ∀ u, u < us.length → cat us u ≠ []
  fil : ∀ u : Nat, u < us.length → cat us u = ts.filter (fun t => un out t == (u : Int))
  ins : ∀ t, t ∈ ts → 0 ≤ un out t ∧ un out t < us.length
  mem : ∀ t, t ∈ ts → 0 ≤ t ∧ t < n
theorem Rel.fil_set {n : Nat} {ts : List Int} {us : List (List Int)} {out : List Int} (h : Rel n ts us out) (t v : Int) (h0 : 0 ≤ t) (h1 : t < n) (hn : t ∉ ts) (u : Nat) :
    (ts ++ [t]).filter (fun x => un (out.set t.toNat v) x == (u : Int)) = ts.filter (fun x => un out x == (u : Int)) ++ (if v = (u : Int) then [t] else []) := by
  rw [List.filter_append]
  have hl := h.ol
  congr 1
  · refine List.filter_congr (fun x hx => ?_)
    rw [un_set _ _ _ _ h0 (h.mem x hx).1 (by omega), if_neg (fun e => hn (by rw [← e]; exact hx))]
  · rw [List.filter_cons, un_set _ _ _ _ h0 h0 (by omega), if_pos rfl]
    by_cases e : v = (u : Int)
    · simp [e]
    · simp [e]
theorem Rel.push {n : Nat} {ts : List Int} {us : List (List Int)} {out : List Int} (h : Rel n ts us out) (t : Int) (h0 : 0 ≤ t) (h1 : t < n) (hn : t ∉ ts) : Rel n (ts ++ [t]) (us ++ [[t]]) (out.set t.toNat (us.length : Int)) := by
  have hl := h.ol
  refine ⟨by rw [List.length_set]; exact h.ol, fun u hu => ?_, fun u hu => ?_, fun x hx => ?_, fun x hx => ?_⟩
  · rw [List.length_append, List.length_singleton] at hu
    rw [cat_push _ _ _ hu]
    by_cases e : u = us.length
    · rw [if_pos e]; simp
    · rw [if_neg e]; exact h.ne u (by omega)
  · rw [List.length_append, List.length_singleton] at hu
    rw [cat_push _ _ _ hu, h.fil_set t _ h0 h1 hn u]
    by_cases e : u = us.length
    · rw [if_pos e, if_pos (by omega)]
      have : ts.filter (fun x => un out x == (u : Int)) = [] := by
        rw [List.filter_eq_nil_iff]
        intro x hx
        have := (h.ins x hx).2
        simp only [beq_iff_eq]
        omega
      rw [this]; rfl
    · rw [if_neg e, if_neg (by omega), List.append_nil]
      exact h.fil u (by omega)
  · rw [List.length_append, List.length_singleton]
    rcases List.mem_append.1 hx with hx | hx
    · have := h.ins x hx
      rw [un_set _ _ _ _ h0 (h.mem x hx).1 (by omega), if_neg (fun e => hn (by rw [← e]; exact hx))]
      omega
    · rw [List.mem_singleton.1 hx, un_set _ _ _ _ h0 h0 (by omega), if_pos rfl]
      omega
  · rcases List.mem_append.1 hx with hx | hx
    · exact h.mem x hx
    · rw [List.mem_singleton.1 hx]; exact ⟨h0, h1⟩
theorem Rel.app {n : Nat} {ts : List Int} {us : List (List Int)} {out : List Int} (h : Rel n ts us out) (t : Int) (h0 : 0 ≤ t) (h1 : t < n) (hn : t ∉ ts) (b : Nat) (hb : b < us.length) : Rel n (ts ++ [t]) (us.set b (cat us b ++ [t])) (out.set t.toNat (b : Int)) := by
  have hl := h.ol
  refine ⟨by rw [List.length_set]; exact h.ol, fun u hu => ?_, fun u hu => ?_, fun x hx => ?_, fun x hx => ?_⟩
  · rw [List.length_set] at hu
    rw [cat_set _ _ _ _ hb]
    by_cases e : b = u
    · rw [if_pos e]; simp
    · rw [if_neg e]; exact h.ne u (by omega)
  · rw [List.length_set] at hu
    rw [cat_set _ _ _ _ hb, h.fil_set t _ h0 h1 hn u]
    by_cases e : b = u
    · rw [if_pos e, if_pos (by omega), e, h.fil u hu]
    · rw [if_neg e, if_neg (by omega), List.append_nil]
      exact h.fil u (by omega)
  · rw [List.length_set]
    rcases List.mem_append.1 hx with hx | hx
    · have := h.ins x hx
      rw [un_set _ _ _ _ h0 (h.mem x hx).1 (by omega), if_neg (fun e => hn (by rw [← e]; exact hx))]
      omega
    · rw [List.mem_singleton.1 hx, un_set _ _ _ _ h0 h0 (by omega), if_pos rfl]
      omega
  · rcases List.mem_append.1 hx with hx | hx
    · exact h.mem x hx
    · rw [List.mem_singleton.1 hx]; exact ⟨h0, h1⟩
theorem lasts_push (us : List (List Int)) (t : Int) : lasts (us ++ [[t]]) = lasts us ++ [t] := by simp [lasts, lst, rd]
theorem lasts_set (us : List (List Int)) (b : Nat) (t : Int) : lasts (us.set b (cat us b ++ [t])) = (lasts us).set b t := by
  unfold lasts
  rw [List.map_set, lst_snoc]
theorem Rel.last {n : Nat} {ts : List Int} {us : List (List Int)} {out : List Int} (h : Rel n ts us out) (u : Nat) (hu : u < us.length) : 0 ≤ lst (cat us u) ∧ lst (cat us u) < n := by
  have hm := lst_mem _ (h.ne u hu)
  rw [h.fil u hu] at hm
  have := (List.mem_filter.1 hm).1
  rw [← h.fil u hu] at this
  exact h.mem _ this
/-- The choice of a unit. -/
theorem best_bounds (l : List S25) (turn t : Int) (us : List (List Int)) : ∀ (k u : Nat) (best : Int), u + k = us.length → -1 ≤ best → best < us.length → -1 ≤ impl_chains.l1 l turn t us k u best ∧ impl_chains.l1 l turn t us k u best < us.length
  | 0, u, best, _, h1, h2 => by rw [impl_chains.l1]; exact ⟨h1, h2⟩
  | k + 1, u, best, h, h1, h2 => by
    rw [impl_chains.l1]
    split
    · split
      · exact best_bounds l turn t us k (u + 1) u (by omega) (by omega) (by omega)
      · split
        · exact best_bounds l turn t us k (u + 1) u (by omega) (by omega) (by omega)
        · exact best_bounds l turn t us k (u + 1) best (by omega) h1 h2
    · exact best_bounds l turn t us k (u + 1) best (by omega) h1 h2
theorem spec_best {n : Nat} {ts : List Int} {us : List (List Int)} {out : List Int} (l : List S25) (turn t : Int) (od : List Int) (i : Int) (r : List Int) (hn : l.length = n) (h40 : us.length ≤ 1000) (h : Rel n ts us out) (h0 : 0 ≤ t) (h1 : t < n)
    (hta : ∀ x, x ∈ l → taskB x = true) (htu : 0 ≤ turn ∧ turn ≤ 120) :
    ∀ u, u ≤ us.length → ∀ best : Int, -1 ≤ best → best < us.length →
      Ev (fun k => spec_Chains.l2 k l turn out od (lasts us) i t (impl_chains.l1 l turn t us (us.length - u) u best) (us.length : Int)) r → Ev (fun k => spec_Chains.l2 k l turn out od (lasts us) i t best (u : Int)) r := by
  have htask : ∀ x : Int, 0 ≤ x → x < n → taskB (rd_T25 l x) = true := fun x hx0 hx1 => hta _ (by unfold rd_T25; exact getD_mem _ _ _ (by omega))
  refine down us.length (fun best _ _ he => ?_) (fun u hu ih best hb1 hb2 he => ?_)
  · rw [Nat.sub_self, impl_chains.l1] at he; exact he
  · have e1 : us.length - u = (us.length - (u + 1)) + 1 := by omega
    rw [e1] at he
    obtain ⟨hl0, hl1⟩ := h.last u hu
    have hll : (lasts us).length = us.length := by simp [lasts]
    refine ev_at (f := fun k => if follB (rd_T25 l (lst (cat us u))) (rd_T25 l t) turn = true then (if best < 0 then spec_Chains.l2 k l turn out od (lasts us) i t (u : Int) ((u + 1 : Nat) : Int) else if (rd_T25 l (lst (cat us u))).f3 < (rd_T25 l (rd (lasts us) best)).f3 then spec_Chains.l2 k l turn out od (lasts us) i t (u : Int) ((u + 1 : Nat) : Int) else spec_Chains.l2 k l turn out od (lasts us) i t best ((u + 1 : Nat) : Int)) else spec_Chains.l2 k l turn out od (lasts us) i t best ((u + 1 : Nat) : Int)) ?_ (fun k => ?_)
    · rw [impl_chains.l1, l2_lst, l3_foll _ (htask _ hl0 hl1) htu] at he
      by_cases c : follB (rd_T25 l (lst (cat us u))) (rd_T25 l t) turn = true
      · rw [if_pos c] at he
        simp only [c, if_true]
        by_cases c2 : best < 0
        · rw [if_pos c2] at he
          simp only [c2, if_true]
          exact ih _ (by omega) (by omega) he
        · obtain ⟨b, rfl⟩ : ∃ b : Nat, best = (b : Int) := ⟨best.toNat, by omega⟩
          rw [if_neg c2, Int.toNat_natCast, l2_lst] at he
          simp only [c2, if_false]
          rw [lasts_rd us b (by omega)]
          by_cases c3 : (rd_T25 l (lst (cat us u))).f3 < (rd_T25 l (lst (cat us b))).f3
          · rw [if_pos c3] at he
            simp only [c3, if_true]
            exact ih _ (by omega) (by omega) he
          · rw [if_neg c3] at he
            simp only [c3, if_false]
            exact ih _ hb1 hb2 he
      · rw [if_neg c] at he
        simp only [c]
        exact ih _ hb1 hb2 he
    · have hsp := spec_follows (rd_T25 l (lst (cat us u))) (rd_T25 l t) turn
      have hfb : followsB (rd_T25 l (lst (cat us u))) (rd_T25 l t) turn = follB (rd_T25 l (lst (cat us u))) (rd_T25 l t) turn := by
        unfold followsB
        rw [htask _ hl0 hl1, htask _ h0 h1, inB_iff.2 htu]; rfl
      rw [hfb] at hsp
      have hru := lasts_rd us u hu
      simp only [spec_Chains.l2, hru, hsp, hll, Option.bind_some, show (u : Int) < (us.length : Int) by omega, show (0 : Int) ≤ (u : Int) by omega, hl0, show lst (cat us u) < (l.length : Int) by omega, h0, show t < (l.length : Int) by omega, if_true, w64s hu (show us.length ≤ 1000000000 by omega)]
      by_cases c : follB (rd_T25 l (lst (cat us u))) (rd_T25 l t) turn = true
      · simp only [c, if_true]
        by_cases c2 : best < 0
        · simp only [c2, if_true]
        · obtain ⟨b, rfl⟩ : ∃ b : Nat, best = (b : Int) := ⟨best.toNat, by omega⟩
          obtain ⟨hb0, hb3⟩ := h.last b (by omega)
          have hrb := lasts_rd us b (by omega)
          simp only [c2, if_false, hrb, hb0, show (0 : Int) ≤ (b : Int) by omega, hb2, show lst (cat us b) < (l.length : Int) by omega, if_true]
      · simp only [c, Bool.false_eq_true, if_false]

/-- All the tasks, one by one. -/
theorem spec_greedy (l : List S25) (turn : Int) (od : List Int) (hn : l.length ≤ 40) (hta : ∀ x, x ∈ l → taskB x = true) (htu : 0 ≤ turn ∧ turn ≤ 120) (hod : od.length = l.length) (hm : ∀ t, t ∈ od → 0 ≤ t ∧ t < l.length) (hnd : od.Nodup) :
    ∀ i, i ≤ od.length → ∀ us out, us.length ≤ i → Rel l.length (od.take i) us out → ∃ out', Rel l.length od (impl_chains.l0 l turn (od.drop i) us) out' ∧ Ev (fun k => spec_Chains.l1 k l turn out od (lasts us) (i : Int)) out' := by
  refine down od.length (fun us out hus h => ?_) (fun i hi ih us out hus h => ?_)
  · rw [List.take_length] at h
    refine ⟨out, ?_, ev_some (fun k => by simp [spec_Chains.l1])⟩
    rw [List.drop_length, impl_chains.l0]
    exact h
  · obtain ⟨t, ht⟩ : ∃ t, t = od.getD i 0 := ⟨_, rfl⟩
    have hmt : t ∈ od := by rw [ht]; exact getD_mem _ _ _ hi
    obtain ⟨h0, h1⟩ := hm t hmt
    have hnt : t ∉ od.take i := fun hx => by
      obtain ⟨j, hj, e⟩ := List.mem_iff_getElem.1 hx
      rw [List.getElem_take] at e
      rw [List.length_take] at hj
      have e2 : t = od[i] := by rw [ht, List.getD_eq_getElem?_getD, List.getElem?_eq_getElem hi]; rfl
      rw [e2] at e
      have := (List.getElem_inj hnd).1 e
      omega
    have hll : (lasts us).length = us.length := by simp [lasts]
    have hrd : rd od (i : Int) = t := by unfold rd; rw [Int.toNat_natCast, ht]
    have hol := h.ol
    obtain ⟨g1, g2⟩ := best_bounds l turn t us us.length 0 (-1) (by omega) (by omega) (by omega)
    have hto := take_getD 0 od i hi
    rw [← ht] at hto
    rw [drop_getD 0 od i hi, ← ht, impl_chains.l0]
    obtain ⟨b, hb⟩ : ∃ b, b = impl_chains.l1 l turn t us us.length 0 (-1) := ⟨_, rfl⟩
    rw [← hb] at g1 g2 ⊢
    by_cases c : b < 0
    · rw [if_pos c]
      have hR := h.push t h0 h1 hnt
      rw [← hto] at hR
      obtain ⟨out', r1, r2⟩ := ih (us ++ [[t]]) _ (by rw [List.length_append, List.length_singleton]; omega) hR
      refine ⟨out', r1, ?_⟩
      refine ev_at (f := fun k => spec_Chains.l2 k l turn out od (lasts us) (i : Int) t (-1) ((0 : Nat) : Int)) ?_ (fun k => by simp [spec_Chains.l1, hi, hrd])
      refine spec_best l turn t od (i : Int) out' rfl (by omega) h h0 h1 hta htu 0 (by omega) (-1) (by omega) (by omega) ?_
      rw [Nat.sub_zero, ← hb]
      refine ev_at r2 (fun k => ?_)
      rw [lasts_push]
      have e5 : (lasts us ++ [t]).set us.length t = lasts us ++ [t] := by
        rw [List.set_append_right _ _ (by omega), hll, Nat.sub_self]; rfl
      simp only [spec_Chains.l2, hll, Int.lt_irrefl, if_false, c, if_true, show us.length < 17592186044416 by omega, Option.bind_some, List.length_append, List.length_singleton, show (0 : Int) ≤ (us.length : Int) by omega, show (us.length : Int) < ((us.length + 1 : Nat) : Int) by omega, h0, hol, h1, w64s hi (show od.length ≤ 1000000000 by omega), Int.toNat_natCast, e5]
    · rw [if_neg c]
      obtain ⟨bn, rfl⟩ : ∃ bn : Nat, b = (bn : Int) := ⟨b.toNat, by omega⟩
      rw [Int.toNat_natCast]
      have hR := h.app t h0 h1 hnt bn (by omega)
      rw [← hto] at hR
      obtain ⟨out', r1, r2⟩ := ih (us.set bn (cat us bn ++ [t])) _ (by rw [List.length_set]; omega) hR
      refine ⟨out', r1, ?_⟩
      refine ev_at (f := fun k => spec_Chains.l2 k l turn out od (lasts us) (i : Int) t (-1) ((0 : Nat) : Int)) ?_ (fun k => by simp [spec_Chains.l1, hi, hrd])
      refine spec_best l turn t od (i : Int) out' rfl (by omega) h h0 h1 hta htu 0 (by omega) (-1) (by omega) (by omega) ?_
      rw [Nat.sub_zero, ← hb]
      refine ev_at r2 (fun k => ?_)
      rw [lasts_set]
      simp only [spec_Chains.l2, hll, Int.lt_irrefl, if_false, c, if_true, show (0 : Int) ≤ (bn : Int) by omega, g2, h0, hol, h1, w64s hi (show od.length ≤ 1000000000 by omega), Int.toNat_natCast]
theorem order_facts (l : List S25) : (impl_byDep.l0 l).length = l.length ∧ (∀ t, t ∈ impl_byDep.l0 l → 0 ≤ t ∧ t < l.length) ∧ (impl_byDep.l0 l).Nodup := by
  rw [ord_map]
  refine ⟨by rw [List.length_map, ord_len], fun t ht => ?_, ?_⟩
  · obtain ⟨x, hx, rfl⟩ := List.mem_map.1 ht
    have := (ord_mem l x).1 hx
    omega
  · refine List.Pairwise.map _ ?_ (ord_nodup l)
    intro a b hab e
    exact hab (by omega)
/-- The units. -/
def units (l : List S25) (turn : Int) : List (List Int) := impl_chains.l0 l turn (impl_byDep.l0 l) []
theorem spec_chains (l : List S25) (turn : Int) (hl : tasksB l = true) (htu : 0 ≤ turn ∧ turn ≤ 120) : ∃ out, Rel l.length (impl_byDep.l0 l) (units l turn) out ∧ Ev (fun k => spec_Chains.f k l turn) out := by
  obtain ⟨h40, hta⟩ := tasksB_parts hl
  obtain ⟨f1, f2, f3⟩ := order_facts l
  obtain ⟨out, r1, r2⟩ := spec_greedy l turn (impl_byDep.l0 l) h40 hta htu f1 f2 f3 0 (by omega) [] (List.replicate l.length (-1)) (by simp) ⟨by simp, fun u hu => absurd hu (by simp), fun u hu => absurd hu (by simp), fun t ht => absurd ht (by simp), fun t ht => absurd ht (by simp)⟩
  refine ⟨out, r1, ?_⟩
  have mk : ∀ i, i ≤ l.length → Ev (fun k => spec_Chains.l0 k l turn (List.replicate i (-1)) (i : Int)) out := by
    refine down l.length ?_ (fun i hi ih => ?_)
    · refine ev_at (f := fun k => (spec_l16Order.f k l).bind fun t => spec_Chains.l1 k l turn (List.replicate l.length (-1)) t [] 0) ?_ (fun k => by simp [spec_Chains.l0])
      exact Ev.bind (spec_order l (by omega)) r2
    · refine ev_at ih (fun k => ?_)
      have e : List.replicate i (-1 : Int) ++ [-1] = List.replicate (i + 1) (-1) := by rw [List.replicate_succ']
      simp [spec_Chains.l0, hi, show i < 17592186044416 by omega, w64s hi (show l.length ≤ 1000000000 by omega), e]
  unfold spec_Chains.f
  have ht := spec_tasks l (by omega)
  rw [hl] at ht
  refine Ev.bind ht ?_
  simp only [if_true, spec_l16Turn.f, l01In, inB_iff.2 htu, Option.bind_some, Bool.not_true]
  exact ev_at (mk 0 (by omega)) (fun k => by simp [spec_Chains.j0])


theorem turn_ok (turn : Int) : impl_turnOk.f turn = some (inB turn 0 120) := by unfold impl_turnOk.f; rw [between]; rfl
theorem un_nat (out : List Int) (i : Nat) : un out (i : Int) = out.getD i (-1) := by unfold un; rw [Int.toNat_natCast]
theorem rel_mem_cat {n : Nat} {od : List Int} {us : List (List Int)} {out : List Int} (h : Rel n od us out) (u : Nat) (hu : u < us.length) (x : Int) : x ∈ cat us u ↔ x ∈ od ∧ un out x = (u : Int) := by
  rw [h.fil u hu, List.mem_filter, beq_iff_eq]
theorem rel_out {n : Nat} {od : List Int} {us : List (List Int)} {out o : List Int} (h : Rel n od us out) (hall : ∀ i : Nat, i < n → (i : Int) ∈ od) (hol : o.length = n) (ho : ∀ t, t ∈ od → un out t < us.length → un o t = un out t) : o = out := by
  apply List.ext_getElem
  · rw [hol, h.ol]
  · intro i h1 h2
    have hm := hall i (by omega)
    have := ho (i : Int) hm (h.ins _ hm).2
    rw [un_nat, un_nat, List.getD_eq_getElem?_getD, List.getD_eq_getElem?_getD, List.getElem?_eq_getElem h1, List.getElem?_eq_getElem h2] at this
    exact this
theorem chains_loop {n : Nat} {od : List Int} {us : List (List Int)} {out : List Int} (h : Rel n od us out) (hall : ∀ i : Nat, i < n → (i : Int) ∈ od) (hb : us.length ≤ 1000) (hc : ∀ u, u < us.length → (cat us u).length ≤ 1000) :
    ∀ u, u ≤ us.length → ∀ o : List Int, o.length = n → (∀ t, t ∈ od → un out t < u → un o t = un out t) → Ev (fun k => impl_Chains.l0 k o us (us.length : Int) (u : Int)) out := by
  refine down us.length (fun o hol ho => ?_) (fun u hu ih o hol ho => ?_)
  · rw [← rel_out h hall hol ho]
    exact ev_some (fun k => by simp [impl_Chains.l0])
  · have inner : ∀ j, j ≤ (cat us u).length → ∀ o : List Int, o.length = n → (∀ t, t ∈ od → un out t < u → un o t = un out t) → (∀ t, t ∈ (cat us u).take j → un o t = un out t) → Ev (fun k => impl_Chains.l1 k o (u : Int) us (us.length : Int) (u : Int) (cat us u) ((cat us u).length : Int) (j : Int)) out := by
      refine down _ (fun o hol h1 h2 => ?_) (fun j hj ih2 o hol h1 h2 => ?_)
      · refine ev_at (ih o hol (fun t ht hlt => ?_)) (fun k => by simp [impl_Chains.l1, w64s hu (show us.length ≤ 1000000000 by omega)])
        by_cases e : un out t = (u : Int)
        · exact h2 t (by rw [List.take_length]; exact (rel_mem_cat h u hu t).2 ⟨ht, e⟩)
        · exact h1 t ht (by omega)
      · obtain ⟨x, hx⟩ : ∃ x, x = (cat us u).getD j 0 := ⟨_, rfl⟩
        have hxm : x ∈ cat us u := by rw [hx]; exact getD_mem _ _ _ hj
        obtain ⟨hxo, hxu⟩ := (rel_mem_cat h u hu x).1 hxm
        obtain ⟨x0, x1⟩ := h.mem x hxo
        have hrd : rd (cat us u) (j : Int) = x := by unfold rd; rw [Int.toNat_natCast, hx]
        refine ev_at (ih2 (o.set x.toNat (u : Int)) (by rw [List.length_set]; exact hol) (fun t ht hlt => ?_) (fun t ht => ?_)) (fun k => ?_)
        · rw [un_set _ _ _ _ x0 (h.mem t ht).1 (by omega)]
          by_cases e : t = x
          · rw [if_pos e, e, hxu]
          · rw [if_neg e]; exact h1 t ht hlt
        · rw [take_getD 0 _ j hj, ← hx] at ht
          have htod : t ∈ od := by
            rcases List.mem_append.1 ht with ht | ht
            · exact ((rel_mem_cat h u hu t).1 (List.mem_of_mem_take ht)).1
            · rw [List.mem_singleton.1 ht]; exact hxo
          rw [un_set _ _ _ _ x0 (h.mem t htod).1 (by omega)]
          by_cases e : t = x
          · rw [if_pos e, e, hxu]
          · rw [if_neg e]
            rcases List.mem_append.1 ht with ht | ht
            · exact h2 t ht
            · exact absurd (List.mem_singleton.1 ht) e
        · have hcl := hc u hu
          simp only [impl_Chains.l1, show (j : Int) < ((cat us u).length : Int) by omega, show (0 : Int) ≤ (j : Int) by omega, hrd, x0, hol, x1, if_true, w64s hj (show (cat us u).length ≤ 1000000000 by omega)]
    refine ev_at (inner 0 (by omega) o hol ho (fun t ht => by simp at ht)) (fun k => ?_)
    have e : rd_L3 us (u : Int) = cat us u := by unfold rd_L3 cat; rw [Int.toNat_natCast]
    simp only [impl_Chains.l0, show (u : Int) < (us.length : Int) by omega, show (0 : Int) ≤ (u : Int) by omega, if_true, e]
    rfl
theorem nodup_le : ∀ (A B : List Int), A.Nodup → (∀ x, x ∈ A → x ∈ B) → A.length ≤ B.length
  | [], B, _, _ => by simp
  | a :: A, B, hn, h => by
    have hn2 := List.nodup_cons.1 hn
    have ha := h a (by simp)
    have := nodup_le A (B.erase a) hn2.2 (fun x hx => (List.mem_erase_of_ne (fun e => hn2.1 (by rw [← e]; exact hx))).2 (h x (by simp [hx])))
    have h2 := List.length_erase_of_mem ha
    have h3 := List.length_pos_of_mem ha
    rw [List.length_cons]
    omega
theorem rel_small {n : Nat} {od : List Int} {us : List (List Int)} {out : List Int} (h : Rel n od us out) (hod : od.length = n) : us.length ≤ n ∧ ∀ u, u < us.length → (cat us u).length ≤ n := by
  refine ⟨?_, fun u hu => ?_⟩
  · -- the heads of the units are as many different tasks
    have hnd2 : ((List.range us.length).map fun u => lst (cat us u)).Nodup := by
      refine List.Pairwise.map _ (R := fun a b => a < us.length ∧ b < us.length ∧ a ≠ b) ?_ ?_
      · rintro a b ⟨ha, hb, hab⟩ e
        have h1 := (rel_mem_cat h a ha _).1 (lst_mem _ (h.ne a ha))
        have h2 := (rel_mem_cat h b hb _).1 (lst_mem _ (h.ne b hb))
        rw [e, h2.2] at h1
        omega
      · have := (List.nodup_range (n := us.length))
        refine List.Pairwise.imp_of_mem ?_ this
        intro a b ha hb hab
        exact ⟨List.mem_range.1 ha, List.mem_range.1 hb, hab⟩
    have hsub : ∀ x, x ∈ ((List.range us.length).map fun u => lst (cat us u)) → x ∈ od := by
      intro x hx
      obtain ⟨a, ha, rfl⟩ := List.mem_map.1 hx
      have ha := List.mem_range.1 ha
      exact ((rel_mem_cat h a ha _).1 (lst_mem _ (h.ne a ha))).1
    have := nodup_le _ _ hnd2 hsub
    rw [List.length_map, List.length_range] at this
    omega
  · rw [h.fil u hu]
    have := List.length_filter_le (fun t => un out t == (u : Int)) od
    omega
theorem order_all (l : List S25) (i : Nat) (h : i < l.length) : (i : Int) ∈ impl_byDep.l0 l := by
  rw [ord_map]
  exact List.mem_map.2 ⟨i, (ord_mem l i).2 h, rfl⟩
/-- The value of both. -/
theorem chains_both (l : List S25) (turn : Int) (h : l.length ≤ 1048576) : ∃ out : List Int, out.length ≤ 1048576 ∧ Ev (fun k => spec_Chains.f k l turn) out ∧ Ev (fun k => impl_Chains.f k l turn) out := by
  cases hl : tasksB l with
  | false =>
    refine ⟨[], by simp, ?_, ?_⟩
    · unfold spec_Chains.f
      have ht := spec_tasks l h
      rw [hl] at ht
      refine Ev.bind ht ?_
      simp only [Bool.false_eq_true, if_false]
      exact ev_some (fun k => by simp [spec_Chains.j0])
    · unfold impl_Chains.f
      have ht := impl_tasks l h
      rw [hl] at ht
      refine Ev.bind ht ?_
      simp only [Bool.false_eq_true, if_false]
      exact ev_some (fun k => by simp [impl_Chains.j0])
  | true =>
    obtain ⟨h40, hta⟩ := tasksB_parts hl
    cases htb : inB turn 0 120 with
    | false =>
      refine ⟨[], by simp, ?_, ?_⟩
      · unfold spec_Chains.f
        have ht := spec_tasks l h
        rw [hl] at ht
        refine Ev.bind ht ?_
        simp only [if_true, spec_l16Turn.f, l01In, htb, Option.bind_some, Bool.not_false]
        exact ev_some (fun k => by simp [spec_Chains.j0])
      · unfold impl_Chains.f
        have ht := impl_tasks l h
        rw [hl] at ht
        refine Ev.bind ht ?_
        simp only [if_true, turn_ok, htb, Option.bind_some, Bool.not_false]
        exact ev_some (fun k => by simp [impl_Chains.j0])
    | true =>
      have htu := inB_iff.1 htb
      obtain ⟨out, r1, r2⟩ := spec_chains l turn hl htu
      obtain ⟨f1, f2, f3⟩ := order_facts l
      obtain ⟨s1, s2⟩ := rel_small r1 f1
      have hol := r1.ol
      refine ⟨out, by omega, r2, ?_⟩
      unfold impl_Chains.f
      have ht := impl_tasks l h
      rw [hl] at ht
      refine Ev.bind ht ?_
      simp only [if_true, turn_ok, htb, Option.bind_some, Bool.not_true]
      have key := chains_loop r1 (order_all l) (by omega) (fun u hu => by have := s2 u hu; omega) 0 (by omega) (List.replicate l.length 0) (by simp) (fun t ht hlt => by have := (r1.ins t ht).1; omega)
      refine ev_at key (fun k => ?_)
      have e : impl_chains.f k l turn = some (units l turn) := by unfold impl_chains.f; rw [if_pos h40]; rfl
      simp [impl_Chains.j0, e, show l.length ≤ 35184372088832 by omega]


theorem un_rd (out : List Int) (x : Int) (h0 : 0 ≤ x) (h1 : x < out.length) : rd out x = un out x := by
  obtain ⟨i, rfl⟩ : ∃ i : Nat, x = (i : Int) := ⟨x.toNat, by omega⟩
  unfold rd un
  rw [Int.toNat_natCast, List.getD_eq_getElem?_getD, List.getD_eq_getElem?_getD, List.getElem?_eq_getElem (by omega)]
  rfl
/-- How many units. -/
theorem spec_units {n : Nat} {od : List Int} {us : List (List Int)} {out : List Int} (h : Rel n od us out) (hall : ∀ i : Nat, i < n → (i : Int) ∈ od) (hn : n ≤ 1000) (hu : us.length ≤ n) : Ev (fun k => spec_l16Units.f k out) (us.length : Int) := by
  have hol := h.ol
  have key : ∀ i, i ≤ n → ∀ m : Int, 0 ≤ m → m ≤ us.length → (∀ j : Nat, j < i → un out j < m) → Ev (fun k => spec_l16Units.l0 k out m (i : Int)) (us.length : Int) := by
    refine down n (fun m m0 m1 hm => ?_) (fun i hi ih m m0 m1 hm => ?_)
    · have e : m = us.length := by
        by_cases c : us.length = 0
        · omega
        · have hne := lst_mem _ (h.ne (us.length - 1) (by omega))
          obtain ⟨h1, h2⟩ := (rel_mem_cat h (us.length - 1) (by omega) _).1 hne
          obtain ⟨h3, h4⟩ := h.mem _ h1
          have := hm (lst (cat us (us.length - 1))).toNat (by omega)
          rw [Int.toNat_of_nonneg h3, h2] at this
          omega
      rw [e]
      exact ev_some (fun k => by simp [spec_l16Units.l0, hol])
    · have hi2 := h.ins _ (hall i hi)
      have hr := un_rd out (i : Int) (by omega) (by omega)
      by_cases c : un out (i : Int) ≥ m
      · refine ev_at (ih (un out (i : Int) + 1) (by omega) (by omega) (fun j hj => ?_)) (fun k => ?_)
        · by_cases e : j = i
          · rw [e]; omega
          · have := hm j (by omega); omega
        · simp only [spec_l16Units.l0, hol, show (i : Int) < (n : Int) by omega, show (0 : Int) ≤ (i : Int) by omega, hr, c, if_true, w64s hi (show n ≤ 1000000000 by omega), w64 (x := un out (i : Int) + 1) (by omega) (by omega)]
      · refine ev_at (ih m m0 m1 (fun j hj => ?_)) (fun k => ?_)
        · by_cases e : j = i
          · rw [e]; omega
          · exact hm j (by omega)
        · simp only [spec_l16Units.l0, hol, show (i : Int) < (n : Int) by omega, show (0 : Int) ≤ (i : Int) by omega, hr, c, if_true, if_false, w64s hi (show n ≤ 1000000000 by omega)]
  have := key 0 (by omega) 0 (by omega) (by omega) (fun j hj => by omega)
  simpa [spec_l16Units.f] using this

def km (l : List S25) (t : Int) : Int := (rd_T25 l t).f4
def sumL : List Int → Int
  | [] => 0
  | x :: xs => x + sumL xs
theorem sumL_perm {a b : List Int} (h : a.Perm b) : sumL a = sumL b := by
  induction h with
  | nil => rfl
  | cons x _ ih => simp only [sumL, ih]
  | swap x y l => simp only [sumL]; omega
  | trans _ _ ih1 ih2 => rw [ih1, ih2]
theorem km_bounds (l : List S25) (hta : ∀ x, x ∈ l → taskB x = true) (t : Int) (h0 : 0 ≤ t) (h1 : t < l.length) : 0 ≤ km l t ∧ km l t ≤ 2000 := by
  have : taskB (rd_T25 l t) = true := hta _ (by unfold rd_T25; exact getD_mem _ _ _ (by omega))
  exact (taskB_bounds this).2.2.2
def unitKm (l : List S25) (us : List (List Int)) (u : Nat) : Int := sumL ((cat us u).map (km l))
theorem impl_miles {l : List S25} {od : List Int} {us : List (List Int)} {out : List Int} (h : Rel l.length od us out) (hta : ∀ x, x ∈ l → taskB x = true) (hb : us.length ≤ 1000) (hc : ∀ u, u < us.length → (cat us u).length ≤ 1000) :
    ∀ u, u ≤ us.length → Ev (fun k => impl_Mileage.l0 k l ((List.range u).map (unitKm l us)) us (us.length : Int) (u : Int)) ((List.range us.length).map (unitKm l us)) := by
  refine down us.length ?_ (fun u hu ih => ?_)
  · exact ev_some (fun k => by simp [impl_Mileage.l0])
  · have hcu := hc u hu
    have inner : ∀ j, j ≤ (cat us u).length → ∀ s : Int, 0 ≤ s → s ≤ 2000 * j → s + sumL (((cat us u).drop j).map (km l)) = unitKm l us u → Ev (fun k => impl_Mileage.l1 k l ((List.range u).map (unitKm l us)) s us (us.length : Int) (u : Int) (cat us u) ((cat us u).length : Int) (j : Int)) ((List.range us.length).map (unitKm l us)) := by
      refine down _ (fun s s0 s1 hs => ?_) (fun j hj ih2 s s0 s1 hs => ?_)
      · rw [List.drop_length, List.map_nil, sumL, Int.add_zero] at hs
        refine ev_at ih (fun k => ?_)
        have e : (List.range u).map (unitKm l us) ++ [unitKm l us u] = (List.range (u + 1)).map (unitKm l us) := by rw [List.range_succ, List.map_append]; rfl
        simp only [impl_Mileage.l1, Int.lt_irrefl, if_false, List.length_map, List.length_range, show u < 17592186044416 by omega, if_true, hs, e, w64s hu (show us.length ≤ 1000000000 by omega)]
      · obtain ⟨x, hx⟩ : ∃ x, x = (cat us u).getD j 0 := ⟨_, rfl⟩
        have hxm : x ∈ cat us u := by rw [hx]; exact getD_mem _ _ _ hj
        obtain ⟨hxo, hxu⟩ := (rel_mem_cat h u hu x).1 hxm
        obtain ⟨x0, x1⟩ := h.mem x hxo
        have hrd : rd (cat us u) (j : Int) = x := by unfold rd; rw [Int.toNat_natCast, hx]
        rw [drop_getD 0 _ j hj, ← hx, List.map_cons, sumL] at hs
        obtain ⟨k0, k1⟩ := km_bounds l hta x x0 x1
        refine ev_at (ih2 (s + km l x) (by omega) (by omega) (by omega)) (fun k => ?_)
        have ek : (rd_T25 l x).f4 = km l x := rfl
        simp only [impl_Mileage.l1, show (j : Int) < ((cat us u).length : Int) by omega, show (0 : Int) ≤ (j : Int) by omega, hrd, x0, x1, if_true, ek, w64 (x := s + km l x) (by omega) (by omega), w64s hj (show (cat us u).length ≤ 1000000000 by omega)]
    refine ev_at (inner 0 (by omega) 0 (by omega) (by omega) (by rw [List.drop_zero, Int.zero_add]; rfl)) (fun k => ?_)
    have e : rd_L3 us (u : Int) = cat us u := by unfold rd_L3 cat; rw [Int.toNat_natCast]
    simp only [impl_Mileage.l0, show (u : Int) < (us.length : Int) by omega, show (0 : Int) ≤ (u : Int) by omega, if_true, e]
    rfl
def places (n : Nat) : List Int := (List.range n).map (fun (i : Nat) => (i : Int))
theorem places_drop (n i : Nat) (h : i < n) : (places n).drop i = (i : Int) :: (places n).drop (i + 1) := by
  unfold places
  rw [drop_getD 0 _ i (by simpa using h)]
  congr 1
  simp [List.getD_eq_getElem?_getD, h]
theorem spec_miles {l : List S25} {us : List (List Int)} {out : List Int} (h : Rel l.length (impl_byDep.l0 l) us out) (hta : ∀ x, x ∈ l → taskB x = true) (hn : l.length ≤ 40) (hb : us.length ≤ l.length) :
    ∀ u, u ≤ us.length → Ev (fun k => spec_Mileage.l0 k l out ((List.range u).map (unitKm l us)) (u : Int)) ((List.range us.length).map (unitKm l us)) := by
  have hun := spec_units h (order_all l) (by omega) hb
  have hol := h.ol
  refine down us.length ?_ (fun u hu ih => ?_)
  · refine ev_at (f := fun k => (spec_l16Units.f k out).bind fun t => if (us.length : Int) < t then spec_Mileage.l1 k l out ((List.range us.length).map (unitKm l us)) (us.length : Int) 0 0 else some ((List.range us.length).map (unitKm l us))) ?_ (fun k => by simp only [spec_Mileage.l0])
    refine Ev.bind hun ?_
    simpa using Ev.now _
  · have hperm : unitKm l us u = sumL (((places l.length).filter (fun t => un out t == (u : Int))).map (km l)) := by
      unfold unitKm
      rw [h.fil u hu, ord_map]
      exact sumL_perm (List.Perm.map _ (List.Perm.filter _ (List.Perm.map _ (ord_perm l))))
    have inner : ∀ i, i ≤ l.length → ∀ s : Int, 0 ≤ s → s ≤ 2000 * i → s + sumL ((((places l.length).drop i).filter (fun t => un out t == (u : Int))).map (km l)) = unitKm l us u → Ev (fun k => spec_Mileage.l1 k l out ((List.range u).map (unitKm l us)) (u : Int) s (i : Int)) ((List.range us.length).map (unitKm l us)) := by
      refine down _ (fun s s0 s1 hs => ?_) (fun i hi ih2 s s0 s1 hs => ?_)
      · rw [List.drop_of_length_le (by simp [places]), List.filter_nil, List.map_nil, sumL, Int.add_zero] at hs
        refine ev_at ih (fun k => ?_)
        have e : (List.range u).map (unitKm l us) ++ [unitKm l us u] = (List.range (u + 1)).map (unitKm l us) := by rw [List.range_succ, List.map_append]; rfl
        simp only [spec_Mileage.l1, hol, Int.lt_irrefl, if_false, List.length_map, List.length_range, show u < 17592186044416 by omega, if_true, hs, e, w64s hu (show us.length ≤ 1000000000 by omega)]
      · have hr := un_rd out (i : Int) (by omega) (by omega)
        rw [places_drop _ _ hi, List.filter_cons] at hs
        obtain ⟨k0, k1⟩ := km_bounds l hta (i : Int) (by omega) (by omega)
        have ek : (rd_T25 l (i : Int)).f4 = km l (i : Int) := rfl
        by_cases c : un out (i : Int) = (u : Int)
        · rw [if_pos (by rw [c]; exact beq_self_eq_true _), List.map_cons, sumL] at hs
          refine ev_at (ih2 (s + km l (i : Int)) (by omega) (by omega) (by omega)) (fun k => ?_)
          simp only [spec_Mileage.l1, hol, show (i : Int) < (l.length : Int) by omega, show (0 : Int) ≤ (i : Int) by omega, hr, c, if_true, ek, w64 (x := s + km l (i : Int)) (by omega) (by omega), w64s hi (show l.length ≤ 1000000000 by omega)]
        · rw [if_neg (by rw [beq_iff_eq]; exact c)] at hs
          refine ev_at (ih2 s s0 (by omega) hs) (fun k => ?_)
          simp only [spec_Mileage.l1, hol, show (i : Int) < (l.length : Int) by omega, show (0 : Int) ≤ (i : Int) by omega, hr, c, if_true, if_false, w64s hi (show l.length ≤ 1000000000 by omega)]
    refine ev_at (f := fun k => (spec_l16Units.f k out).bind fun t => if (u : Int) < t then spec_Mileage.l1 k l out ((List.range u).map (unitKm l us)) (u : Int) 0 0 else some ((List.range u).map (unitKm l us))) ?_ (fun k => by simp only [spec_Mileage.l0])
    refine Ev.bind hun ?_
    simp only [show (u : Int) < (us.length : Int) by omega, if_true]
    exact inner 0 (by omega) 0 (by omega) (by omega) (by rw [List.drop_zero, Int.zero_add]; exact hperm.symm)
/-- What holds of all right tasks. -/
theorem spec_chains_nil (l : List S25) (turn : Int) (h : l.length ≤ 1048576) (hb : (tasksB l && inB turn 0 120) = false) : Ev (fun k => spec_Chains.f k l turn) [] := by
  unfold spec_Chains.f
  refine Ev.bind (spec_tasks l h) ?_
  cases hl : tasksB l with
  | false =>
    simp only [Bool.false_eq_true, if_false]
    exact ev_some (fun k => by simp [spec_Chains.j0])
  | true =>
    have htb : inB turn 0 120 = false := by rw [hl] at hb; simpa using hb
    simp only [if_true, spec_l16Turn.f, l01In, htb, Option.bind_some, Bool.not_false]
    exact ev_some (fun k => by simp [spec_Chains.j0])
theorem mileage_both (l : List S25) (turn : Int) (h : l.length ≤ 1048576) : ∃ out : List Int, out.length ≤ 1048576 ∧ Ev (fun k => spec_Mileage.f k l turn) out ∧ Ev (fun k => impl_Mileage.f k l turn) out := by
  cases hb : (tasksB l && inB turn 0 120) with
  | false =>
    refine ⟨[], by simp, ?_, ?_⟩
    · unfold spec_Mileage.f
      refine Ev.bind (spec_chains_nil l turn h hb) ?_
      refine ev_at (f := fun k => (spec_l16Units.f k []).bind fun t => if (0 : Int) < t then spec_Mileage.l1 k l [] [] 0 0 0 else some []) ?_ (fun k => by simp only [spec_Mileage.l0])
      refine Ev.bind (a := 0) ?_ (by simpa using Ev.now _)
      exact ev_some (fun k => by simp [spec_l16Units.f, spec_l16Units.l0])
    · unfold impl_Mileage.f
      refine Ev.bind (impl_tasks l h) ?_
      cases hl : tasksB l with
      | false =>
        simp only [Bool.false_eq_true, if_false]
        exact ev_some (fun k => by simp [impl_Mileage.j0])
      | true =>
        have htb : inB turn 0 120 = false := by rw [hl] at hb; simpa using hb
        simp only [if_true, turn_ok, htb, Option.bind_some, Bool.not_false]
        exact ev_some (fun k => by simp [impl_Mileage.j0])
  | true =>
    rw [Bool.and_eq_true] at hb
    obtain ⟨hl, htb⟩ := hb
    obtain ⟨h40, hta⟩ := tasksB_parts hl
    obtain ⟨out, r1, r2⟩ := spec_chains l turn hl (inB_iff.1 htb)
    obtain ⟨f1, f2, f3⟩ := order_facts l
    obtain ⟨s1, s2⟩ := rel_small r1 f1
    refine ⟨(List.range (units l turn).length).map (unitKm l (units l turn)), by simp; omega, ?_, ?_⟩
    · unfold spec_Mileage.f
      refine Ev.bind r2 ?_
      have := spec_miles r1 hta h40 s1 0 (by omega)
      simpa using this
    · unfold impl_Mileage.f
      have ht := impl_tasks l h
      rw [hl] at ht
      refine Ev.bind ht ?_
      simp only [if_true, turn_ok, htb, Option.bind_some, Bool.not_true]
      have key := impl_miles r1 hta (by omega) (fun u hu => by have := s2 u hu; omega) 0 (by omega)
      refine ev_at key (fun k => ?_)
      have e : impl_chains.f k l turn = some (units l turn) := by unfold impl_chains.f; rw [if_pos h40]; rfl
      simp [impl_Mileage.j0, e]


def endAt (l : List S25) (us : List (List Int)) (u : Nat) : Int := (rd_T25 l (lst (cat us u))).f1
theorem impl_night {l : List S25} {od : List Int} {us : List (List Int)} {out : List Int} (h : Rel l.length od us out) (hb : us.length ≤ 1000) (hc : ∀ u, u < us.length → (cat us u).length ≤ 1000) :
    ∀ u, u ≤ us.length → Ev (fun k => impl_Night.l0 k l ((List.range u).map (endAt l us)) us (us.length : Int) (u : Int)) ((List.range us.length).map (endAt l us)) := by
  refine down us.length ?_ (fun u hu ih => ?_)
  · exact ev_some (fun k => by simp [impl_Night.l0])
  · have hcu := hc u hu
    have hp := List.length_pos_iff.2 (h.ne u hu)
    obtain ⟨h0, h1⟩ := h.last u hu
    refine ev_at ih (fun k => ?_)
    have e : rd_L3 us (u : Int) = cat us u := by unfold rd_L3 cat; rw [Int.toNat_natCast]
    have e2 : wrap64 (((cat us u).length : Int) - 1) = (((cat us u).length - 1 : Nat) : Int) := by rw [w64 (by omega) (by omega)]; omega
    have e3 : rd (cat us u) (((cat us u).length - 1 : Nat) : Int) = lst (cat us u) := rfl
    have e4 : (List.range u).map (endAt l us) ++ [endAt l us u] = (List.range (u + 1)).map (endAt l us) := by rw [List.range_succ, List.map_append]; rfl
    have e5 : (rd_T25 l (lst (cat us u))).f1 = endAt l us u := rfl
    simp only [impl_Night.l0, show (u : Int) < (us.length : Int) by omega, show (0 : Int) ≤ (u : Int) by omega, if_true, e, e2, e3, h0, h1, show (0 : Int) ≤ (((cat us u).length - 1 : Nat) : Int) by omega, show (((cat us u).length - 1 : Nat) : Int) < ((cat us u).length : Int) by omega, List.length_map, List.length_range, show u < 17592186044416 by omega, e5, e4, w64s hu (show us.length ≤ 1000000000 by omega)]
theorem fold_last (g : Int → Int) : ∀ (c : List Int) (a : Int), c ≠ [] → c.foldl (fun _ t => g t) a = g (lst c)
  | [], _, h => absurd rfl h
  | [x], a, _ => rfl
  | x :: y :: c, a, _ => by
    rw [List.foldl_cons, fold_last g (y :: c) _ (by simp)]
    congr 1
theorem spec_night {l : List S25} {us : List (List Int)} {out : List Int} (h : Rel l.length (impl_byDep.l0 l) us out) (hn : l.length ≤ 40) (hb : us.length ≤ l.length) :
    ∀ u, u ≤ us.length → Ev (fun k => spec_Night.l0 k l out ((List.range u).map (endAt l us)) (impl_byDep.l0 l) (u : Int)) ((List.range us.length).map (endAt l us)) := by
  have hun := spec_units h (order_all l) (by omega) hb
  have hol := h.ol
  obtain ⟨f1, f2, f3⟩ := order_facts l
  refine down us.length ?_ (fun u hu ih => ?_)
  · refine ev_at (f := fun k => (spec_l16Units.f k out).bind fun t => if (us.length : Int) < t then spec_Night.l1 k l out ((List.range us.length).map (endAt l us)) (impl_byDep.l0 l) (us.length : Int) 0 0 else some ((List.range us.length).map (endAt l us))) ?_ (fun k => by simp only [spec_Night.l0])
    refine Ev.bind hun ?_
    simpa using Ev.now _
  · have inner : ∀ i, i ≤ (impl_byDep.l0 l).length → ∀ s : Int, (((impl_byDep.l0 l).drop i).filter (fun t => un out t == (u : Int))).foldl (fun _ t => (rd_T25 l t).f1) s = endAt l us u → Ev (fun k => spec_Night.l1 k l out ((List.range u).map (endAt l us)) (impl_byDep.l0 l) (u : Int) s (i : Int)) ((List.range us.length).map (endAt l us)) := by
      refine down _ (fun s hs => ?_) (fun i hi ih2 s hs => ?_)
      · rw [List.drop_length, List.filter_nil, List.foldl_nil] at hs
        refine ev_at ih (fun k => ?_)
        have e : (List.range u).map (endAt l us) ++ [endAt l us u] = (List.range (u + 1)).map (endAt l us) := by rw [List.range_succ, List.map_append]; rfl
        simp only [spec_Night.l1, Int.lt_irrefl, if_false, List.length_map, List.length_range, show u < 17592186044416 by omega, if_true, hs, e, w64s hu (show us.length ≤ 1000000000 by omega)]
      · obtain ⟨x, hx⟩ : ∃ x, x = (impl_byDep.l0 l).getD i 0 := ⟨_, rfl⟩
        obtain ⟨x0, x1⟩ := f2 x (by rw [hx]; exact getD_mem _ _ _ hi)
        have hrd : rd (impl_byDep.l0 l) (i : Int) = x := by unfold rd; rw [Int.toNat_natCast, hx]
        have hr := un_rd out x x0 (by omega)
        rw [drop_getD 0 _ i hi, ← hx, List.filter_cons] at hs
        by_cases c : un out x = (u : Int)
        · rw [if_pos (by rw [c]; exact beq_self_eq_true _), List.foldl_cons] at hs
          refine ev_at (ih2 _ hs) (fun k => ?_)
          simp only [spec_Night.l1, show (i : Int) < ((impl_byDep.l0 l).length : Int) by omega, show (0 : Int) ≤ (i : Int) by omega, hrd, x0, x1, hol, hr, c, if_true, w64s hi (show (impl_byDep.l0 l).length ≤ 1000000000 by omega)]
        · rw [if_neg (by rw [beq_iff_eq]; exact c)] at hs
          refine ev_at (ih2 s hs) (fun k => ?_)
          simp only [spec_Night.l1, show (i : Int) < ((impl_byDep.l0 l).length : Int) by omega, show (0 : Int) ≤ (i : Int) by omega, hrd, x0, x1, hol, hr, c, if_true, if_false, w64s hi (show (impl_byDep.l0 l).length ≤ 1000000000 by omega)]
    refine ev_at (f := fun k => (spec_l16Units.f k out).bind fun t => if (u : Int) < t then spec_Night.l1 k l out ((List.range u).map (endAt l us)) (impl_byDep.l0 l) (u : Int) 0 0 else some ((List.range u).map (endAt l us))) ?_ (fun k => by simp only [spec_Night.l0])
    refine Ev.bind hun ?_
    simp only [show (u : Int) < (us.length : Int) by omega, if_true]
    refine inner 0 (by omega) 0 ?_
    rw [List.drop_zero, ← h.fil u hu, fold_last (fun t => (rd_T25 l t).f1) _ _ (h.ne u hu)]
    rfl
theorem night_both (l : List S25) (turn : Int) (h : l.length ≤ 1048576) : ∃ out : List Int, out.length ≤ 1048576 ∧ Ev (fun k => spec_Night.f k l turn) out ∧ Ev (fun k => impl_Night.f k l turn) out := by
  cases hb : (tasksB l && inB turn 0 120) with
  | false =>
    refine ⟨[], by simp, ?_, ?_⟩
    · unfold spec_Night.f
      refine Ev.bind (spec_chains_nil l turn h hb) ?_
      simpa using Ev.now _
    · unfold impl_Night.f
      refine Ev.bind (impl_tasks l h) ?_
      cases hl : tasksB l with
      | false =>
        simp only [Bool.false_eq_true, if_false]
        exact ev_some (fun k => by simp [impl_Night.j0])
      | true =>
        have htb : inB turn 0 120 = false := by rw [hl] at hb; simpa using hb
        simp only [if_true, turn_ok, htb, Option.bind_some, Bool.not_false]
        exact ev_some (fun k => by simp [impl_Night.j0])
  | true =>
    rw [Bool.and_eq_true] at hb
    obtain ⟨hl, htb⟩ := hb
    obtain ⟨h40, hta⟩ := tasksB_parts hl
    obtain ⟨out, r1, r2⟩ := spec_chains l turn hl (inB_iff.1 htb)
    obtain ⟨f1, f2, f3⟩ := order_facts l
    obtain ⟨s1, s2⟩ := rel_small r1 f1
    have hol := r1.ol
    refine ⟨(List.range (units l turn).length).map (endAt l (units l turn)), by simp; omega, ?_, ?_⟩
    · unfold spec_Night.f
      refine Ev.bind r2 ?_
      by_cases c : out.length = 0
      · have e : (units l turn).length = 0 := by omega
        simpa [c, e] using Ev.now _
      · simp only [show ¬ ((out.length : Int) = 0) by omega, if_false]
        refine Ev.bind (spec_order l (by omega)) ?_
        have := spec_night r1 h40 s1 0 (by omega)
        simpa using this
    · unfold impl_Night.f
      have ht := impl_tasks l h
      rw [hl] at ht
      refine Ev.bind ht ?_
      simp only [if_true, turn_ok, htb, Option.bind_some, Bool.not_true]
      have key := impl_night r1 (by omega) (fun u hu => by have := s2 u hu; omega) 0 (by omega)
      refine ev_at key (fun k => ?_)
      have e : impl_chains.f k l turn = some (units l turn) := by unfold impl_chains.f; rw [if_pos h40]; rfl
      simp [impl_Night.j0, e]


/-- The last task of unit u in a list of places, or -1. -/
def lastOf (us : List Int) (ts : List Int) (u : Int) : Int := ts.foldl (fun a t => if rd us t = u then t else a) (-1)
theorem lastOf_snoc (us ts : List Int) (t u : Int) : lastOf us (ts ++ [t]) u = if rd us t = u then t else lastOf us ts u := by unfold lastOf; rw [List.foldl_append]; rfl
theorem lastOf_mem (us : List Int) (u : Int) : ∀ (ts : List Int) (a : Int), ts.foldl (fun a t => if rd us t = u then t else a) a = a ∨ ts.foldl (fun a t => if rd us t = u then t else a) a ∈ ts
  | [], a => Or.inl rfl
  | t :: ts, a => by
    rw [List.foldl_cons]
    rcases lastOf_mem us u ts (if rd us t = u then t else a) with h | h
    · by_cases c : rd us t = u
      · rw [if_pos c] at h ⊢; right; rw [h]; simp
      · rw [if_neg c] at h ⊢; left; exact h
    · right; exact List.mem_cons_of_mem _ h
def okStep (l : List S25) (turn : Int) (us ts : List Int) (t : Int) : Bool := inB (rd us t) 0 39 && (decide (lastOf us ts (rd us t) < 0) || follB (rd_T25 l (lastOf us ts (rd us t))) (rd_T25 l t) turn)
def okAll (l : List S25) (turn : Int) (us : List Int) : List Int → List Int → Bool
  | _, [] => true
  | ts, t :: rest => okStep l turn us ts t && okAll l turn us (ts ++ [t]) rest
theorem spec_okAll (l : List S25) (turn : Int) (us od : List Int) (hl : tasksB l = true) (htu : inB turn 0 120 = true) (hul : us.length = l.length) (hod : od.length = l.length) (hm : ∀ t, t ∈ od → 0 ≤ t ∧ t < l.length) :
    ∀ i, i ≤ od.length → Ev (fun k => spec_ChainOk.l0 k l turn us od (i : Int)) (okAll l turn us (od.take i) (od.drop i)) := by
  obtain ⟨h40, hta⟩ := tasksB_parts hl
  have htask : ∀ x : Int, 0 ≤ x → x < l.length → taskB (rd_T25 l x) = true := fun x hx0 hx1 => hta _ (by unfold rd_T25; exact getD_mem _ _ _ (by omega))
  refine down od.length ?_ (fun i hi ih => ?_)
  · rw [List.drop_length, okAll]
    exact ev_some (fun k => by simp [spec_ChainOk.l0])
  · obtain ⟨t, ht⟩ : ∃ t, t = od.getD i 0 := ⟨_, rfl⟩
    obtain ⟨h0, h1⟩ := hm t (by rw [ht]; exact getD_mem _ _ _ hi)
    have hrd : rd od (i : Int) = t := by unfold rd; rw [Int.toNat_natCast, ht]
    have hto := take_getD 0 od i hi
    rw [← ht] at hto
    rw [drop_getD 0 od i hi, ← ht, okAll, ← hto]
    refine ev_at (f := fun k => if inB (rd us t) 0 39 = true then spec_ChainOk.l1 k l turn us od (i : Int) (-1) ((0 : Nat) : Int) else some false) ?_ (fun k => by simp only [spec_ChainOk.l0, show (i : Int) < (od.length : Int) by omega, show (0 : Int) ≤ (i : Int) by omega, hrd, h0, h1, hul, if_true, l01In, Option.bind_some]; rfl)
    cases c : inB (rd us t) 0 39 with
    | false =>
      simp only [Bool.false_eq_true, if_false]
      have : okStep l turn us (od.take i) t = false := by unfold okStep; rw [c]; rfl
      rw [this]
      exact Ev.now _
    | true =>
      simp only [if_true]
      obtain ⟨V, hV⟩ : ∃ V, V = (okStep l turn us (od.take i) t && okAll l turn us (od.take (i + 1)) (od.drop (i + 1))) := ⟨_, rfl⟩
      rw [← hV]
      have fin : Ev (fun k => spec_ChainOk.l1 k l turn us od (i : Int) (lastOf us (od.take i) (rd us t)) (i : Int)) V := by
        obtain ⟨z, hz⟩ : ∃ z, z = lastOf us (od.take i) (rd us t) := ⟨_, rfl⟩
        rw [← hz]
        by_cases c2 : z < 0
        · have e : V = okAll l turn us (od.take (i + 1)) (od.drop (i + 1)) := by
            rw [hV]; unfold okStep; rw [c, ← hz, decide_eq_true c2]; rfl
          rw [e]
          refine ev_at ih (fun k => ?_)
          simp only [spec_ChainOk.l1, Int.lt_irrefl, if_false, show ¬ (z ≥ 0) by omega, w64s hi (show od.length ≤ 1000000000 by omega)]
        · have hz0 : 0 ≤ z ∧ z < l.length := by
            rcases lastOf_mem us (rd us t) (od.take i) (-1) with h | h
            · have : z = -1 := hz.trans h
              omega
            · exact hm z (List.mem_of_mem_take (by rw [hz]; exact h))
          have hsp := spec_follows (rd_T25 l z) (rd_T25 l t) turn
          have hfb : followsB (rd_T25 l z) (rd_T25 l t) turn = follB (rd_T25 l z) (rd_T25 l t) turn := by
            unfold followsB
            rw [htask _ hz0.1 hz0.2, htask _ h0 h1, htu]; rfl
          rw [hfb] at hsp
          have e : V = (follB (rd_T25 l z) (rd_T25 l t) turn && okAll l turn us (od.take (i + 1)) (od.drop (i + 1))) := by
            rw [hV]; unfold okStep; rw [c, ← hz, decide_eq_false c2]; simp
          rw [e]
          refine ev_at (f := fun k => if follB (rd_T25 l z) (rd_T25 l t) turn = true then spec_ChainOk.l0 k l turn us od ((i + 1 : Nat) : Int) else some false) ?_ (fun k => by simp only [spec_ChainOk.l1, Int.lt_irrefl, if_false, show z ≥ 0 by omega, if_true, hz0.2, show (i : Int) < (od.length : Int) by omega, show (0 : Int) ≤ (i : Int) by omega, hrd, h0, h1, hsp, Option.bind_some, w64s hi (show od.length ≤ 1000000000 by omega)])
          cases follB (rd_T25 l z) (rd_T25 l t) turn with
          | false => simpa using Ev.now false
          | true => simpa using ih
      have inner : ∀ j, j ≤ i → ∀ z : Int, ((od.take i).drop j).foldl (fun a t' => if rd us t' = rd us t then t' else a) z = lastOf us (od.take i) (rd us t) → Ev (fun k => spec_ChainOk.l1 k l turn us od (i : Int) z (j : Int)) V := by
        have hti : (od.take i).length = i := by rw [List.length_take]; omega
        refine down i (fun z hz => ?_) (fun j hj ih2 z hz => ?_)
        · rw [List.drop_of_length_le (by omega), List.foldl_nil] at hz
          rw [hz]; exact fin
        · obtain ⟨y, hy⟩ : ∃ y, y = od.getD j 0 := ⟨_, rfl⟩
          obtain ⟨y0, y1⟩ := hm y (by rw [hy]; exact getD_mem _ _ _ (by omega))
          have hrdj : rd od (j : Int) = y := by unfold rd; rw [Int.toNat_natCast, hy]
          have hyt : (od.take i).getD j 0 = y := by
            rw [hy, List.getD_eq_getElem?_getD, List.getD_eq_getElem?_getD, List.getElem?_take_of_lt hj]
          rw [drop_getD 0 _ j (by omega), hyt, List.foldl_cons] at hz
          by_cases c2 : rd us y = rd us t
          · rw [if_pos c2] at hz
            refine ev_at (ih2 y hz) (fun k => ?_)
            simp only [spec_ChainOk.l1, show (j : Int) < (i : Int) by omega, show (0 : Int) ≤ (j : Int) by omega, show (j : Int) < (od.length : Int) by omega, show (0 : Int) ≤ (i : Int) by omega, show (i : Int) < (od.length : Int) by omega, hrdj, hrd, y0, y1, h0, h1, hul, c2, if_true, w64s hj (show i ≤ 1000000000 by omega)]
          · rw [if_neg c2] at hz
            refine ev_at (ih2 z hz) (fun k => ?_)
            simp only [spec_ChainOk.l1, show (j : Int) < (i : Int) by omega, show (0 : Int) ≤ (j : Int) by omega, show (j : Int) < (od.length : Int) by omega, show (0 : Int) ≤ (i : Int) by omega, show (i : Int) < (od.length : Int) by omega, hrdj, hrd, y0, y1, h0, h1, hul, c2, if_true, if_false, w64s hj (show i ≤ 1000000000 by omega)]
      exact inner 0 (by omega) (-1) (by rw [List.drop_zero]; rfl)
/-- The program's array of last tasks. -/
theorem okAll_array (l : List S25) (turn : Int) (us : List Int) (hta : ∀ x, x ∈ l → taskB x = true) (htu : 0 ≤ turn ∧ turn ≤ 120) (hr : ∀ t : Int, 0 ≤ t → t < l.length → 0 ≤ rd us t ∧ rd us t ≤ 39) :
    ∀ (rest ts last : List Int), last.length = 40 → (∀ t, t ∈ ts ++ rest → 0 ≤ t ∧ t < l.length) → (∀ u : Int, 0 ≤ u → u ≤ 39 → rd last u = lastOf us ts u) → okAll l turn us ts rest = impl_ChainOk.l1 l turn us rest last
  | [], ts, last, _, _, _ => by rw [okAll, impl_ChainOk.l1]
  | t :: rest, ts, last, hl, hm, h => by
    obtain ⟨h0, h1⟩ := hm t (by simp)
    obtain ⟨r0, r1⟩ := hr t h0 h1
    rw [okAll, impl_ChainOk.l1, okStep, inB_iff.2 ⟨r0, r1⟩, Bool.true_and, h _ r0 r1]
    obtain ⟨z, hz⟩ : ∃ z, z = lastOf us ts (rd us t) := ⟨_, rfl⟩
    rw [← hz]
    have hnext : okAll l turn us (ts ++ [t]) rest = impl_ChainOk.l1 l turn us rest (last.set (rd us t).toNat t) := by
      refine okAll_array l turn us hta htu hr rest (ts ++ [t]) _ (by rw [List.length_set]; exact hl) (fun x hx => hm x (by simpa using hx)) (fun u u0 u1 => ?_)
      rw [lastOf_snoc]
      have := h u u0 u1
      unfold rd at this ⊢
      rw [List.getD_eq_getElem?_getD, List.getElem?_set]
      by_cases c : List.getD us t.toNat 0 = u
      · rw [if_pos (show (List.getD us t.toNat 0).toNat = u.toNat by rw [c]), if_pos (by have : (rd us t) = u := c; omega), if_pos c]; rfl
      · rw [if_neg c, if_neg (show ¬ (List.getD us t.toNat 0).toNat = u.toNat by have : rd us t = List.getD us t.toNat 0 := rfl; omega), ← List.getD_eq_getElem?_getD]
        exact this
    by_cases c : z < 0
    · rw [decide_eq_true c, if_neg (by omega), Bool.true_or, Bool.true_and, hnext]
    · have hz0 : 0 ≤ z ∧ z < l.length := by
        rcases lastOf_mem us (rd us t) ts (-1) with h | h
        · have : z = -1 := hz.trans h
          omega
        · exact hm z (List.mem_append_left _ (by rw [hz]; exact h))
      have ht : taskB (rd_T25 l z) = true := hta _ (by unfold rd_T25; exact getD_mem _ _ _ (by omega))
      rw [decide_eq_false c, Bool.false_or, l3_foll _ ht htu]
      cases follB (rd_T25 l z) (rd_T25 l t) turn with
      | true => rw [if_neg (by simp), Bool.true_and, hnext]
      | false => rw [if_pos ⟨by omega, rfl⟩, Bool.false_and]
theorem okAll_bad (l : List S25) (turn : Int) (us : List Int) : ∀ (rest ts : List Int), (∃ t, t ∈ rest ∧ inB (rd us t) 0 39 = false) → okAll l turn us ts rest = false
  | [], ts, ⟨t, ht, _⟩ => absurd ht (by simp)
  | x :: rest, ts, ⟨t, ht, hb⟩ => by
    rw [okAll]
    rcases List.mem_cons.1 ht with e | ht
    · have : okStep l turn us ts x = false := by unfold okStep; rw [← e, hb]; rfl
      rw [this]; rfl
    · rw [okAll_bad l turn us rest (ts ++ [x]) ⟨t, ht, hb⟩, Bool.and_false]
def chainB (l : List S25) (turn : Int) (us : List Int) : Bool := tasksB l && inB turn 0 120 && decide (us.length = l.length) && impl_ChainOk.l0 l turn us
theorem okAll_value (l : List S25) (turn : Int) (us : List Int) (hl : tasksB l = true) (htu : inB turn 0 120 = true) (hul : us.length = l.length) : okAll l turn us [] (impl_byDep.l0 l) = impl_ChainOk.l0 l turn us := by
  obtain ⟨h40, hta⟩ := tasksB_parts hl
  obtain ⟨f1, f2, f3⟩ := order_facts l
  unfold impl_ChainOk.l0
  cases c : us.all (fun u => decide (0 ≤ u) && decide (u ≤ 39)) with
  | true =>
    rw [Bool.true_and]
    rw [List.all_eq_true] at c
    refine okAll_array l turn us hta (inB_iff.1 htu) (fun t h0 h1 => ?_) _ [] _ (by simp) (fun t ht => f2 t (by simpa using ht)) (fun u u0 u1 => ?_)
    · have := c (rd us t) (by unfold rd; exact getD_mem _ _ _ (by omega))
      simpa using this
    · unfold rd lastOf
      rw [List.getD_eq_getElem?_getD, List.getElem?_replicate, if_pos (by omega)]; rfl
  | false =>
    rw [Bool.false_and]
    refine okAll_bad l turn us _ _ ?_
    rw [List.all_eq_false] at c
    obtain ⟨u, hu, hb⟩ := c
    obtain ⟨i, hi, e⟩ := List.mem_iff_getElem.1 hu
    refine ⟨(i : Int), ?_, ?_⟩
    · rw [ord_map]
      exact List.mem_map.2 ⟨i, (ord_mem l i).2 (by omega), rfl⟩
    · have e2 : rd us (i : Int) = u := by unfold rd; rw [Int.toNat_natCast, List.getD_eq_getElem?_getD, List.getElem?_eq_getElem hi, ← e]; rfl
      rw [e2]
      unfold inB
      simpa using hb
theorem turn_ok' (turn : Int) : impl_turnOk.f turn = some (inB turn 0 120) := by unfold impl_turnOk.f; rw [between]; rfl
theorem spec_chainB (l : List S25) (turn : Int) (us : List Int) (h : l.length ≤ 1048576) : Ev (fun k => spec_ChainOk.f k l turn us) (chainB l turn us) := by
  unfold spec_ChainOk.f chainB
  refine Ev.bind (spec_tasks l h) ?_
  cases hl : tasksB l with
  | false =>
    simp only [Bool.false_eq_true, if_false, Bool.false_and]
    exact ev_some (fun k => by simp [spec_ChainOk.j0])
  | true =>
    cases htu : inB turn 0 120 with
    | false =>
      simp only [if_true, spec_l16Turn.f, l01In, htu, Option.bind_some, Bool.false_eq_true, if_false, Bool.and_false, Bool.false_and]
      exact ev_some (fun k => by simp [spec_ChainOk.j0])
    | true =>
      simp only [if_true, spec_l16Turn.f, l01In, htu, Option.bind_some, Bool.true_and]
      by_cases c : us.length = l.length
      · rw [decide_eq_true c, Bool.true_and, ← okAll_value l turn us hl htu c]
        have e : ((us.length : Int) != (l.length : Int)) = false := by rw [c]; simp
        rw [e]
        obtain ⟨h40, hta⟩ := tasksB_parts hl
        obtain ⟨f1, f2, f3⟩ := order_facts l
        refine ev_at (f := fun k => (spec_l16Order.f k l).bind fun t => spec_ChainOk.l0 k l turn us t 0) ?_ (fun k => by simp [spec_ChainOk.j0])
        refine Ev.bind (spec_order l (by omega)) ?_
        have := spec_okAll l turn us (impl_byDep.l0 l) hl htu c f1 f2 0 (by omega)
        simpa using this
      · rw [decide_eq_false c, Bool.false_and]
        have e : ((us.length : Int) != (l.length : Int)) = true := by simp; omega
        rw [e]
        exact ev_some (fun k => by simp [spec_ChainOk.j0])
theorem impl_chainB (l : List S25) (turn : Int) (us : List Int) (h : l.length ≤ 1048576) : Ev (fun k => impl_ChainOk.f k l turn us) (chainB l turn us) := by
  unfold impl_ChainOk.f chainB
  refine Ev.bind (impl_tasks l h) ?_
  cases hl : tasksB l with
  | false => simpa using Ev.now false
  | true =>
    cases htu : inB turn 0 120 with
    | false => simpa [turn_ok', htu] using Ev.now false
    | true =>
      simp only [if_true, turn_ok', htu, Option.bind_some, Bool.true_and]
      by_cases c : us.length = l.length
      · simp only [c, if_true, decide_true, Bool.true_and]; exact Ev.now _
      · simp only [c, if_false, decide_false, Bool.false_and]; exact Ev.now _


/-- Two neighbours of a list are so. -/
def linked (R : Int → Int → Prop) : List Int → Prop
  | [] => True
  | [_] => True
  | x :: y :: r => R x y ∧ linked R (y :: r)
theorem linked_snoc (R : Int → Int → Prop) : ∀ (c : List Int) (t : Int), linked R c → (c ≠ [] → R (lst c) t) → linked R (c ++ [t])
  | [], t, _, _ => trivial
  | [x], t, _, h => ⟨h (by simp), trivial⟩
  | x :: y :: r, t, hc, h => by
    refine ⟨hc.1, linked_snoc R (y :: r) t hc.2 (fun _ => ?_)⟩
    have := h (by simp)
    have e : lst (x :: y :: r) = lst (y :: r) := by
      unfold lst rd
      simp [List.getD_eq_getElem?_getD]
    rw [e] at this
    exact this
theorem best_foll (l : List S25) (turn t : Int) (us : List (List Int)) (P : Nat → Prop) : ∀ (k u : Nat) (best : Int), u + k = us.length → (∀ b : Nat, best = (b : Int) → P b) → (∀ b : Nat, b < us.length → impl_chains.l3 turn (rd_T25 l (lst (cat us b))) (rd_T25 l t) = true → P b) → ∀ b : Nat, impl_chains.l1 l turn t us k u best = (b : Int) → P b
  | 0, u, best, _, h1, _ => by rw [impl_chains.l1]; exact h1
  | k + 1, u, best, h, h1, h2 => by
    have hu : ∀ b : Nat, ((u : Nat) : Int) = (b : Int) → impl_chains.l3 turn (rd_T25 l (impl_chains.l2 us u)) (rd_T25 l t) = true → P b := fun b e hl => by
      have e : u = b := by omega
      rw [← e]
      rw [l2_lst] at hl
      exact h2 u (by omega) hl
    rw [impl_chains.l1]
    split
    · rename_i hl
      split
      · exact best_foll l turn t us P k (u + 1) u (by omega) (fun b e => hu b e hl) h2
      · split
        · exact best_foll l turn t us P k (u + 1) u (by omega) (fun b e => hu b e hl) h2
        · exact best_foll l turn t us P k (u + 1) best (by omega) h1 h2
    · exact best_foll l turn t us P k (u + 1) best (by omega) h1 h2
def Follows' (l : List S25) (turn : Int) (x y : Int) : Prop := impl_chains.l3 turn (rd_T25 l x) (rd_T25 l y) = true
theorem units_linked (l : List S25) (turn : Int) : ∀ (ts : List Int) (us : List (List Int)), (∀ u, u < us.length → linked (Follows' l turn) (cat us u)) → ∀ u, u < (impl_chains.l0 l turn ts us).length → linked (Follows' l turn) (cat (impl_chains.l0 l turn ts us) u)
  | [], us, h => by rw [impl_chains.l0]; exact h
  | t :: ts, us, h => by
    rw [impl_chains.l0]
    obtain ⟨g1, g2⟩ := best_bounds l turn t us us.length 0 (-1) (by omega) (by omega) (by omega)
    obtain ⟨b, hb⟩ : ∃ b, b = impl_chains.l1 l turn t us us.length 0 (-1) := ⟨_, rfl⟩
    rw [← hb] at g1 g2 ⊢
    by_cases c : b < 0
    · rw [if_pos c]
      refine units_linked l turn ts _ (fun u hu => ?_)
      rw [List.length_append, List.length_singleton] at hu
      rw [cat_push _ _ _ hu]
      by_cases e : u = us.length
      · rw [if_pos e]; exact trivial
      · rw [if_neg e]; exact h u (by omega)
    · rw [if_neg c]
      obtain ⟨bn, rfl⟩ : ∃ bn : Nat, b = (bn : Int) := ⟨b.toNat, by omega⟩
      rw [Int.toNat_natCast]
      refine units_linked l turn ts _ (fun u hu => ?_)
      rw [List.length_set] at hu
      have e0 : us.getD bn [] = cat us bn := rfl
      rw [e0, cat_set _ _ _ _ (by omega)]
      by_cases e : bn = u
      · rw [if_pos e]
        refine linked_snoc _ _ _ (h bn (by omega)) (fun _ => ?_)
        exact best_foll l turn t us (fun b => Follows' l turn (lst (cat us b)) t) us.length 0 (-1) (by omega) (fun b e => by omega) (fun b _ hl => hl) bn hb.symm
      · rw [if_neg e]; exact h u hu
theorem units_chain (l : List S25) (turn : Int) (u : Nat) (hu : u < (units l turn).length) : linked (Follows' l turn) (cat (units l turn) u) :=
  units_linked l turn (impl_byDep.l0 l) [] (fun u hu => absurd hu (by simp)) u hu
/-- In a chain the first one's Dep is the least, and so on. -/
theorem linked_pairs {R : Int → Int → Prop} (f : Int → Int) (P : Int → Prop) (hR : ∀ x y, P x → P y → R x y → f x < f y) : ∀ (c : List Int), (∀ x, x ∈ c → P x) → linked R c → c.Pairwise (fun x y => f x < f y)
  | [], _, _ => List.Pairwise.nil
  | [x], _, _ => List.pairwise_singleton _ _
  | x :: y :: r, hP, h => by
    have ih := linked_pairs f P hR (y :: r) (fun z hz => hP z (List.mem_cons_of_mem _ hz)) h.2
    have hxy := hR x y (hP x (by simp)) (hP y (by simp)) h.1
    refine List.Pairwise.cons (fun z hz => ?_) ih
    rcases List.mem_cons.1 hz with e | hz
    · rw [e]; exact hxy
    · have := (List.pairwise_cons.1 ih).1 z hz
      omega
theorem foll_dep {l : List S25} {turn : Int} (hta : ∀ x, x ∈ l → taskB x = true) (htu : 0 ≤ turn ∧ turn ≤ 120) (x y : Int) (hx : 0 ≤ x ∧ x < l.length) (h : Follows' l turn x y) : (rd_T25 l x).f1 = (rd_T25 l y).f0 ∧ (rd_T25 l x).f2 < (rd_T25 l y).f2 ∧ (rd_T25 l x).f3 + turn ≤ (rd_T25 l y).f2 := by
  have ht : taskB (rd_T25 l x) = true := hta _ (by unfold rd_T25; exact getD_mem _ _ _ (by omega))
  unfold Follows' at h
  rw [l3_foll _ ht htu] at h
  unfold follB at h
  rw [Bool.and_eq_true, decide_eq_true_eq, decide_eq_true_eq] at h
  have := (taskB_bounds ht).2.2.1
  omega


theorem ev_unique {α : Type} {g : Nat → Option α} {a b : α} (h1 : Ev g a) (h2 : Ev g b) : a = b := by
  obtain ⟨K1, h1⟩ := h1
  obtain ⟨K2, h2⟩ := h2
  have e1 := h1 (max K1 K2) (by omega)
  have e2 := h2 (max K1 K2) (by omega)
  rw [e1] at e2
  exact Option.some.inj e2
theorem same_ints (l : List Int) (h : l.length ≤ 1048576) : Ev (fun k => laws_sameInts.f k l l) true := by
  have key := ev_true l.length (fun k i => laws_sameInts.l0 k l l i) (fun k => by simp [laws_sameInts.l0]) (fun k i hi => by simp [laws_sameInts.l0, w64s hi (by omega), hi])
  simpa [laws_sameInts.f] using key
theorem chains_rel (l : List S25) (turn : Int) (hl : tasksB l = true) (htb : inB turn 0 120 = true) : ∃ out, Rel l.length (impl_byDep.l0 l) (units l turn) out ∧ Ev (fun k => spec_Chains.f k l turn) out ∧ Ev (fun k => impl_Chains.f k l turn) out ∧ (units l turn).length ≤ l.length := by
  obtain ⟨h40, hta⟩ := tasksB_parts hl
  obtain ⟨out, r1, r2⟩ := spec_chains l turn hl (inB_iff.1 htb)
  obtain ⟨out', _, s1, s2⟩ := chains_both l turn (by omega)
  have e := ev_unique r2 s1
  rw [← e] at s2
  exact ⟨out, r1, r2, s2, (rel_small r1 (order_facts l).1).1⟩
theorem impl_units {α : Type} (l : List S25) (turn : Int) (hl : tasksB l = true) (htb : inB turn 0 120 = true) (F : Nat → Bool → Option α) (G : Nat → List (List Int) → Option α) (r : α)
    (h0 : ∀ k, F (k + 1) false = (impl_chains.f k l turn).bind fun us => G k us) (h1 : Ev (fun k => G k (units l turn)) r) : Ev (fun k => (impl_TasksOk.f k l).bind fun t => if t = true then (impl_turnOk.f turn).bind fun t2 => F k (!t2) else F k true) r := by
  obtain ⟨h40, hta⟩ := tasksB_parts hl
  have ht := impl_tasks l (by omega)
  rw [hl] at ht
  refine Ev.bind ht ?_
  simp only [if_true, turn_ok, htb, Option.bind_some, Bool.not_true]
  refine ev_at h1 (fun k => ?_)
  have e : impl_chains.f k l turn = some (units l turn) := by unfold impl_chains.f; rw [if_pos h40]; rfl
  rw [h0, e]; rfl
theorem mileage_value (l : List S25) (turn : Int) (hl : tasksB l = true) (htb : inB turn 0 120 = true) : Ev (fun k => impl_Mileage.f k l turn) ((List.range (units l turn).length).map (unitKm l (units l turn))) := by
  obtain ⟨h40, hta⟩ := tasksB_parts hl
  obtain ⟨out, r1, _, _, s1⟩ := chains_rel l turn hl htb
  have s2 := (rel_small r1 (order_facts l).1).2
  have key := impl_miles r1 hta (by omega) (fun u hu => by have := s2 u hu; omega) 0 (by omega)
  unfold impl_Mileage.f
  exact impl_units l turn hl htb (fun k b => impl_Mileage.j0 k l turn b) (fun k us => impl_Mileage.l0 k l [] us (us.length : Int) 0) _ (fun k => by simp [impl_Mileage.j0]) key


/-- From some round on it tells something that meets Q. -/
def EvP {α : Type} (g : Nat → Option α) (Q : α → Prop) : Prop := ∃ r, Ev g r ∧ Q r
theorem evp_of {α : Type} {g : Nat → Option α} {Q : α → Prop} {r : α} (h : Ev g r) (q : Q r) : EvP g Q := ⟨r, h, q⟩
theorem evp_now {α : Type} {Q : α → Prop} (r : α) (q : Q r) : EvP (fun _ => some r) Q := ⟨r, Ev.now r, q⟩
theorem evp_bind {α β : Type} {g : Nat → Option α} {f : Nat → α → Option β} {Q1 : α → Prop} {Q : β → Prop} (h : EvP g Q1) (k : ∀ a, Q1 a → EvP (fun n => f n a) Q) : EvP (fun n => (g n).bind (f n)) Q := by
  obtain ⟨a, ha, qa⟩ := h
  obtain ⟨r, hr, qr⟩ := k a qa
  exact ⟨r, Ev.bind ha hr, qr⟩
theorem evp_at {α : Type} {g f : Nat → Option α} {Q : α → Prop} (k : EvP f Q) (h : ∀ k, g (k + 1) = f k) : EvP g Q := by
  obtain ⟨r, hr, q⟩ := k
  exact ⟨r, ev_at hr h, q⟩
theorem evp_mono {α : Type} {g : Nat → Option α} {Q Q' : α → Prop} (h : EvP g Q) (k : ∀ a, Q a → Q' a) : EvP g Q' := by
  obtain ⟨r, hr, q⟩ := h
  exact ⟨r, hr, k r q⟩
theorem evp_true {g : Nat → Option Bool} (h : EvP g (fun b => b = true)) : Ev g true := by
  obtain ⟨r, hr, rfl⟩ := h
  exact hr

theorem and255 (x : Int) : 0 ≤ Go.bits .and .i64 x 255 ∧ Go.bits .and .i64 x 255 ≤ 255 := by
  have e : Go.bits .and .i64 x 255 = IntKind.i64.wrap (((BitVec.ofInt IntKind.i64.bits x &&& BitVec.ofInt IntKind.i64.bits 255).toNat : Nat) : Int) := rfl
  rw [e]
  have h : (BitVec.ofInt IntKind.i64.bits x &&& BitVec.ofInt IntKind.i64.bits 255).toNat ≤ 255 := by
    rw [BitVec.toNat_and]
    exact Nat.le_trans Nat.and_le_right (by decide)
  generalize (BitVec.ofInt IntKind.i64.bits x &&& BitVec.ofInt IntKind.i64.bits 255).toNat = n at h
  have e2 : IntKind.i64.wrap ((n : Nat) : Int) = wrap64 (n : Int) := by simp only [IntKind.wrap_i64, wrap64]
  rw [e2, w64 (by omega) (by omega)]
  omega

/-- The cursor stands within its bytes. -/
def At (b : List Int) (i : Int) : Prop := 0 ≤ i ∧ i ≤ b.length

theorem l01New (l : List Int) (hl : l.length ≤ 1048576) : EvP (fun k => spec_l01New.f k l) (fun r => r.1 = l ∧ At r.1 r.2.1) := by
  have key : ∀ i, i ≤ l.length → ∀ h : Int, EvP (fun k => spec_l01New.l0 k l h i) (fun r => r.1 = l ∧ At r.1 r.2.1) := by
    have fin : ∀ h : Int, At l 0 := fun h => ⟨Int.le_refl _, by omega⟩
    refine down l.length (fun h => ?_) (fun i hi ih h => ?_)
    · exact evp_of (ev_some (r := (l, 0, h)) (fun k => by simp [spec_l01New.l0])) ⟨rfl, fin h⟩
    · by_cases h4 : (i : Int) < 4000
      · exact evp_at (ih _) (fun k => by simp [spec_l01New.l0, hi, h4, w64s hi (by omega)]; rfl)
      · exact evp_of (ev_some (r := (l, 0, h)) (fun k => by simp [spec_l01New.l0, hi, h4])) ⟨rfl, fin h⟩
  exact key 0 (Nat.zero_le _) _

theorem l01Byte (b : List Int) (i h : Int) (hb : b.length ≤ 1048576) (hi : At b i) : ∃ v i' h', spec_l01Byte.f b i h = some (v, i', h') ∧ (0 ≤ v ∧ v ≤ 255) ∧ At b i' := by
  unfold spec_l01Byte.f
  unfold At at *
  by_cases hlt : i < (b.length : Int)
  · simp only [hlt, if_true, hi.1]
    exact ⟨_, _, _, rfl, and255 _, by rw [w64 (by omega) (by omega)]; omega⟩
  · simp only [hlt, if_false]
    exact ⟨_, _, _, rfl, and255 _, hi⟩

theorem l01Below (b : List Int) (i h n : Int) (hb : b.length ≤ 1048576) (hi : At b i) (hn : 1 ≤ n) (hn2 : n ≤ 1000000) : ∃ v i' h', spec_l01Below.f b i h n = some (v, i', h') ∧ (0 ≤ v ∧ v < n) ∧ At b i' := by
  unfold spec_l01Below.f
  simp only [show ¬ n ≤ 0 by omega, if_false, show ¬ n = 0 by omega]
  obtain ⟨v, i1, h1, e1, hv, hi1⟩ := l01Byte b i h hb hi
  obtain ⟨v2, i2, h2, e2, hv2, hi2⟩ := l01Byte b i1 h1 hb hi1
  obtain ⟨v3, i3, h3, e3, hv3, hi3⟩ := l01Byte b i2 h2 hb hi2
  by_cases h256 : n ≤ 256
  · simp only [h256, if_true, e1, Option.bind_some]
    refine ⟨_, _, _, rfl, ?_, hi1⟩
    rw [Int.tmod_eq_emod_of_nonneg hv.1]
    exact ⟨Int.emod_nonneg _ (by omega), Int.emod_lt_of_pos _ (by omega)⟩
  · simp only [h256, if_false, e1, e2, e3, Option.bind_some]
    refine ⟨_, _, _, rfl, ?_, hi3⟩
    rw [w64 (x := v * 65536) (by omega) (by omega), w64 (x := v2 * 256) (by omega) (by omega), w64 (x := v * 65536 + v2 * 256) (by omega) (by omega), w64 (x := v * 65536 + v2 * 256 + v3) (by omega) (by omega)]
    rw [Int.tmod_eq_emod_of_nonneg (by omega)]
    exact ⟨Int.emod_nonneg _ (by omega), Int.emod_lt_of_pos _ (by omega)⟩

/-- The same, as a step of a chain. -/
theorem below_then {α : Type} {Q : α → Prop} (b : List Int) (i h n : Int) (hb : b.length ≤ 1048576) (hi : At b i) (hn : 1 ≤ n) (hn2 : n ≤ 1000000) {f : Nat → Int × Int × Int → Option α}
    (k : ∀ v i' h', 0 ≤ v → v < n → At b i' → EvP (fun m => f m (v, i', h')) Q) : EvP (fun m => (spec_l01Below.f b i h n).bind (f m)) Q := by
  obtain ⟨v, i', h', e, hv, hi'⟩ := l01Below b i h n hb hi hn hn2
  rw [e]
  exact k v i' h' hv.1 hv.2 hi'



def rightT (t : S25) : Prop := (0 ≤ t.f0 ∧ t.f0 ≤ 2) ∧ (0 ≤ t.f1 ∧ t.f1 ≤ 2) ∧ (0 ≤ t.f2 ∧ t.f2 ≤ 299) ∧ (t.f2 < t.f3 ∧ t.f3 ≤ t.f2 + 50) ∧ (0 ≤ t.f4 ∧ t.f4 ≤ 89)
theorem rightT_task {t : S25} (h : rightT t) : taskB t = true := (taskB_iff t).2 ⟨⟨by have := h.1; omega, by have := h.2.1; omega⟩, ⟨by have := h.2.2.1; omega, by have := h.2.2.2.1; omega, by have := h.2.2.1; have := h.2.2.2.1; omega⟩, by have := h.2.2.2.2; omega⟩
theorem draw_size (l : List Int) (hl : l.length ≤ 1048576) : ∃ v, spec_l01Size.f l 14 = some v ∧ 2 ≤ v ∧ v ≤ 14 := by
  unfold spec_l01Size.f
  rw [w64 (x := (l.length : Int) / 16) (by omega) (by omega), w64 (by omega) (by omega)]
  by_cases h : 2 + (l.length : Int) / 16 > 14
  · exact ⟨14, by rw [if_pos h], by omega, by omega⟩
  · exact ⟨_, by rw [if_neg h], by omega, by omega⟩
theorem draw_loop (b : List Int) (hb : b.length ≤ 1048576) : ∀ (n : Nat) (x : List S25) (i h : Int), n + x.length ≤ 1000 → At b i → (∀ t, t ∈ x → rightT t) → EvP (fun k => spec_l16DrawRight.l0 k x (n : Int) b i h) (fun r => (∀ t, t ∈ r.1 → rightT t) ∧ r.1.length = x.length + n ∧ At b r.2.1)
  | 0, x, i, h, hn, hi, hx => evp_of (ev_some (r := (x, i, h)) (fun k => by simp [spec_l16DrawRight.l0])) ⟨hx, by simp, hi⟩
  | n + 1, x, i, h, hn, hi, hx => by
    have hw : wrap64 (((n + 1 : Nat) : Int) - 1) = (n : Int) := by rw [w64 (by omega) (by omega)]; omega
    refine evp_at (f := fun k => (spec_l01Below.f b i h 300).bind fun bt127 => ((spec_l01Below.f b bt127.2.1 bt127.2.2 3).bind fun bt130 => ((spec_l01Below.f b bt130.2.1 bt130.2.2 3).bind fun bt133 => ((spec_l01Below.f b bt133.2.1 bt133.2.2 50).bind fun bt136 => ((spec_l01Below.f b bt136.2.1 bt136.2.2 90).bind fun bt139 => (if (x.length : Int) > 0 then ((spec_l01Once.f b bt139.2.1 bt139.2.2 3).bind fun bt143 => (if bt143.1 = true then (if x.length < 3518437208883 then (spec_l16DrawRight.l0 k (x ++ [(⟨bt130.1, bt133.1, bt127.1, wrap64 ((wrap64 (bt127.1 + 1)) + bt136.1), bt139.1⟩ : S25)]) (n : Int) b bt143.2.1 bt143.2.2) else (none)) else ((spec_l01Below.f b bt143.2.1 bt143.2.2 (x.length : Int)).bind fun bt149 => (if 0 ≤ bt149.1 then (if bt149.1 < (x.length : Int) then (if x.length < 3518437208883 then (spec_l16DrawRight.l0 k (x ++ [(⟨(rd_T25 x bt149.1).f1, bt133.1, bt127.1, wrap64 ((wrap64 (bt127.1 + 1)) + bt136.1), bt139.1⟩ : S25)]) (n : Int) b bt149.2.1 bt149.2.2) else (none)) else (none)) else (none))))) else (if x.length < 3518437208883 then (spec_l16DrawRight.l0 k (x ++ [(⟨bt130.1, bt133.1, bt127.1, wrap64 ((wrap64 (bt127.1 + 1)) + bt136.1), bt139.1⟩ : S25)]) (n : Int) b bt139.2.1 bt139.2.2) else (none)))))))) ?_ (fun k => by
      rw [spec_l16DrawRight.l0, if_pos (by omega)]
      simp only [hw])
    refine below_then b i h 300 hb hi (by omega) (by omega) (fun dep i1 h1 p1 q1 hi1 => ?_)
    refine below_then b i1 h1 3 hb hi1 (by omega) (by omega) (fun fr i2 h2 p2 q2 hi2 => ?_)
    refine below_then b i2 h2 3 hb hi2 (by omega) (by omega) (fun tn i3 h3 p3 q3 hi3 => ?_)
    refine below_then b i3 h3 50 hb hi3 (by omega) (by omega) (fun dur i4 h4 p4 q4 hi4 => ?_)
    refine below_then b i4 h4 90 hb hi4 (by omega) (by omega) (fun km i5 h5 p5 q5 hi5 => ?_)
    simp only
    have ew : wrap64 ((wrap64 (dep + 1)) + dur) = dep + 1 + dur := by rw [w64 (x := dep + 1) (by omega) (by omega), w64 (by omega) (by omega)]
    have hsz : x.length < 3518437208883 := by omega
    have hnew : ∀ f : Int, 0 ≤ f → f ≤ 2 → ∀ t, t ∈ x ++ [(⟨f, tn, dep, wrap64 ((wrap64 (dep + 1)) + dur), km⟩ : S25)] → rightT t := fun f f0 f1 t ht => by
      rcases List.mem_append.1 ht with ht | ht
      · exact hx t ht
      · rw [List.mem_singleton.1 ht, ew]
        exact ⟨⟨f0, f1⟩, ⟨p3, by show tn ≤ 2; omega⟩, ⟨p1, by show dep ≤ 299; omega⟩, ⟨by show dep < dep + 1 + dur; omega, by show dep + 1 + dur ≤ dep + 50; omega⟩, ⟨p5, by show km ≤ 89; omega⟩⟩
    have fin : ∀ (f i6 h6 : Int), 0 ≤ f → f ≤ 2 → At b i6 → EvP (fun k => spec_l16DrawRight.l0 k (x ++ [(⟨f, tn, dep, wrap64 ((wrap64 (dep + 1)) + dur), km⟩ : S25)]) (n : Int) b i6 h6) (fun r => (∀ t, t ∈ r.1 → rightT t) ∧ r.1.length = x.length + (n + 1) ∧ At b r.2.1) := fun f i6 h6 f0 f1 hi6 => by
      refine evp_mono (draw_loop b hb n _ i6 h6 (by rw [List.length_append, List.length_singleton]; omega) hi6 (hnew f f0 f1)) (fun r hr => ⟨hr.1, by rw [hr.2.1, List.length_append, List.length_singleton]; omega, hr.2.2⟩)
    by_cases c : (x.length : Int) > 0
    · simp only [c, if_true]
      obtain ⟨v, i6, h6, ev, pv, hi6⟩ := l01Below b i5 h5 3 hb hi5 (by omega) (by omega)
      simp only [spec_l01Once.f, ev, Option.bind_some]
      by_cases c2 : (v == 0) = true
      · simp only [c2, if_true, hsz]
        exact fin fr i6 h6 p2 (by omega) hi6
      · simp only [c2]
        refine below_then b i6 h6 (x.length : Int) hb hi6 (by omega) (by omega) (fun w i7 h7 p7 q7 hi7 => ?_)
        simp only [p7, q7, hsz, if_true]
        have hr := hx (rd_T25 x w) (by unfold rd_T25; exact getD_mem _ _ _ (by omega))
        exact fin _ i7 h7 hr.2.1.1 hr.2.1.2 hi7
    · simp only [c, if_false, hsz, if_true]
      exact fin fr i5 h5 p2 (by omega) hi5
theorem draw_tasks (l : List Int) (hl : l.length ≤ 1048576) : EvP (fun k => spec_DrawRightTasks.f k l) (fun r => (∀ t, t ∈ r.1 → rightT t) ∧ r.1.length ≤ 15 ∧ 0 ≤ r.2 ∧ r.2 ≤ 15) := by
  unfold spec_DrawRightTasks.f
  refine evp_bind (l01New l hl) (fun x hx => ?_)
  obtain ⟨b, i, h⟩ := x
  obtain ⟨rfl, hi⟩ := hx
  simp only at hi ⊢
  obtain ⟨v, hv, v0, v1⟩ := draw_size b hl
  refine evp_bind (Q1 := fun r => (∀ t, t ∈ r.1 → rightT t) ∧ r.1.length ≤ 15 ∧ At b r.2.1) ?_ (fun x hx => ?_)
  · unfold spec_l16DrawRight.f
    simp only [hv, Option.bind_some, w64 (x := 2 + v) (show -9223372036854775808 ≤ 2 + v by omega) (by omega)]
    refine below_then b i h (2 + v) hl hi (by omega) (by omega) (fun m i1 h1 p1 q1 hi1 => ?_)
    obtain ⟨n, rfl⟩ : ∃ n : Nat, m = (n : Int) := ⟨m.toNat, by omega⟩
    refine evp_mono (draw_loop b hl n [] i1 h1 (by simp; omega) hi1 (fun t ht => absurd ht (by simp))) (fun r hr => ⟨hr.1, by have := hr.2.1; simp at this; omega, hr.2.2⟩)
  · obtain ⟨ts, i1, h1⟩ := x
    obtain ⟨hx1, hx2, hx3⟩ := hx
    simp only at hx1 hx2 hx3 ⊢
    refine below_then b i1 h1 16 hl hx3 (by omega) (by omega) (fun w i2 h2 p2 q2 hi2 => ?_)
    exact evp_now _ ⟨hx1, hx2, p2, by show w ≤ 15; omega⟩


theorem f3_foll {a : S25} (b : S25) {turn : Int} (ha : taskB a = true) (ht : 0 ≤ turn ∧ turn ≤ 120) : impl_Fleet.l3 turn a b = follB a b turn := by
  have := (taskB_bounds ha).2.2.1
  unfold impl_Fleet.l3 follB
  rw [w64 (by omega) (by omega)]
/-- How many were not asked. -/
def left (sn : List Bool) : Nat := sn.countP (fun x => !x)
theorem left_set : ∀ (sn : List Bool) (b : Nat), b < sn.length → sn.getD b false = false → left (sn.set b true) + 1 = left sn
  | [], b, h, _ => absurd h (by simp)
  | x :: sn, 0, _, h => by
    have e : x = false := h
    subst e
    simp [left]
  | x :: sn, b + 1, h, hs => by
    have ih := left_set sn b (by simpa using h) (by simpa using hs)
    simp only [left, List.set_cons_succ, List.countP_cons] at ih ⊢
    omega
structure Vd (n : Nat) (bf : List Int) (sn : List Bool) : Prop where
  bl : bf.length = n
  sl : sn.length = n
  lt : ∀ j, j < n → bf.getD j 0 < n
theorem Vd.sset {n : Nat} {bf : List Int} {sn : List Bool} (h : Vd n bf sn) (b : Nat) (x : Bool) : Vd n bf (sn.set b x) := ⟨h.bl, by rw [List.length_set]; exact h.sl, h.lt⟩
theorem Vd.bset {n : Nat} {bf : List Int} {sn : List Bool} (h : Vd n bf sn) (b : Nat) (x : Int) (hx : x < n) : Vd n (bf.set b x) sn := by
  refine ⟨by rw [List.length_set]; exact h.bl, h.sl, fun j hj => ?_⟩
  have := h.bl
  rw [List.getD_eq_getElem?_getD, List.getElem?_set]
  by_cases e : b = j
  · rw [if_pos e, if_pos (by omega)]; exact hx
  · rw [if_neg e, ← List.getD_eq_getElem?_getD]; exact h.lt j hj
theorem match_both (l : List S25) (turn : Int) (hl : tasksB l = true) (htu : 0 ≤ turn ∧ turn ≤ 120) : ∀ (C D a : Nat) (bf : List Int) (sn : List Bool) (b : Nat), left sn ≤ C → l.length ≤ b + D → b ≤ l.length → a < l.length → Vd l.length bf sn →
    ∃ r, Ev (fun k => impl_Fleet.l0 l turn k (a : Int) bf sn (b : Int)) r ∧ Ev (fun k => spec_l16Match.l0 k l turn (a : Int) bf sn (b : Int)) r ∧ Vd l.length r.2.1 r.2.2 ∧ left r.2.2 ≤ left sn := by
  obtain ⟨h40, hta⟩ := tasksB_parts hl
  have htask : ∀ x : Int, 0 ≤ x → x < l.length → taskB (rd_T25 l x) = true := fun x hx0 hx1 => hta _ (by unfold rd_T25; exact getD_mem _ _ _ (by omega))
  intro C
  induction C with
  | zero =>
    intro D
    induction D with
    | zero =>
      intro a bf sn b hC hD hb ha hV
      have e : b = l.length := by omega
      subst e
      exact ⟨(false, bf, sn), ev_some (fun k => by simp [impl_Fleet.l0]), ev_some (fun k => by simp [spec_l16Match.l0]), hV, Nat.le_refl _⟩
    | succ D ihD =>
      intro a bf sn b hC hD hb ha hV
      by_cases c : b < l.length
      · have hsl := hV.sl
        have hs : rdOf false sn (b : Int) = true := by
          cases hh : rdOf false sn (b : Int) with
          | true => rfl
          | false =>
            have := left_set sn b (by omega) (by unfold rdOf at hh; rw [Int.toNat_natCast] at hh; exact hh)
            omega
        obtain ⟨r, r1, r2, r3, r4⟩ := ihD a bf sn (b + 1) hC (by omega) (by omega) ha hV
        refine ⟨r, ?_, ?_, r3, r4⟩
        · refine ev_at r1 (fun k => ?_)
          rw [impl_Fleet.l0, if_pos (by omega), if_pos hs]
          rfl
        · have hj : Ev (fun k => spec_l16Match.j1 k l turn (a : Int) bf sn (b : Int) true) r := ev_at r2 (fun k => by simp [spec_l16Match.j1, w64s c (show l.length ≤ 1000000000 by omega)])
          refine ev_at hj (fun k => ?_)
          simp only [spec_l16Match.l0, show (b : Int) < (l.length : Int) by omega, show (0 : Int) ≤ (b : Int) by omega, hsl, hs, if_true]
      · have e : b = l.length := by omega
        subst e
        exact ⟨(false, bf, sn), ev_some (fun k => by simp [impl_Fleet.l0]), ev_some (fun k => by simp [spec_l16Match.l0]), hV, Nat.le_refl _⟩
  | succ C ihC =>
    intro D
    induction D with
    | zero =>
      intro a bf sn b hC hD hb ha hV
      have e : b = l.length := by omega
      subst e
      exact ⟨(false, bf, sn), ev_some (fun k => by simp [impl_Fleet.l0]), ev_some (fun k => by simp [spec_l16Match.l0]), hV, Nat.le_refl _⟩
    | succ D ihD =>
      intro a bf sn b hC hD hb ha hV
      by_cases c : b < l.length
      · have hsl := hV.sl
        have hbl := hV.bl
        cases hs : rdOf false sn (b : Int) with
        | true =>
          obtain ⟨r, r1, r2, r3, r4⟩ := ihD a bf sn (b + 1) hC (by omega) (by omega) ha hV
          refine ⟨r, ?_, ?_, r3, r4⟩
          · refine ev_at r1 (fun k => ?_)
            rw [impl_Fleet.l0, if_pos (by omega), if_pos hs]
            rfl
          · have hj : Ev (fun k => spec_l16Match.j1 k l turn (a : Int) bf sn (b : Int) true) r := ev_at r2 (fun k => by simp [spec_l16Match.j1, w64s c (show l.length ≤ 1000000000 by omega)])
            refine ev_at hj (fun k => ?_)
            simp only [spec_l16Match.l0, show (b : Int) < (l.length : Int) by omega, show (0 : Int) ≤ (b : Int) by omega, hsl, hs, if_true]
        | false =>
          have hsp := spec_follows (rd_T25 l (a : Int)) (rd_T25 l (b : Int)) turn
          have hfb : followsB (rd_T25 l (a : Int)) (rd_T25 l (b : Int)) turn = follB (rd_T25 l (a : Int)) (rd_T25 l (b : Int)) turn := by
            unfold followsB
            rw [htask _ (by omega) (by omega), htask _ (by omega) (by omega), inB_iff.2 htu]; rfl
          rw [hfb] at hsp
          have hf3 := f3_foll (rd_T25 l (b : Int)) (htask (a : Int) (by omega) (by omega)) htu
          have spec_go : ∀ (fl : Bool) (r : Bool × List Int × List Bool), follB (rd_T25 l (a : Int)) (rd_T25 l (b : Int)) turn = fl → Ev (fun k => spec_l16Match.j1 k l turn (a : Int) bf sn (b : Int) (!fl)) r → Ev (fun k => spec_l16Match.l0 k l turn (a : Int) bf sn (b : Int)) r := fun fl r hfl h => by
            refine ev_at h (fun k => ?_)
            rw [hfl] at hsp
            simp only [spec_l16Match.l0, show (b : Int) < (l.length : Int) by omega, show (0 : Int) ≤ (b : Int) by omega, hsl, hs, Bool.false_eq_true, if_true, if_false, show (0 : Int) ≤ (a : Int) by omega, show (a : Int) < (l.length : Int) by omega, hsp, Option.bind_some]
          cases hfl : follB (rd_T25 l (a : Int)) (rd_T25 l (b : Int)) turn with
          | false =>
            obtain ⟨r, r1, r2, r3, r4⟩ := ihD a bf sn (b + 1) hC (by omega) (by omega) ha hV
            refine ⟨r, ?_, spec_go false r hfl ?_, r3, r4⟩
            · refine ev_at r1 (fun k => ?_)
              rw [impl_Fleet.l0, if_pos (by omega), if_neg (by rw [hs]; simp), if_pos (by rw [hf3, hfl])]
              rfl
            · exact ev_at r2 (fun k => by simp [spec_l16Match.j1, w64s c (show l.length ≤ 1000000000 by omega)])
          | true =>
            have hls := left_set sn b (by omega) (by unfold rdOf at hs; rw [Int.toNat_natCast] at hs; exact hs)
            have hV2 := hV.sset b true
            have hlt := hV.lt b c
            have hrd : rd bf (b : Int) = bf.getD b 0 := by unfold rd; rw [Int.toNat_natCast]
            by_cases cv : rd bf (b : Int) < 0
            · refine ⟨(true, bf.set b (a : Int), sn.set b true), ?_, spec_go true _ hfl ?_, hV2.bset b _ (by omega), by show left (sn.set b true) ≤ left sn; omega⟩
              · refine ev_some (fun k => ?_)
                rw [impl_Fleet.l0, if_pos (by omega), if_neg (by rw [hs]; simp), if_neg (by rw [hf3, hfl]; simp), if_pos cv, Int.toNat_natCast]
              · refine ev_some (fun k => ?_)
                simp only [spec_l16Match.j1, Bool.not_true, Bool.false_eq_true, if_false, show (0 : Int) ≤ (b : Int) by omega, if_true, hsl, hbl, show (b : Int) < (l.length : Int) by omega, Option.bind_some, cv, Int.toNat_natCast]
            · obtain ⟨vn, hvn⟩ : ∃ vn : Nat, rd bf (b : Int) = (vn : Int) := ⟨(rd bf (b : Int)).toNat, by omega⟩
              obtain ⟨q, q1, q2, q3, q4⟩ := ihC l.length vn bf (sn.set b true) 0 (by omega) (by omega) (by omega) (by omega) hV2
              obtain ⟨g, bf2, sn2⟩ := q
              simp only at q3 q4
              have q5 : Ev (fun k => spec_l16Match.f k l turn (vn : Int) bf (sn.set b true)) (g, bf2, sn2) := ev_at q2 (fun k => by rw [spec_l16Match.f]; rfl)
              have hi : ∀ k, impl_Fleet.l0 l turn (k + 1) (a : Int) bf sn (b : Int) = (impl_Fleet.l0 l turn k (vn : Int) bf (sn.set b true) 0).bind fun r => if r.1 = true then some (true, r.2.1.set b (a : Int), r.2.2) else impl_Fleet.l0 l turn k (a : Int) r.2.1 r.2.2 ((b : Int) + 1) := fun k => by
                rw [impl_Fleet.l0, if_pos (by omega), if_neg (by rw [hs]; simp), if_neg (by rw [hf3, hfl]; simp), if_neg cv, hvn, Int.toNat_natCast]
              have hj : ∀ k, spec_l16Match.j1 (k + 1) l turn (a : Int) bf sn (b : Int) false = (spec_l16Match.f k l turn (vn : Int) bf (sn.set b true)).bind fun r => if r.1 = true then some (true, r.2.1.set b (a : Int), r.2.2) else spec_l16Match.l0 k l turn (a : Int) r.2.1 r.2.2 ((b + 1 : Nat) : Int) := fun k => by
                simp only [spec_l16Match.j1, Bool.false_eq_true, if_false, show (0 : Int) ≤ (b : Int) by omega, if_true, hsl, hbl, show (b : Int) < (l.length : Int) by omega, Option.bind_some, hvn, show ¬ ((vn : Int) < 0) by omega, Int.toNat_natCast, w64s c (show l.length ≤ 1000000000 by omega)]
              cases g with
              | true =>
                refine ⟨(true, bf2.set b (a : Int), sn2), ?_, spec_go true _ hfl ?_, q3.bset b _ (by omega), by show left sn2 ≤ left sn; omega⟩
                · refine ev_at (Ev.bind q1 (?_ : Ev _ (true, bf2.set b (a : Int), sn2))) hi
                  simpa using Ev.now _
                · refine ev_at (Ev.bind q5 (?_ : Ev _ (true, bf2.set b (a : Int), sn2))) hj
                  simpa using Ev.now _
              | false =>
                obtain ⟨r, r1, r2, r3, r4⟩ := ihC D a bf2 sn2 (b + 1) (by omega) (by omega) (by omega) ha q3
                refine ⟨r, ?_, spec_go true _ hfl ?_, r3, by omega⟩
                · refine ev_at (Ev.bind q1 (?_ : Ev _ r)) hi
                  simpa using r1
                · refine ev_at (Ev.bind q5 (?_ : Ev _ r)) hj
                  simpa using r2
      · have e : b = l.length := by omega
        subst e
        exact ⟨(false, bf, sn), ev_some (fun k => by simp [impl_Fleet.l0]), ev_some (fun k => by simp [spec_l16Match.l0]), hV, Nat.le_refl _⟩

theorem fleet_loop (l : List S25) (turn : Int) (hl : tasksB l = true) (htu : 0 ≤ turn ∧ turn ≤ 120) : ∀ a, a ≤ l.length → ∀ (bf : List Int) (u : Int), bf.length = l.length → (∀ j, j < l.length → bf.getD j 0 < l.length) → (l.length : Int) - a ≤ u → u ≤ l.length →
    ∃ v, Ev (fun k => impl_Fleet.l1 l turn k ((List.range l.length).drop a) bf u) v ∧ Ev (fun k => spec_Fleet.l1 k l turn bf u (a : Int)) v := by
  obtain ⟨h40, hta⟩ := tasksB_parts hl
  refine down l.length (fun bf u hb hlt h1 h2 => ?_) (fun a ha ih bf u hb hlt h1 h2 => ?_)
  · refine ⟨u, ?_, ev_some (fun k => by simp [spec_Fleet.l1])⟩
    rw [List.drop_of_length_le (by simp)]
    simpa [impl_Fleet.l1] using Ev.now u
  · have hd : (List.range l.length).drop a = a :: (List.range l.length).drop (a + 1) := by
      rw [List.drop_eq_getElem_cons (by simpa using ha), List.getElem_range]
    obtain ⟨r, r1, r2, r3, _⟩ := match_both l turn hl htu l.length l.length a bf (List.replicate l.length false) 0 (by unfold left; exact Nat.le_trans List.countP_le_length (by simp)) (by omega) (by omega) ha ⟨hb, by simp, hlt⟩
    obtain ⟨g, bf2, sn2⟩ := r
    have r2' : Ev (fun k => spec_l16Match.f k l turn (a : Int) bf (List.replicate l.length false)) (g, bf2, sn2) := ev_at r2 (fun k => by rw [spec_l16Match.f]; rfl)
    have hs : ∀ k, spec_Fleet.l1 (k + 1) l turn bf u (a : Int) = (spec_l16Match.f k l turn (a : Int) bf (List.replicate l.length false)).bind fun b => if b.1 = true then spec_Fleet.l1 k l turn b.2.1 (wrap64 (u - 1)) ((a + 1 : Nat) : Int) else spec_Fleet.l1 k l turn b.2.1 u ((a + 1 : Nat) : Int) := fun k => by
      simp only [spec_Fleet.l1, show (a : Int) < (l.length : Int) by omega, show (0 : Int) ≤ (l.length : Int) by omega, if_true, Int.toNat_natCast, show l.length ≤ 281474976710656 by omega, w64s ha (show l.length ≤ 1000000000 by omega)]
    rw [hd]
    cases g with
    | true =>
      obtain ⟨v, v1, v2⟩ := ih bf2 (u - 1) r3.bl r3.lt (by omega) (by omega)
      refine ⟨v, ?_, ?_⟩
      · refine Ev.bind r1 ?_
        simpa using v1
      · refine ev_at (Ev.bind r2' (?_ : Ev _ v)) hs
        simpa [w64 (x := u - 1) (by omega) (by omega)] using v2
    | false =>
      obtain ⟨v, v1, v2⟩ := ih bf2 u r3.bl r3.lt (by omega) (by omega)
      refine ⟨v, ?_, ?_⟩
      · refine Ev.bind r1 ?_
        simpa using v1
      · refine ev_at (Ev.bind r2' (?_ : Ev _ v)) hs
        simpa using v2
theorem turn_okF (turn : Int) : impl_turnOk.f turn = some (inB turn 0 120) := by unfold impl_turnOk.f; rw [between]; rfl
theorem fleet_both (l : List S25) (turn : Int) (h : l.length ≤ 1048576) : ∃ v, Ev (fun k => spec_Fleet.f k l turn) v ∧ Ev (fun k => impl_Fleet.f k l turn) v := by
  cases hb : (tasksB l && inB turn 0 120) with
  | false =>
    refine ⟨-1, ?_, ?_⟩
    · unfold spec_Fleet.f
      refine Ev.bind (spec_tasks l h) ?_
      cases hl : tasksB l with
      | false =>
        simp only [Bool.false_eq_true, if_false]
        exact ev_some (fun k => by simp [spec_Fleet.j0])
      | true =>
        have htb : inB turn 0 120 = false := by rw [hl] at hb; simpa using hb
        simp only [if_true, spec_l16Turn.f, l01In, htb, Option.bind_some, Bool.not_false]
        exact ev_some (fun k => by simp [spec_Fleet.j0])
    · unfold impl_Fleet.f
      refine Ev.bind (impl_tasks l h) ?_
      cases hl : tasksB l with
      | false => simpa using Ev.now (-1 : Int)
      | true =>
        have htb : inB turn 0 120 = false := by rw [hl] at hb; simpa using hb
        simpa [turn_okF, htb] using Ev.now (-1 : Int)
  | true =>
    rw [Bool.and_eq_true] at hb
    obtain ⟨hl, htb⟩ := hb
    obtain ⟨h40, hta⟩ := tasksB_parts hl
    obtain ⟨v, v1, v2⟩ := fleet_loop l turn hl (inB_iff.1 htb) 0 (by omega) (List.replicate l.length (-1)) (l.length : Int) (by simp) (fun j hj => by
      rw [List.getD_eq_getElem?_getD, List.getElem?_replicate, if_pos hj]
      show (-1 : Int) < _
      omega) (by omega) (by omega)
    refine ⟨v, ?_, ?_⟩
    · unfold spec_Fleet.f
      have ht := spec_tasks l h
      rw [hl] at ht
      refine Ev.bind ht ?_
      simp only [if_true, spec_l16Turn.f, l01In, htb, Option.bind_some, Bool.not_true]
      have mk : ∀ i, i ≤ l.length → Ev (fun k => spec_Fleet.l0 k l turn (List.replicate i (-1)) (i : Int)) v := by
        refine down l.length ?_ (fun i hi ih => ?_)
        · exact ev_at v2 (fun k => by simp [spec_Fleet.l0])
        · refine ev_at ih (fun k => ?_)
          have e : List.replicate i (-1 : Int) ++ [-1] = List.replicate (i + 1) (-1) := by rw [List.replicate_succ']
          simp [spec_Fleet.l0, hi, show i < 17592186044416 by omega, w64s hi (show l.length ≤ 1000000000 by omega), e]
      exact ev_at (mk 0 (by omega)) (fun k => by simp [spec_Fleet.j0])
    · unfold impl_Fleet.f
      have ht := impl_tasks l h
      rw [hl] at ht
      refine Ev.bind ht ?_
      simp only [if_true, turn_okF, htb, Option.bind_some]
      simpa using v1


/-- A sum over all, unit by unit. -/
theorem sum_units (f : Int → Int) (un : Int → Int) (U : Nat) : ∀ (od : List Int), (∀ t, t ∈ od → 0 ≤ un t ∧ un t < U) → sumL ((List.range U).map fun (u : Nat) => sumL ((od.filter (fun t => un t == (u : Int))).map f)) = sumL (od.map f)
  | [], _ => by
    induction U with
    | zero => rfl
    | succ n ih => 
      have z : ∀ m : Nat, sumL ((List.range m).map fun _ => (0 : Int)) = 0 := by
        intro m
        induction m with
        | zero => rfl
        | succ k ihk => rw [List.range_succ, List.map_append, sumL_append, ihk]; rfl
      simpa [sumL] using z (n + 1)
  | t :: od, h => by
    have ih := sum_units f un U od (fun x hx => h x (by simp [hx]))
    obtain ⟨h0, h1⟩ := h t (by simp)
    have e : ∀ u : Nat, sumL (((t :: od).filter (fun t => un t == (u : Int))).map f) = (if un t = (u : Int) then f t else 0) + sumL ((od.filter (fun t => un t == (u : Int))).map f) := by
      intro u
      rw [List.filter_cons]
      by_cases c : un t = (u : Int)
      · rw [if_pos (by rw [c]; exact beq_self_eq_true _), if_pos c]; rfl
      · rw [if_neg (by rw [beq_iff_eq]; exact c), if_neg c]; omega
    have e2 : ((List.range U).map fun (u : Nat) => sumL (((t :: od).filter (fun t => un t == (u : Int))).map f)) = (List.range U).map fun (u : Nat) => (if un t = (u : Int) then f t else 0) + sumL ((od.filter (fun t => un t == (u : Int))).map f) := List.map_congr_left (fun u _ => e u)
    rw [e2, sum_two, ih, List.map_cons, sumL, sum_one (un t) (f t) U h0 h1]
where
  sumL_append : ∀ (a b : List Int), sumL (a ++ b) = sumL a + sumL b
    | [], b => by simp [sumL]
    | x :: a, b => by rw [List.cons_append, sumL, sumL, sumL_append a b]; omega
  sum_two {g1 g2 : Nat → Int} : ∀ {U : Nat}, sumL ((List.range U).map fun u => g1 u + g2 u) = sumL ((List.range U).map g1) + sumL ((List.range U).map g2)
    | 0 => rfl
    | n + 1 => by
      rw [List.range_succ, List.map_append, List.map_append, List.map_append, sumL_append, sumL_append, sumL_append, sum_two (U := n)]
      simp only [List.map_cons, List.map_nil, sumL]
      omega
  sum_one (k v : Int) : ∀ (U : Nat), 0 ≤ k → k < U → sumL ((List.range U).map fun (u : Nat) => if k = (u : Int) then v else 0) = v
    | 0, h0, h1 => by omega
    | n + 1, h0, h1 => by
      rw [List.range_succ, List.map_append, sumL_append]
      simp only [List.map_cons, List.map_nil, sumL]
      by_cases c : k = (n : Int)
      · rw [if_pos c]
        have z : ∀ m : Nat, m ≤ n → sumL ((List.range m).map fun (u : Nat) => if k = (u : Int) then v else 0) = 0 := by
          intro m hm
          induction m with
          | zero => rfl
          | succ j ihj =>
            rw [List.range_succ, List.map_append, sumL_append, ihj (by omega)]
            simp only [List.map_cons, List.map_nil, sumL]
            rw [if_neg (by omega)]
            rfl
        rw [z n (by omega)]
        omega
      · rw [if_neg c, sum_one k v n h0 (by omega)]
        omega
theorem linked_mid (R : Int → Int → Prop) : ∀ (c : List Int) (t : Int) (r : List Int), linked R (c ++ t :: r) → c ≠ [] → R (lst c) t
  | [], t, r, _, h => absurd rfl h
  | [x], t, r, h, _ => h.1
  | x :: y :: c, t, r, h, _ => by
    have ih := linked_mid R (y :: c) t r h.2 (by simp)
    have e : lst (x :: y :: c) = lst (y :: c) := by
      unfold lst rd
      simp [List.getD_eq_getElem?_getD]
    rw [e]; exact ih
theorem chain_ok_true {l : List S25} {turn : Int} (hl : tasksB l = true) (htb : inB turn 0 120 = true) {out : List Int} (r1 : Rel l.length (impl_byDep.l0 l) (units l turn) out) (hU : (units l turn).length ≤ l.length) : chainB l turn out = true := by
  obtain ⟨h40, hta⟩ := tasksB_parts hl
  have htu := inB_iff.1 htb
  have hol := r1.ol
  have htask : ∀ x : Int, 0 ≤ x → x < l.length → taskB (rd_T25 l x) = true := fun x hx0 hx1 => hta _ (by unfold rd_T25; exact getD_mem _ _ _ (by omega))
  unfold chainB
  rw [hl, htb, decide_eq_true hol, ← okAll_value l turn out hl htb hol]
  have key : ∀ (rest ts : List Int), ts ++ rest = impl_byDep.l0 l → okAll l turn out ts rest = true := by
    intro rest
    induction rest with
    | nil => intro ts _; rw [okAll]
    | cons t rest ih =>
      intro ts h
      rw [okAll, ih (ts ++ [t]) (by rw [← h]; simp), Bool.and_true]
      have htm : t ∈ impl_byDep.l0 l := by rw [← h]; simp
      obtain ⟨i0, i1⟩ := r1.ins t htm
      obtain ⟨t0, t1⟩ := r1.mem t htm
      have hrd : rd out t = un out t := un_rd out t t0 (by omega)
      obtain ⟨u, hu⟩ : ∃ u : Nat, un out t = (u : Int) := ⟨(un out t).toNat, by omega⟩
      have hlast : lastOf out ts (rd out t) = (ts.filter (fun x => rd out x == rd out t)).foldl (fun _ x => x) (-1) := by
        unfold lastOf
        rw [List.foldl_filter]
        congr 1
        funext a x
        by_cases c : rd out x = rd out t
        · rw [if_pos c, if_pos (by rw [c]; exact beq_self_eq_true _)]
        · rw [if_neg c, if_neg (by rw [beq_iff_eq]; exact c)]
      have hfil : ∀ L : List Int, (∀ x, x ∈ L → x ∈ impl_byDep.l0 l) → L.filter (fun x => rd out x == rd out t) = L.filter (fun x => un out x == (u : Int)) := fun L hL => List.filter_congr (fun x hx => by
        have := r1.mem x (hL x hx)
        rw [hrd, hu, un_rd out x this.1 (by omega)])
      have hts : ∀ x, x ∈ ts → x ∈ impl_byDep.l0 l := fun x hx => by rw [← h]; simp [hx]
      obtain ⟨c, hc⟩ : ∃ c, c = ts.filter (fun x => un out x == (u : Int)) := ⟨_, rfl⟩
      rw [hfil ts hts, ← hc] at hlast
      have hin : inB (rd out t) 0 39 = true := inB_iff.2 ⟨by omega, by omega⟩
      unfold okStep
      rw [hin, Bool.true_and, hlast]
      by_cases ce : c = []
      · rw [ce]; rfl
      · rw [fold_last (fun x => x) c (-1) ce]
        have hcat : cat (units l turn) u = c ++ t :: rest.filter (fun x => un out x == (u : Int)) := by
          rw [r1.fil u (by omega), ← h, List.filter_append, List.filter_cons, if_pos (by rw [hu]; exact beq_self_eq_true _), ← hc]
        have hlk := units_chain l turn u (by omega)
        rw [hcat] at hlk
        have hR := linked_mid _ c t _ hlk ce
        have hlm := lst_mem c ce
        rw [hc] at hlm
        have hlo := hts _ (List.mem_filter.1 hlm).1
        rw [← hc] at hlo
        obtain ⟨q0, q1⟩ := r1.mem _ hlo
        unfold Follows' at hR
        rw [l3_foll _ (htask _ q0 q1) htu] at hR
        rw [hR, Bool.or_true]
  rw [key (impl_byDep.l0 l) [] (by simp)]
  rfl
theorem within_true (out : List Int) (u : Int) (h : out.length ≤ 1000000) (hm : u ∈ out) : Ev (fun k => laws_within.f k out u) true := by
  have key : Ev (fun k => laws_within.l0 k out u 0) (out.any fun x => decide (x = u)) := by
    refine ev_any out (fun x => decide (x = u)) (fun k i => laws_within.l0 k out u i) (fun k => by simp [laws_within.l0]) (fun k i hi hp => ?_) (fun k i hi hp => ?_)
    · have e : rd out (i : Int) = out[i] := by unfold rd; rw [Int.toNat_natCast, List.getD_eq_getElem?_getD, List.getElem?_eq_getElem hi]; rfl
      simp only [decide_eq_true_eq] at hp
      simp [laws_within.l0, hi, e, hp]
    · have e : rd out (i : Int) = out[i] := by unfold rd; rw [Int.toNat_natCast, List.getD_eq_getElem?_getD, List.getElem?_eq_getElem hi]; rfl
      simp only [decide_eq_false_iff_not] at hp
      simp [laws_within.l0, hi, e, hp, w64s hi (by omega)]
  have e : (out.any fun x => decide (x = u)) = true := List.any_eq_true.2 ⟨u, hm, decide_eq_true rfl⟩
  rw [e] at key
  simpa [laws_within.f] using key
theorem sum_value (xs : List Int) (h : xs.length ≤ 1000) (hx : ∀ x, x ∈ xs → 0 ≤ x ∧ x ≤ 1000000) : Ev (fun k => laws_sum.f k xs) (sumL xs) := by
  have key : ∀ i, i ≤ xs.length → ∀ s : Int, 0 ≤ s → s ≤ 1000000 * i → Ev (fun k => laws_sum.l0 k xs s (i : Int)) (s + sumL (xs.drop i)) := by
    refine down xs.length (fun s _ _ => ?_) (fun i hi ih s s0 s1 => ?_)
    · rw [List.drop_length, sumL, Int.add_zero]
      exact ev_some (fun k => by simp [laws_sum.l0])
    · obtain ⟨x, hxe⟩ : ∃ x, x = xs.getD i 0 := ⟨_, rfl⟩
      obtain ⟨x0, x1⟩ := hx x (by rw [hxe]; exact getD_mem _ _ _ hi)
      have hrd : rd xs (i : Int) = x := by unfold rd; rw [Int.toNat_natCast, hxe]
      rw [drop_getD 0 xs i hi, ← hxe, sumL, ← Int.add_assoc]
      refine ev_at (ih (s + x) (by omega) (by omega)) (fun k => ?_)
      simp only [laws_sum.l0, show (i : Int) < (xs.length : Int) by omega, show (0 : Int) ≤ (i : Int) by omega, if_true, hrd, w64 (x := s + x) (by omega) (by omega), w64s hi (show xs.length ≤ 1000000000 by omega)]
  have := key 0 (by omega) 0 (by omega) (by omega)
  simpa [laws_sum.f] using this
theorem sumL_bound (f : Int → Int) (B : Int) (hB : 0 ≤ B) : ∀ (c : List Int), (∀ x, x ∈ c → 0 ≤ f x ∧ f x ≤ B) → 0 ≤ sumL (c.map f) ∧ sumL (c.map f) ≤ B * c.length
  | [], _ => by simp [sumL]
  | x :: c, h => by
    have ih := sumL_bound f B hB c (fun y hy => h y (by simp [hy]))
    have := h x (by simp)
    simp only [List.map_cons, sumL, List.length_cons]
    have e : B * ((c.length + 1 : Nat) : Int) = B * c.length + B := by rw [Int.natCast_add, Int.mul_add]; simp
    rw [e]
    omega


def Ed (l : List S25) (turn : Int) (a b : Nat) : Prop := impl_Fleet.l3 turn (rd_T25 l (a : Int)) (rd_T25 l (b : Int)) = true
def bt (bf : List Int) (x : Nat) : Int := bf.getD x 0
def se (sn : List Bool) (x : Nat) : Prop := sn.getD x false = true
theorem se_set (sn : List Bool) (b x : Nat) (h : b < sn.length) : se (sn.set b true) x ↔ x = b ∨ se sn x := by
  unfold se
  rw [List.getD_eq_getElem?_getD, List.getElem?_set]
  by_cases e : b = x
  · rw [if_pos e, if_pos h]; simp [e]
  · rw [if_neg e, ← List.getD_eq_getElem?_getD]
    constructor
    · intro h; exact Or.inr h
    · rintro (h | h)
      · exact absurd h.symm e
      · exact h
theorem bt_set (bf : List Int) (b x : Nat) (v : Int) (h : b < bf.length) : bt (bf.set b v) x = if x = b then v else bt bf x := by
  unfold bt
  rw [List.getD_eq_getElem?_getD, List.getElem?_set]
  by_cases e : b = x
  · rw [if_pos e, if_pos h, if_pos e.symm]; rfl
  · rw [if_neg e, if_neg (fun h => e h.symm), ← List.getD_eq_getElem?_getD]
/-- One step of the search, as a rule. -/
theorem l0_step {l : List S25} {turn : Int} {k a : Nat} {bf : List Int} {sn : List Bool} {b : Nat} {r : Bool × List Int × List Bool} (h : impl_Fleet.l0 l turn (k + 1) (a : Int) bf sn (b : Int) = some r) :
    (¬ b < l.length ∧ r = (false, bf, sn)) ∨
    (b < l.length ∧ (se sn b ∨ ¬ Ed l turn a b) ∧ impl_Fleet.l0 l turn k (a : Int) bf sn ((b + 1 : Nat) : Int) = some r) ∨
    (b < l.length ∧ ¬ se sn b ∧ Ed l turn a b ∧ bt bf b < 0 ∧ r = (true, bf.set b (a : Int), sn.set b true)) ∨
    (b < l.length ∧ ¬ se sn b ∧ Ed l turn a b ∧ 0 ≤ bt bf b ∧ ∃ r1, impl_Fleet.l0 l turn k (((bt bf b).toNat : Nat) : Int) bf (sn.set b true) ((0 : Nat) : Int) = some r1 ∧
      ((r1.1 = true ∧ r = (true, r1.2.1.set b (a : Int), r1.2.2)) ∨ (r1.1 = false ∧ impl_Fleet.l0 l turn k (a : Int) r1.2.1 r1.2.2 ((b + 1 : Nat) : Int) = some r))) := by
  rw [impl_Fleet.l0] at h
  have e1 : ((b : Int) + 1) = ((b + 1 : Nat) : Int) := by omega
  have er : rdOf false sn (b : Int) = sn.getD b false := by unfold rdOf; rw [Int.toNat_natCast]
  have eb : rd bf (b : Int) = bt bf b := by unfold rd bt; rw [Int.toNat_natCast]
  rw [er, eb, e1, Int.toNat_natCast] at h
  by_cases c : b < l.length
  · rw [if_pos (by omega)] at h
    by_cases c1 : sn.getD b false = true
    · rw [if_pos c1] at h
      exact Or.inr (Or.inl ⟨c, Or.inl c1, h⟩)
    · rw [if_neg c1] at h
      by_cases c2 : impl_Fleet.l3 turn (rd_T25 l (a : Int)) (rd_T25 l (b : Int)) = false
      · rw [if_pos c2] at h
        exact Or.inr (Or.inl ⟨c, Or.inr (by unfold Ed; rw [c2]; simp), h⟩)
      · rw [if_neg c2] at h
        have hE : Ed l turn a b := by unfold Ed; simpa using c2
        by_cases c3 : bt bf b < 0
        · rw [if_pos c3] at h
          exact Or.inr (Or.inr (Or.inl ⟨c, c1, hE, c3, (Option.some.inj h).symm⟩))
        · rw [if_neg c3] at h
          obtain ⟨r1, h1, h2⟩ := Option.bind_eq_some_iff.1 h
          refine Or.inr (Or.inr (Or.inr ⟨c, c1, hE, by omega, r1, ?_, ?_⟩))
          · rw [Int.toNat_of_nonneg (by omega)]; exact h1
          · by_cases c4 : r1.1 = true
            · rw [if_pos c4] at h2
              exact Or.inl ⟨c4, (Option.some.inj h2).symm⟩
            · rw [if_neg c4] at h2
              exact Or.inr ⟨by simpa using c4, h2⟩
  · rw [if_neg (by omega)] at h
    exact Or.inl ⟨c, (Option.some.inj h).symm⟩
/-- A search that fails: nothing is moved, and all that could be asked was asked. -/
theorem search_fails (l : List S25) (turn : Int) : ∀ (k a : Nat) (bf : List Int) (sn : List Bool) (b : Nat) (bf' : List Int) (sn' : List Bool), bf.length = l.length → sn.length = l.length → (∀ x, x < l.length → bt bf x < l.length) → impl_Fleet.l0 l turn k (a : Int) bf sn (b : Int) = some (false, bf', sn') →
    bf' = bf ∧ sn'.length = l.length ∧ (∀ x, se sn x → se sn' x) ∧ (∀ y, b ≤ y → y < l.length → Ed l turn a y → se sn' y) ∧ (∀ y, y < l.length → se sn' y → ¬ se sn y → 0 ≤ bt bf y ∧ ∀ z, z < l.length → Ed l turn (bt bf y).toNat z → se sn' z)
  | 0, a, bf, sn, b, bf', sn', _, _, _, h => by simp [impl_Fleet.l0] at h
  | k + 1, a, bf, sn, b, bf', sn', hb, hs, hlt, h => by
    rcases l0_step h with ⟨c, e⟩ | ⟨c, hn, h2⟩ | ⟨_, _, _, _, e⟩ | ⟨c, hns, hE, h0, r1, h1, h2⟩
    · simp only [Prod.mk.injEq, true_and] at e
      obtain ⟨rfl, rfl⟩ := e
      exact ⟨rfl, hs, fun _ h => h, fun y h1 h2 _ => absurd h2 (by omega), fun y _ h1 h2 => absurd h1 h2⟩
    · obtain ⟨g1, g2, g3, g4, g5⟩ := search_fails l turn k a bf sn (b + 1) bf' sn' hb hs hlt h2
      refine ⟨g1, g2, g3, fun y hy1 hy2 hy3 => ?_, g5⟩
      by_cases e : y = b
      · rcases hn with hn | hn
        · exact g3 y (by rw [e]; exact hn)
        · exact absurd (by rw [← e]; exact hy3) hn
      · exact g4 y (by omega) hy2 hy3
    · simp at e
    · rcases h2 with ⟨_, e⟩ | ⟨c4, h2⟩
      · simp at e
      · obtain ⟨q, bf1, sn1⟩ := r1
        simp only at c4 h2
        subst c4
        obtain ⟨f1, f2, f3, f4, f5⟩ := search_fails l turn k (bt bf b).toNat bf (sn.set b true) 0 bf1 sn1 hb (by rw [List.length_set]; exact hs) hlt h1
        subst f1
        obtain ⟨g1, g2, g3, g4, g5⟩ := search_fails l turn k a bf1 sn1 (b + 1) bf' sn' hb f2 hlt h2
        have up : ∀ x, se sn x → se sn1 x := fun x hx => f3 x ((se_set sn b x (by omega)).2 (Or.inr hx))
        have hbs : se sn1 b := f3 b ((se_set sn b b (by omega)).2 (Or.inl rfl))
        refine ⟨g1, g2, fun x hx => g3 x (up x hx), fun y hy1 hy2 hy3 => ?_, fun y hy hy1 hy2 => ?_⟩
        · by_cases e : y = b
          · rw [e]; exact g3 b hbs
          · exact g4 y (by omega) hy2 hy3
        · by_cases e : se sn1 y
          · by_cases e2 : y = b
            · subst e2
              exact ⟨h0, fun z hz hez => g3 z (f4 z (by omega) hz hez)⟩
            · obtain ⟨p1, p2⟩ := f5 y hy e (fun h => by rcases (se_set sn b y (by omega)).1 h with h | h; (· exact e2 h); exact hy2 h)
              exact ⟨p1, fun z hz hez => g3 z (p2 z hz hez)⟩
          · exact g5 y hy hy1 e
/-- Within a closed set nothing is found. -/
theorem search_dead (l : List S25) (turn : Int) (D : Nat → Prop) (bf : List Int) (hbl : bf.length = l.length) (hlt : ∀ x, x < l.length → bt bf x < l.length) (hD : ∀ x, x < l.length → D x → 0 ≤ bt bf x ∧ ∀ z, z < l.length → Ed l turn (bt bf x).toNat z → D z) :
    ∀ (k a : Nat) (sn : List Bool) (b : Nat) (r : Bool × List Int × List Bool), sn.length = l.length → (∀ z, z < l.length → Ed l turn a z → D z) → impl_Fleet.l0 l turn k (a : Int) bf sn (b : Int) = some r → r.1 = false
  | 0, a, sn, b, r, _, _, h => by simp [impl_Fleet.l0] at h
  | k + 1, a, sn, b, r, hs, hN, h => by
    rcases l0_step h with ⟨c, e⟩ | ⟨c, hn, h2⟩ | ⟨c, _, hE, hneg, e⟩ | ⟨c, hns, hE, h0, r1, h1, h2⟩
    · rw [e]
    · exact search_dead l turn D bf hbl hlt hD k a sn (b + 1) r hs hN h2
    · have := (hD b c (hN b c hE)).1; omega
    · have hb := hD b c (hN b c hE)
      have hf := search_dead l turn D bf hbl hlt hD k (bt bf b).toNat (sn.set b true) 0 r1 (by rw [List.length_set]; exact hs) hb.2 h1
      rcases h2 with ⟨e, _⟩ | ⟨_, h2⟩
      · rw [hf] at e; simp at e
      · obtain ⟨q, bf1, sn1⟩ := r1
        simp only at hf h2
        subst hf
        obtain ⟨f1, f2, _⟩ := search_fails l turn k (bt bf b).toNat bf (sn.set b true) 0 bf1 sn1 hbl (by rw [List.length_set]; exact hs) hlt h1
        subst f1
        exact search_dead l turn D bf1 hbl hlt hD k a sn1 (b + 1) r f2 hN h2
/-- What a search that finds makes of the row. -/
structure Found (l : List S25) (turn : Int) (a : Nat) (bf : List Int) (sn : List Bool) (bf' : List Int) : Prop where
  len : bf'.length = l.length
  old : ∀ x, x < l.length → se sn x → bt bf' x = bt bf x
  pos : ∀ x, x < l.length → 0 ≤ bt bf x → 0 ≤ bt bf' x
  src : ∀ x, x < l.length → ¬ se sn x → 0 ≤ bt bf' x → bt bf' x = a ∨ ∃ y, y < l.length ∧ ¬ se sn y ∧ bt bf y = bt bf' x
  edge : ∀ x, x < l.length → 0 ≤ bt bf' x → bt bf' x = bt bf x ∨ Ed l turn (bt bf' x).toNat x
  inj : ∀ x y, x < l.length → y < l.length → ¬ se sn x → ¬ se sn y → 0 ≤ bt bf' x → bt bf' x = bt bf' y → x = y
  hasA : ∃ x, x < l.length ∧ ¬ se sn x ∧ bt bf' x = a
  kept : ∀ y, y < l.length → ¬ se sn y → 0 ≤ bt bf y → ∃ x, x < l.length ∧ ¬ se sn x ∧ bt bf' x = bt bf y
  cnt : bf'.countP (fun x => decide (0 ≤ x)) = bf.countP (fun x => decide (0 ≤ x)) + 1
theorem cnt_set : ∀ (bf : List Int) (b : Nat) (v : Int), b < bf.length → 0 ≤ v → (bf.set b v).countP (fun x => decide (0 ≤ x)) = bf.countP (fun x => decide (0 ≤ x)) + (if bt bf b < 0 then 1 else 0)
  | [], b, v, h, _ => absurd h (by simp)
  | x :: bf, 0, v, _, hv => by
    have e : bt (x :: bf) 0 = x := rfl
    rw [e, List.set_cons_zero, List.countP_cons, List.countP_cons]
    simp only [decide_eq_true_eq]
    by_cases c : x < 0
    · rw [if_pos hv, if_neg (by omega), if_pos c]
    · rw [if_pos hv, if_pos (by omega), if_neg c]
  | x :: bf, b + 1, v, h, hv => by
    have e : bt (x :: bf) (b + 1) = bt bf b := by unfold bt; simp
    rw [e, List.set_cons_succ, List.countP_cons, List.countP_cons, cnt_set bf b v (by simpa using h) hv]
    omega
theorem search_finds (l : List S25) (turn : Int) : ∀ (k a : Nat) (bf : List Int) (sn : List Bool) (b : Nat) (bf' : List Int) (sn' : List Bool), bf.length = l.length → sn.length = l.length → (∀ x, x < l.length → bt bf x < l.length) → (∀ x y, x < l.length → y < l.length → 0 ≤ bt bf x → bt bf x = bt bf y → x = y) → (∀ x, x < l.length → ¬ se sn x → bt bf x ≠ a) → impl_Fleet.l0 l turn k (a : Int) bf sn (b : Int) = some (true, bf', sn') → Found l turn a bf sn bf'
  | 0, a, bf, sn, b, bf', sn', _, _, _, _, _, h => by simp [impl_Fleet.l0] at h
  | k + 1, a, bf, sn, b, bf', sn', hb, hs, hlt, hinj, ha, h => by
    rcases l0_step h with ⟨c, e⟩ | ⟨c, hn, h2⟩ | ⟨c, hns, hE, hneg, e⟩ | ⟨c, hns, hE, h0, r1, h1, h2⟩
    · simp at e
    · exact search_finds l turn k a bf sn (b + 1) bf' sn' hb hs hlt hinj ha h2
    · simp only [Prod.mk.injEq, true_and] at e
      obtain ⟨rfl, rfl⟩ := e
      have hbs := fun x => bt_set bf b x (a : Int) (by omega)
      refine ⟨by rw [List.length_set]; exact hb, fun x hx hsx => ?_, fun x hx hp => ?_, fun x hx hsx hp => ?_, fun x hx hp => ?_, fun x y hx hy hsx hsy hp he => ?_, ⟨b, c, hns, by rw [hbs, if_pos rfl]⟩, fun y hy hsy hp => ?_, ?_⟩
      · rw [hbs, if_neg (fun e => hns (by rw [← e]; exact hsx))]
      · rw [hbs]; by_cases e : x = b
        · rw [if_pos e]; omega
        · rw [if_neg e]; exact hp
      · rw [hbs] at hp ⊢
        by_cases e : x = b
        · rw [if_pos e]; exact Or.inl rfl
        · rw [if_neg e]; exact Or.inr ⟨x, hx, hsx, rfl⟩
      · rw [hbs]; by_cases e : x = b
        · rw [if_pos e, Int.toNat_natCast, e]; exact Or.inr hE
        · rw [if_neg e]; exact Or.inl rfl
      · rw [hbs] at hp he
        rw [hbs] at he
        by_cases ex : x = b
        · by_cases ey : y = b
          · omega
          · rw [if_pos ex, if_neg ey] at he
            exact absurd he.symm (ha y hy hsy)
        · rw [if_neg ex] at he hp
          by_cases ey : y = b
          · rw [if_pos ey] at he
            exact absurd he (ha x hx hsx)
          · rw [if_neg ey] at he
            exact hinj x y hx hy hp he
      · refine ⟨y, hy, hsy, ?_⟩
        rw [hbs, if_neg (fun e => by rw [e] at hp; omega)]
      · rw [cnt_set bf b (a : Int) (by omega) (by omega), if_pos hneg]
    · have hss := fun x => se_set sn b x (by omega)
      have hv : (((bt bf b).toNat : Nat) : Int) = bt bf b := Int.toNat_of_nonneg h0
      rcases h2 with ⟨c4, e⟩ | ⟨c4, h2⟩
      · obtain ⟨q, bf1, sn1⟩ := r1
        simp only at c4 e
        subst c4
        simp only [Prod.mk.injEq, true_and] at e
        obtain ⟨rfl, rfl⟩ := e
        have F := search_finds l turn k (bt bf b).toNat bf (sn.set b true) 0 bf1 sn' hb (by rw [List.length_set]; exact hs) hlt hinj (fun x hx hsx e => by
          rw [hv] at e
          have : x = b := hinj x b hx c (by omega) e
          exact hsx ((hss x).2 (Or.inl this))) h1
        have hl1 := F.len
        have hbs := fun x => bt_set bf1 b x (a : Int) (by omega)
        have hb1 : bt bf1 b = bt bf b := F.old b c ((hss b).2 (Or.inl rfl))
        have hav : (a : Int) ≠ bt bf b := fun e => ha b c hns e.symm
        have nin : ∀ x, ¬ se sn x → x ≠ b → ¬ se (sn.set b true) x := fun x h1 h2 h3 => by
          rcases (hss x).1 h3 with h | h
          · exact h2 h
          · exact h1 h
        have nout : ∀ x, ¬ se (sn.set b true) x → ¬ se sn x ∧ x ≠ b := fun x h => ⟨fun h2 => h ((hss x).2 (Or.inr h2)), fun h2 => h ((hss x).2 (Or.inl h2))⟩
        refine ⟨by rw [List.length_set]; exact F.len, fun x hx hsx => ?_, fun x hx hp => ?_, fun x hx hsx hp => ?_, fun x hx hp => ?_, fun x y hx hy hsx hsy hp he => ?_, ⟨b, c, hns, by rw [hbs, if_pos rfl]⟩, fun y hy hsy hp => ?_, ?_⟩
        · rw [hbs, if_neg (fun e => hns (by rw [← e]; exact hsx))]
          exact F.old x hx ((hss x).2 (Or.inr hsx))
        · rw [hbs]; by_cases e : x = b
          · rw [if_pos e]; omega
          · rw [if_neg e]; exact F.pos x hx hp
        · rw [hbs] at hp ⊢
          by_cases e : x = b
          · rw [if_pos e]; exact Or.inl rfl
          · rw [if_neg e] at hp ⊢
            rcases F.src x hx (nin x hsx e) hp with h | ⟨y, y1, y2, y3⟩
            · exact Or.inr ⟨b, c, hns, by rw [h, hv]⟩
            · exact Or.inr ⟨y, y1, (nout y y2).1, y3⟩
        · rw [hbs] at hp ⊢
          by_cases e : x = b
          · rw [if_pos e, Int.toNat_natCast, e]; exact Or.inr hE
          · rw [if_neg e] at hp ⊢; exact F.edge x hx hp
        · -- entries of the unseen places are different ones
          have key : ∀ x, x < l.length → ¬ se sn x → x ≠ b → 0 ≤ bt bf1 x → bt bf1 x ≠ (a : Int) := fun x hx hsx hxb hp e => by
            rcases F.src x hx (nin x hsx hxb) hp with h | ⟨y, y1, y2, y3⟩
            · rw [e, hv] at h; exact hav h
            · exact ha y y1 (nout y y2).1 (by rw [y3, e])
          rw [hbs] at hp he
          rw [hbs] at he
          by_cases ex : x = b
          · by_cases ey : y = b
            · omega
            · rw [if_pos ex, if_neg ey] at he
              exact absurd he.symm (key y hy hsy ey (by omega))
          · rw [if_neg ex] at he hp
            by_cases ey : y = b
            · rw [if_pos ey] at he
              exact absurd he (key x hx hsx ex hp)
            · rw [if_neg ey] at he
              exact F.inj x y hx hy (nin x hsx ex) (nin y hsy ey) hp he
        · by_cases e : y = b
          · obtain ⟨x, x1, x2, x3⟩ := F.hasA
            refine ⟨x, x1, (nout x x2).1, ?_⟩
            rw [hbs, if_neg (nout x x2).2, x3, hv, e]
          · obtain ⟨x, x1, x2, x3⟩ := F.kept y hy (nin y hsy e) hp
            refine ⟨x, x1, (nout x x2).1, ?_⟩
            rw [hbs, if_neg (nout x x2).2, x3]
        · rw [cnt_set bf1 b (a : Int) (by omega) (by omega), if_neg (by omega), F.cnt]
      · obtain ⟨q, bf1, sn1⟩ := r1
        simp only at c4 h2
        subst c4
        obtain ⟨f1, f2, f3, f4, f5⟩ := search_fails l turn k (bt bf b).toNat bf (sn.set b true) 0 bf1 sn1 hb (by rw [List.length_set]; exact hs) hlt h1
        subst f1
        have up : ∀ x, se sn x → se sn1 x := fun x hx => f3 x ((hss x).2 (Or.inr hx))
        have F := search_finds l turn k a bf1 sn1 (b + 1) bf' sn' hb f2 hlt hinj (fun x hx hsx => ha x hx (fun h => hsx (up x h))) h2
        have keep : ∀ x, x < l.length → se sn1 x → bt bf' x = bt bf1 x := F.old
        refine ⟨F.len, fun x hx hsx => F.old x hx (up x hsx), F.pos, fun x hx hsx hp => ?_, F.edge, fun x y hx hy hsx hsy hp he => ?_, ?_, fun y hy hsy hp => ?_, F.cnt⟩
        · by_cases e : se sn1 x
          · exact Or.inr ⟨x, hx, hsx, (keep x hx e).symm⟩
          · rcases F.src x hx e hp with h | ⟨y, y1, y2, y3⟩
            · exact Or.inl h
            · exact Or.inr ⟨y, y1, fun h => y2 (up y h), y3⟩
        · by_cases ex : se sn1 x
          · by_cases ey : se sn1 y
            · rw [keep x hx ex] at hp he
              rw [keep y hy ey] at he
              exact hinj x y hx hy hp he
            · rw [keep x hx ex] at hp he
              rcases F.src y hy ey (by omega) with h | ⟨z, z1, z2, z3⟩
              · exact absurd (he.trans h) (ha x hx hsx)
              · have := hinj x z hx z1 hp (by rw [he, z3])
                exact absurd (by rw [← this]; exact ex) z2
          · by_cases ey : se sn1 y
            · rw [keep y hy ey] at he
              rcases F.src x hx ex hp with h | ⟨z, z1, z2, z3⟩
              · exact absurd (he.symm.trans h) (ha y hy hsy)
              · have := hinj z y z1 hy (by omega) (by rw [z3, he])
                exact absurd (by rw [this]; exact ey) z2
            · exact F.inj x y hx hy ex ey hp he
        · obtain ⟨x, x1, x2, x3⟩ := F.hasA
          exact ⟨x, x1, fun h => x2 (up x h), x3⟩
        · by_cases e : se sn1 y
          · exact ⟨y, hy, hsy, keep y hy e⟩
          · obtain ⟨x, x1, x2, x3⟩ := F.kept y hy e hp
            exact ⟨x, x1, fun h => x2 (up x h), x3⟩


theorem nodup_sub_len {α : Type} [DecidableEq α] : ∀ (l c : List α), l.Nodup → (∀ x, x ∈ l → x ∈ c) → l.length ≤ c.length
  | [], c, _, _ => by simp
  | x :: l, c, h, hs => by
    rw [List.nodup_cons] at h
    have hx : x ∈ c := hs x (by simp)
    have h1 : l.length ≤ (c.erase x).length := nodup_sub_len l (c.erase x) h.2 (fun y hy => by
      have hne : y ≠ x := fun e => h.1 (e ▸ hy)
      exact (List.mem_erase_of_ne hne).2 (hs y (by simp [hy])))
    have h2 := List.length_erase_of_mem hx
    have h3 := List.length_pos_of_mem hx
    simp only [List.length_cons]
    omega

structure IsM (E : Nat → Nat → Prop) (M : List (Nat × Nat)) : Prop where
  fst : (M.map Prod.fst).Nodup
  snd : (M.map Prod.snd).Nodup
  edge : ∀ p, p ∈ M → E p.1 p.2

theorem cover_bound {E : Nat → Nat → Prop} {M : List (Nat × Nat)} (h : IsM E M) (C1 C2 : List Nat)
    (hc : ∀ a b, E a b → a ∈ C1 ∨ b ∈ C2) : M.length ≤ C1.length + C2.length := by
  have key : ∀ (M : List (Nat × Nat)), (M.map Prod.fst).Nodup → (M.map Prod.snd).Nodup → (∀ p, p ∈ M → p.1 ∈ C1 ∨ p.2 ∈ C2) →
      M.length ≤ C1.length + C2.length := by
    intro M h1 h2 h3
    have hp : M.length = (M.filter (fun p => decide (p.1 ∈ C1))).length + (M.filter (fun p => !decide (p.1 ∈ C1))).length := by
      clear h1 h2 h3
      induction M with
      | nil => rfl
      | cons p M ih =>
        by_cases hp : p.1 ∈ C1
        · simp only [List.filter_cons, hp, decide_true, if_true, Bool.not_true, List.length_cons]
          simp only [Bool.false_eq_true, if_false]
          omega
        · simp only [List.filter_cons, hp, decide_false, Bool.not_false, if_true, List.length_cons]
          simp only [Bool.false_eq_true, if_false]
          omega
    have a1 : ((M.filter (fun p => decide (p.1 ∈ C1))).map Prod.fst).length ≤ C1.length := by
      refine nodup_sub_len _ _ ((List.filter_sublist.map _).nodup h1) ?_
      intro x hx
      simp only [List.mem_map, List.mem_filter, decide_eq_true_eq] at hx
      obtain ⟨p, ⟨_, hp⟩, rfl⟩ := hx
      exact hp
    have a2 : ((M.filter (fun p => !decide (p.1 ∈ C1))).map Prod.snd).length ≤ C2.length := by
      refine nodup_sub_len _ _ ((List.filter_sublist.map _).nodup h2) ?_
      intro x hx
      simp only [List.mem_map, List.mem_filter, Bool.not_eq_true', decide_eq_false_iff_not] at hx
      obtain ⟨p, ⟨hm, hp⟩, rfl⟩ := hx
      rcases h3 p hm with h | h
      · exact absurd h hp
      · exact h
    rw [List.length_map] at a1 a2
    omega
  exact key M h.fst h.snd (fun p hp => hc _ _ (h.edge p hp))


/-- A search that finds moves nothing within a closed set. -/
theorem search_keeps (l : List S25) (turn : Int) (D : Nat → Prop) (bf : List Int) (hbl : bf.length = l.length) (hlt : ∀ x, x < l.length → bt bf x < l.length) (hD : ∀ x, x < l.length → D x → 0 ≤ bt bf x ∧ ∀ z, z < l.length → Ed l turn (bt bf x).toNat z → D z) :
    ∀ (k a : Nat) (sn : List Bool) (b : Nat) (bf' : List Int) (sn' : List Bool), sn.length = l.length → impl_Fleet.l0 l turn k (a : Int) bf sn (b : Int) = some (true, bf', sn') → bf'.length = l.length ∧ ∀ x, x < l.length → D x → bt bf' x = bt bf x
  | 0, a, sn, b, bf', sn', _, h => by simp [impl_Fleet.l0] at h
  | k + 1, a, sn, b, bf', sn', hs, h => by
    rcases l0_step h with ⟨c, e⟩ | ⟨c, hn, h2⟩ | ⟨c, _, hE, hneg, e⟩ | ⟨c, hns, hE, h0, r1, h1, h2⟩
    · simp at e
    · exact search_keeps l turn D bf hbl hlt hD k a sn (b + 1) bf' sn' hs h2
    · simp only [Prod.mk.injEq, true_and] at e
      obtain ⟨rfl, rfl⟩ := e
      refine ⟨by rw [List.length_set]; exact hbl, fun x hx hDx => ?_⟩
      rw [bt_set bf b x _ (by omega), if_neg (fun e => by have := (hD x hx hDx).1; rw [e] at this; omega)]
    · rcases h2 with ⟨c4, e⟩ | ⟨c4, h2⟩
      · obtain ⟨q, bf1, sn1⟩ := r1
        simp only at c4 e
        subst c4
        simp only [Prod.mk.injEq, true_and] at e
        obtain ⟨rfl, rfl⟩ := e
        obtain ⟨g1, g2⟩ := search_keeps l turn D bf hbl hlt hD k (bt bf b).toNat (sn.set b true) 0 bf1 sn' (by rw [List.length_set]; exact hs) h1
        refine ⟨by rw [List.length_set]; exact g1, fun x hx hDx => ?_⟩
        rw [bt_set bf1 b x _ (by omega)]
        by_cases e : x = b
        · subst e
          have := search_dead l turn D bf hbl hlt hD k (bt bf x).toNat (sn.set x true) 0 _ (by rw [List.length_set]; exact hs) (hD x hx hDx).2 h1
          simp at this
        · rw [if_neg e]; exact g2 x hx hDx
      · obtain ⟨q, bf1, sn1⟩ := r1
        simp only at c4 h2
        subst c4
        obtain ⟨f1, f2, _⟩ := search_fails l turn k (bt bf b).toNat bf (sn.set b true) 0 bf1 sn1 hbl (by rw [List.length_set]; exact hs) hlt h1
        subst f1
        exact search_keeps l turn D bf1 hbl hlt hD k a sn1 (b + 1) bf' sn' f2 h2
/-- Fleet so far. -/
structure Fi (l : List S25) (turn : Int) (a : Nat) (bf : List Int) (u : Int) (D : Nat → Prop) : Prop where
  bl : bf.length = l.length
  lt : ∀ x, x < l.length → bt bf x < a
  inj : ∀ x y, x < l.length → y < l.length → 0 ≤ bt bf x → bt bf x = bt bf y → x = y
  edge : ∀ x, x < l.length → 0 ≤ bt bf x → Ed l turn (bt bf x).toNat x
  cnt : (bf.countP (fun x => decide (0 ≤ x)) : Int) = (l.length : Int) - u
  dead : ∀ x, x < l.length → D x → 0 ≤ bt bf x ∧ ∀ z, z < l.length → Ed l turn (bt bf x).toNat z → D z
  done : ∀ y, y < a → (∃ x, x < l.length ∧ bt bf x = y) ∨ (∀ z, z < l.length → Ed l turn y z → D z)
theorem se_none (n x : Nat) : ¬ se (List.replicate n false) x := by
  unfold se
  rw [List.getD_eq_getElem?_getD, List.getElem?_replicate]
  split <;> simp
theorem Fi.step {l : List S25} {turn : Int} {a : Nat} {bf : List Int} {u : Int} {D : Nat → Prop} (h : Fi l turn a bf u D) (ha : a < l.length) {k : Nat} {q : Bool} {bf' : List Int} {sn' : List Bool} (hr : impl_Fleet.l0 l turn k (a : Int) bf (List.replicate l.length false) 0 = some (q, bf', sn')) :
    ∃ D', Fi l turn (a + 1) bf' (if q = true then u - 1 else u) D' := by
  have hlt : ∀ x, x < l.length → bt bf x < l.length := fun x hx => by have := h.lt x hx; omega
  have hs : (List.replicate l.length false).length = l.length := by simp
  cases q with
  | false =>
    obtain ⟨f1, f2, f3, f4, f5⟩ := search_fails l turn k a bf (List.replicate l.length false) 0 bf' sn' h.bl hs hlt hr
    subst f1
    refine ⟨fun x => D x ∨ se sn' x, h.bl, fun x hx => by have := h.lt x hx; omega, h.inj, h.edge, by simpa using h.cnt, fun x hx hd => ?_, fun y hy => ?_⟩
    · rcases hd with hd | hd
      · exact ⟨(h.dead x hx hd).1, fun z hz hez => Or.inl ((h.dead x hx hd).2 z hz hez)⟩
      · have := f5 x hx hd (se_none _ _)
        exact ⟨this.1, fun z hz hez => Or.inr (this.2 z hz hez)⟩
    · by_cases e : y = a
      · rw [e]; exact Or.inr (fun z hz hez => Or.inr (f4 z (by omega) hz hez))
      · rcases h.done y (by omega) with h1 | h1
        · exact Or.inl h1
        · exact Or.inr (fun z hz hez => Or.inl (h1 z hz hez))
  | true =>
    have F := search_finds l turn k a bf (List.replicate l.length false) 0 bf' sn' h.bl hs hlt h.inj (fun x hx _ e => by have := h.lt x hx; omega) hr
    obtain ⟨_, K⟩ := search_keeps l turn D bf h.bl hlt h.dead k a (List.replicate l.length false) 0 bf' sn' hs hr
    refine ⟨D, F.len, fun x hx => ?_, fun x y hx hy hp he => F.inj x y hx hy (se_none _ _) (se_none _ _) hp he, fun x hx hp => ?_, ?_, fun x hx hd => ?_, fun y hy => ?_⟩
    · by_cases c : 0 ≤ bt bf' x
      · rcases F.src x hx (se_none _ _) c with e | ⟨y, y1, _, y3⟩
        · omega
        · have := h.lt y y1; omega
      · omega
    · rcases F.edge x hx hp with e | e
      · rw [e]; exact h.edge x hx (by omega)
      · exact e
    · have := F.cnt
      have h2 := h.cnt
      rw [if_pos rfl]
      omega
    · rw [K x hx hd]; exact h.dead x hx hd
    · by_cases e : y = a
      · obtain ⟨x, x1, _, x3⟩ := F.hasA
        exact Or.inl ⟨x, x1, by rw [x3, e]⟩
      · rcases h.done y (by omega) with ⟨x, x1, x2⟩ | h1
        · obtain ⟨z, z1, _, z3⟩ := F.kept x x1 (se_none _ _) (by omega)
          exact Or.inl ⟨z, z1, by rw [z3, x2]⟩
        · exact Or.inr h1
theorem Fi.all {l : List S25} {turn : Int} {k : Nat} {v : Int} : ∀ (m a : Nat) (bf : List Int) (u : Int) (D : Nat → Prop), a + m = l.length → Fi l turn a bf u D → impl_Fleet.l1 l turn k ((List.range l.length).drop a) bf u = some v → ∃ bf' D', Fi l turn l.length bf' v D'
  | 0, a, bf, u, D, hm, h, hr => by
    rw [List.drop_of_length_le (by simp; omega), impl_Fleet.l1] at hr
    have e : a = l.length := by omega
    subst e
    obtain rfl := Option.some.inj hr
    exact ⟨bf, D, h⟩
  | m + 1, a, bf, u, D, hm, h, hr => by
    have ha : a < l.length := by omega
    have hd : (List.range l.length).drop a = a :: (List.range l.length).drop (a + 1) := by
      rw [List.drop_eq_getElem_cons (by simpa using ha), List.getElem_range]
    rw [hd, impl_Fleet.l1] at hr
    obtain ⟨r, h1, h2⟩ := Option.bind_eq_some_iff.1 hr
    obtain ⟨q, bf', sn'⟩ := r
    obtain ⟨D', hD'⟩ := h.step ha h1
    exact Fi.all m (a + 1) bf' _ D' (by omega) hD' h2
/-- The edges among the tasks. -/
def En (l : List S25) (turn : Int) (a b : Nat) : Prop := a < l.length ∧ b < l.length ∧ Ed l turn a b
theorem cnt_range (bf : List Int) (p : Int → Bool) : (List.range bf.length).countP (fun x => p (bt bf x)) = bf.countP p := by
  have e : bf = (List.range bf.length).map (fun x => bt bf x) := by
    apply List.ext_getElem
    · simp
    · intro i h1 h2
      rw [List.getElem_map, List.getElem_range]
      unfold bt
      rw [List.getD_eq_getElem?_getD, List.getElem?_eq_getElem h1]; rfl
  conv => rhs; rw [e]
  rw [List.countP_map]
  rfl
theorem part_len (d p : Nat → Bool) : ∀ (R : List Nat), (∀ x, x ∈ R → d x = true → p x = true) → (R.filter d).length + (R.filter (fun x => !d x && p x)).length ≤ (R.filter p).length
  | [], _ => by simp
  | x :: R, h => by
    have ih := part_len d p R (fun y hy => h y (by simp [hy]))
    rw [List.filter_cons, List.filter_cons, List.filter_cons]
    cases hd : d x with
    | true =>
      have hp := h x (by simp) hd
      simp only [hp, Bool.not_true, Bool.false_and, if_true, Bool.false_eq_true, if_false, List.length_cons]
      omega
    | false =>
      cases hp : p x with
      | true =>
        simp only [Bool.not_false, Bool.true_and, if_true, Bool.false_eq_true, if_false, List.length_cons]
        omega
      | false =>
        simp only [Bool.not_false, Bool.true_and, Bool.false_eq_true, if_false]
        omega
open Classical in
theorem Fi.max {l : List S25} {turn : Int} {bf : List Int} {v : Int} {D : Nat → Prop} (h : Fi l turn l.length bf v D) : (∃ M, IsM (En l turn) M ∧ (M.length : Int) = l.length - v) ∧ ∀ M, IsM (En l turn) M → (M.length : Int) ≤ l.length - v := by
  have hX : ((List.range l.length).filter (fun x => decide (0 ≤ bt bf x))).length = bf.countP (fun x => decide (0 ≤ x)) := by
    have := cnt_range bf (fun x => decide (0 ≤ x))
    rw [h.bl] at this
    rw [← this, List.countP_eq_length_filter]
  have hc := h.cnt
  refine ⟨⟨((List.range l.length).filter (fun x => decide (0 ≤ bt bf x))).map (fun x => ((bt bf x).toNat, x)), ⟨?_, ?_, ?_⟩, by rw [List.length_map, hX]; exact hc⟩, fun M hM => ?_⟩
  · rw [List.map_map]
    refine List.Pairwise.map _ (R := fun x y => (x < l.length ∧ 0 ≤ bt bf x) ∧ (y < l.length ∧ 0 ≤ bt bf y) ∧ x ≠ y) ?_ ?_
    · rintro x y ⟨⟨x1, x2⟩, ⟨y1, y2⟩, hne⟩ e
      simp only [Function.comp] at e
      exact hne (h.inj x y x1 y1 x2 (by omega))
    · refine List.Pairwise.imp_of_mem ?_ ((List.filter_sublist).nodup (List.nodup_range (n := l.length)))
      intro x y hx hy hne
      rw [List.mem_filter, List.mem_range, decide_eq_true_eq] at hx hy
      exact ⟨hx, hy, hne⟩
  · rw [List.map_map]
    have : (Prod.snd ∘ fun x => ((bt bf x).toNat, x)) = (id : Nat → Nat) := rfl
    rw [this, List.map_id]
    exact (List.filter_sublist).nodup (List.nodup_range (n := l.length))
  · intro p hp
    obtain ⟨x, hx, rfl⟩ := List.mem_map.1 hp
    rw [List.mem_filter, List.mem_range, decide_eq_true_eq] at hx
    have := h.lt x hx.1
    exact ⟨by show (bt bf x).toNat < l.length; omega, hx.1, h.edge x hx.1 hx.2⟩
  · obtain ⟨d, hd⟩ : ∃ d : Nat → Bool, ∀ x, d x = true ↔ D x := ⟨fun x => decide (D x), fun x => decide_eq_true_iff⟩
    have hcv := cover_bound hM (((List.range l.length).filter (fun x => !d x && decide (0 ≤ bt bf x))).map (fun x => (bt bf x).toNat)) ((List.range l.length).filter d) (fun a b hab => by
      obtain ⟨ha, hb, hE⟩ := hab
      rcases h.done a ha with ⟨x, x1, x2⟩ | h1
      · by_cases hdx : D x
        · refine Or.inr (List.mem_filter.2 ⟨List.mem_range.2 hb, (hd b).2 ?_⟩)
          exact (h.dead x x1 hdx).2 b hb (by rw [x2, Int.toNat_natCast]; exact hE)
        · refine Or.inl (List.mem_map.2 ⟨x, List.mem_filter.2 ⟨List.mem_range.2 x1, ?_⟩, by rw [x2, Int.toNat_natCast]⟩)
          have e : d x = false := by
            cases hh : d x with
            | true => exact absurd ((hd x).1 hh) hdx
            | false => rfl
          rw [e, decide_eq_true (show 0 ≤ bt bf x by omega)]; rfl
      · exact Or.inr (List.mem_filter.2 ⟨List.mem_range.2 hb, (hd b).2 (h1 b hb hE)⟩))
    have hp := part_len d (fun x => decide (0 ≤ bt bf x)) (List.range l.length) (fun x hx hdx => decide_eq_true (h.dead x (List.mem_range.1 hx) ((hd x).1 hdx)).1)
    rw [List.length_map] at hcv
    omega
/-- The number of units of right tasks. -/
theorem fleet_max (l : List S25) (turn v : Int) (hl : tasksB l = true) (htb : inB turn 0 120 = true) (h : Ev (fun k => impl_Fleet.f k l turn) v) : (∃ M, IsM (En l turn) M ∧ (M.length : Int) = l.length - v) ∧ ∀ M, IsM (En l turn) M → (M.length : Int) ≤ l.length - v := by
  obtain ⟨h40, hta⟩ := tasksB_parts hl
  have e2 := impl_tasks l (by omega)
  rw [hl] at e2
  obtain ⟨K1, g1⟩ := h
  obtain ⟨K2, g2⟩ := e2
  obtain ⟨k, hk1⟩ : ∃ k, k = max K1 K2 := ⟨_, rfl⟩
  have hk := g1 k (by omega)
  have ht := g2 k (by omega)
  unfold impl_Fleet.f at hk
  simp only at hk ht
  rw [ht, Option.bind_some] at hk
  rw [if_pos rfl, turn_okF, htb, Option.bind_some, if_pos rfl] at hk
  have h0 : Fi l turn 0 (List.replicate l.length (-1)) (l.length : Int) (fun _ => False) := by
    have hb : ∀ x, x < l.length → bt (List.replicate l.length (-1)) x = -1 := fun x hx => by
      unfold bt; rw [List.getD_eq_getElem?_getD, List.getElem?_replicate, if_pos hx]; rfl
    refine ⟨by simp, fun x hx => by rw [hb x hx]; omega, fun x y hx _ hp _ => by rw [hb x hx] at hp; omega, fun x hx hp => by rw [hb x hx] at hp; omega, ?_, fun x _ hd => hd.elim, fun y hy => by omega⟩
    rw [List.countP_eq_zero.2 (fun x hx => by rw [List.eq_of_mem_replicate hx]; decide)]
    omega
  obtain ⟨bf, D, hF⟩ := Fi.all l.length 0 _ _ _ (by omega) h0 (by rw [List.drop_zero]; exact hk)
  exact hF.max


/-- v is the number of units. -/
def IsFleet (l : List S25) (turn v : Int) : Prop := (∃ M, IsM (En l turn) M ∧ (M.length : Int) = l.length - v) ∧ ∀ M, IsM (En l turn) M → (M.length : Int) ≤ l.length - v
theorem fleet_is (l : List S25) (turn : Int) (hl : tasksB l = true) (htb : inB turn 0 120 = true) : ∃ v, Ev (fun k => impl_Fleet.f k l turn) v ∧ IsFleet l turn v := by
  obtain ⟨v, _, h2⟩ := fleet_both l turn (by have := (tasksB_parts hl).1; omega)
  exact ⟨v, h2, fleet_max l turn v hl htb h2⟩
theorem IsM.sub {E E' : Nat → Nat → Prop} {M : List (Nat × Nat)} (h : IsM E M) (hE : ∀ a b, E a b → E' a b) : IsM E' M := ⟨h.fst, h.snd, fun p hp => hE _ _ (h.edge p hp)⟩
theorem ed_foll {l : List S25} {turn : Int} (hta : ∀ x, x ∈ l → taskB x = true) (htu : 0 ≤ turn ∧ turn ≤ 120) {a b : Nat} (ha : a < l.length) : Ed l turn a b ↔ (rd_T25 l a).f1 = (rd_T25 l b).f0 ∧ (rd_T25 l a).f3 + turn ≤ (rd_T25 l b).f2 := by
  have ht : taskB (rd_T25 l (a : Int)) = true := hta _ (by unfold rd_T25; exact getD_mem _ _ _ (by rw [Int.toNat_natCast]; exact ha))
  unfold Ed
  rw [f3_foll _ ht htu]
  unfold follB
  rw [Bool.and_eq_true, decide_eq_true_eq, decide_eq_true_eq]
/-- A longer turn. -/
theorem fleet_more {l : List S25} {turn more v w : Int} (hta : ∀ x, x ∈ l → taskB x = true) (htu : 0 ≤ turn ∧ turn ≤ 120) (hmu : 0 ≤ more ∧ more ≤ 120) (hm : turn ≤ more) (hv : IsFleet l turn v) (hw : IsFleet l more w) : v ≤ w := by
  obtain ⟨M, hM, hl⟩ := hw.1
  have := hv.2 M (hM.sub (fun a b h => ⟨h.1, h.2.1, (ed_foll hta htu h.1).2 (by have := (ed_foll hta hmu h.1).1 h.2.2; omega)⟩))
  omega
theorem fleet_le {l : List S25} {turn v : Int} (hv : IsFleet l turn v) : v ≤ l.length := by
  have := hv.2 [] ⟨by simp, by simp, fun p hp => absurd hp (by simp)⟩
  simp at this
  omega
/-- A list of different numbers below n has at most n of them; without one of them, fewer. -/
theorem nodup_lt (L : List Nat) (n : Nat) (hn : L.Nodup) (h : ∀ x, x ∈ L → x < n) : L.length ≤ n := by
  have := nodup_sub_len L (List.range n) hn (fun x hx => List.mem_range.2 (h x hx))
  simpa using this
theorem exists_min : ∀ (f : Nat → Int) (n : Nat), 0 < n → ∃ m, m < n ∧ ∀ x, x < n → f m ≤ f x
  | f, 0, h => absurd h (by omega)
  | f, 1, _ => ⟨0, by omega, fun x hx => by have : x = 0 := by omega
                                            rw [this]; omega⟩
  | f, n + 2, _ => by
    obtain ⟨m, h1, h2⟩ := exists_min f (n + 1) (by omega)
    by_cases c : f (n + 1) < f m
    · exact ⟨n + 1, by omega, fun x hx => by
        by_cases e : x = n + 1
        · rw [e]; omega
        · have := h2 x (by omega); omega⟩
    · exact ⟨m, by omega, fun x hx => by
        by_cases e : x = n + 1
        · rw [e]; omega
        · exact h2 x (by omega)⟩
/-- Where there are tasks there is a unit. -/
theorem fleet_pos {l : List S25} {turn v : Int} (hta : ∀ x, x ∈ l → taskB x = true) (htu : 0 ≤ turn ∧ turn ≤ 120) (hv : IsFleet l turn v) (hn : 0 < l.length) : 1 ≤ v := by
  obtain ⟨M, hM, hl⟩ := hv.1
  obtain ⟨m, m1, m2⟩ := exists_min (fun x => (rd_T25 l (x : Int)).f2) l.length hn
  have hno : ∀ x, x ∈ M.map Prod.snd → x ∈ (List.range l.length).erase m := by
    intro x hx
    obtain ⟨p, hp, rfl⟩ := List.mem_map.1 hx
    obtain ⟨a1, b1, e⟩ := hM.edge p hp
    have he := (ed_foll hta htu a1).1 e
    have hne : p.2 ≠ m := fun e2 => by
      have h1 := m2 p.1 a1
      rw [e2] at he
      have ht : taskB (rd_T25 l (p.1 : Int)) = true := hta _ (by unfold rd_T25; exact getD_mem _ _ _ (by rw [Int.toNat_natCast]; exact a1))
      have := (taskB_bounds ht).2.2.1
      omega
    exact (List.mem_erase_of_ne hne).2 (List.mem_range.2 b1)
  have h1 := nodup_sub_len _ _ hM.snd hno
  rw [List.length_map, List.length_erase_of_mem (List.mem_range.2 m1), List.length_range] at h1
  omega
theorem fleet_nonneg {l : List S25} {turn v : Int} (hv : IsFleet l turn v) : 0 ≤ v := by
  obtain ⟨M, hM, hl⟩ := hv.1
  have := nodup_lt (M.map Prod.fst) l.length hM.fst (fun x hx => by
    obtain ⟨p, hp, rfl⟩ := List.mem_map.1 hx
    exact (hM.edge p hp).1)
  rw [List.length_map] at this
  omega
theorem rd_tail (t : S25) (l : List S25) (x : Nat) : rd_T25 (t :: l) ((x + 1 : Nat) : Int) = rd_T25 l (x : Int) := by
  unfold rd_T25
  rw [Int.toNat_natCast, Int.toNat_natCast]
  simp
theorem ed_tail (t : S25) (l : List S25) (turn : Int) (a b : Nat) : Ed (t :: l) turn (a + 1) (b + 1) ↔ Ed l turn a b := by
  unfold Ed
  rw [rd_tail, rd_tail]
/-- A matching without what touches the first task, one place down. -/
theorem filter_len_ge : ∀ (M : List (Nat × Nat)), (M.map Prod.fst).Nodup → (M.map Prod.snd).Nodup → M.length ≤ (M.filter (fun p => decide (p.1 ≠ 0 ∧ p.2 ≠ 0))).length + 2 := by
  intro M h1 h2
  have a1 : ∀ (L : List (Nat × Nat)), (L.map Prod.fst).Nodup → L.length ≤ (L.filter (fun p => decide (p.1 ≠ 0))).length + 1 := by
    intro L
    induction L with
    | nil => intro _; simp
    | cons p L ih =>
      intro h
      rw [List.map_cons, List.nodup_cons] at h
      by_cases c : p.1 = 0
      · have : L.filter (fun p => decide (p.1 ≠ 0)) = L := by
          rw [List.filter_eq_self]
          intro q hq
          exact decide_eq_true (fun e => h.1 (by rw [c, ← e]; exact List.mem_map.2 ⟨q, hq, rfl⟩))
        rw [List.filter_cons, if_neg (by simp [c]), this]
        simp
      · rw [List.filter_cons, if_pos (by simp [c])]
        have := ih h.2
        simp only [List.length_cons]
        omega
  have a2 : ∀ (L : List (Nat × Nat)), (L.map Prod.snd).Nodup → L.length ≤ (L.filter (fun p => decide (p.2 ≠ 0))).length + 1 := by
    intro L
    induction L with
    | nil => intro _; simp
    | cons p L ih =>
      intro h
      rw [List.map_cons, List.nodup_cons] at h
      by_cases c : p.2 = 0
      · have : L.filter (fun p => decide (p.2 ≠ 0)) = L := by
          rw [List.filter_eq_self]
          intro q hq
          exact decide_eq_true (fun e => h.1 (by rw [c, ← e]; exact List.mem_map.2 ⟨q, hq, rfl⟩))
        rw [List.filter_cons, if_neg (by simp [c]), this]
        simp
      · rw [List.filter_cons, if_pos (by simp [c])]
        have := ih h.2
        simp only [List.length_cons]
        omega
  have b1 := a1 M h1
  have b2 := a2 (M.filter (fun p => decide (p.1 ≠ 0))) ((List.filter_sublist.map _).nodup h2)
  rw [List.filter_filter] at b2
  have e : M.filter (fun a => decide (a.2 ≠ 0) && decide (a.1 ≠ 0)) = M.filter (fun p => decide (p.1 ≠ 0 ∧ p.2 ≠ 0)) := by
    refine List.filter_congr (fun p _ => ?_)
    rw [Bool.eq_iff_iff, Bool.and_eq_true, decide_eq_true_eq, decide_eq_true_eq, decide_eq_true_eq]
    exact And.comm
  rw [e] at b2
  omega
theorem fleet_tail {t : S25} {l : List S25} {turn v w : Int} (hv : IsFleet (t :: l) turn v) (hw : IsFleet l turn w) : v - 1 ≤ w ∧ w ≤ v + 1 := by
  constructor
  · -- a matching of the rest is one of all
    obtain ⟨M, hM, hl⟩ := hw.1
    have hM2 : IsM (En (t :: l) turn) (M.map (fun p => (p.1 + 1, p.2 + 1))) := by
      refine ⟨?_, ?_, fun p hp => ?_⟩
      · rw [List.map_map]
        have : (Prod.fst ∘ fun p : Nat × Nat => (p.1 + 1, p.2 + 1)) = (fun x => x + 1) ∘ Prod.fst := rfl
        rw [this, ← List.map_map]
        exact List.Pairwise.map _ (fun a b h e => h (by omega)) hM.fst
      · rw [List.map_map]
        have : (Prod.snd ∘ fun p : Nat × Nat => (p.1 + 1, p.2 + 1)) = (fun x => x + 1) ∘ Prod.snd := rfl
        rw [this, ← List.map_map]
        exact List.Pairwise.map _ (fun a b h e => h (by omega)) hM.snd
      · obtain ⟨q, hq, rfl⟩ := List.mem_map.1 hp
        obtain ⟨a1, b1, e⟩ := hM.edge q hq
        exact ⟨by show q.1 + 1 < _; rw [List.length_cons]; omega, by show q.2 + 1 < _; rw [List.length_cons]; omega, (ed_tail t l turn q.1 q.2).2 e⟩
    have := hv.2 _ hM2
    rw [List.length_map, List.length_cons] at this
    omega
  · obtain ⟨M, hM, hl⟩ := hv.1
    obtain ⟨F, hF⟩ : ∃ F, F = M.filter (fun p => decide (p.1 ≠ 0 ∧ p.2 ≠ 0)) := ⟨_, rfl⟩
    have hFm : ∀ p, p ∈ F → p ∈ M ∧ p.1 ≠ 0 ∧ p.2 ≠ 0 := fun p hp => by
      rw [hF, List.mem_filter, decide_eq_true_eq] at hp
      exact ⟨hp.1, hp.2⟩
    have hM2 : IsM (En l turn) (F.map (fun p => (p.1 - 1, p.2 - 1))) := by
      refine ⟨?_, ?_, fun p hp => ?_⟩
      · rw [List.map_map]
        have h1 : (F.map Prod.fst).Nodup := by rw [hF]; exact (List.filter_sublist.map _).nodup hM.fst
        have h2 : F.Pairwise (fun p q => p.1 ≠ q.1) := List.pairwise_map.1 h1
        refine List.Pairwise.map _ (R := fun p q => p ∈ F ∧ q ∈ F ∧ p.1 ≠ q.1) ?_ ?_
        · rintro p q ⟨hp, hq, hne⟩ e
          have := (hFm p hp).2.1
          have := (hFm q hq).2.1
          simp only [Function.comp] at e
          omega
        · exact List.Pairwise.imp_of_mem (fun hp hq h => ⟨hp, hq, h⟩) h2
      · rw [List.map_map]
        have h1 : (F.map Prod.snd).Nodup := by rw [hF]; exact (List.filter_sublist.map _).nodup hM.snd
        have h2 : F.Pairwise (fun p q => p.2 ≠ q.2) := List.pairwise_map.1 h1
        refine List.Pairwise.map _ (R := fun p q => p ∈ F ∧ q ∈ F ∧ p.2 ≠ q.2) ?_ ?_
        · rintro p q ⟨hp, hq, hne⟩ e
          have := (hFm p hp).2.2
          have := (hFm q hq).2.2
          simp only [Function.comp] at e
          omega
        · exact List.Pairwise.imp_of_mem (fun hp hq h => ⟨hp, hq, h⟩) h2
      · obtain ⟨q, hq, rfl⟩ := List.mem_map.1 hp
        obtain ⟨q1, q2, q3⟩ := hFm q hq
        obtain ⟨a1, b1, e⟩ := hM.edge q q1
        rw [List.length_cons] at a1 b1
        refine ⟨by show q.1 - 1 < _; omega, by show q.2 - 1 < _; omega, (ed_tail t l turn (q.1 - 1) (q.2 - 1)).1 ?_⟩
        rw [show q.1 - 1 + 1 = q.1 by omega, show q.2 - 1 + 1 = q.2 by omega]
        exact e
    have h1 := hw.2 _ hM2
    have h2 := filter_len_ge M hM.fst hM.snd
    rw [← hF] at h2
    rw [List.length_map] at h1
    rw [List.length_cons] at hl
    omega


theorem best_stay (l : List S25) (turn t : Int) (us : List (List Int)) : ∀ (k u : Nat) (best : Int), 0 ≤ best → 0 ≤ impl_chains.l1 l turn t us k u best
  | 0, u, best, h => by rw [impl_chains.l1]; exact h
  | k + 1, u, best, h => by
    rw [impl_chains.l1]
    split
    · split
      · exact best_stay l turn t us k (u + 1) u (by omega)
      · split
        · exact best_stay l turn t us k (u + 1) u (by omega)
        · exact best_stay l turn t us k (u + 1) best h
    · exact best_stay l turn t us k (u + 1) best h
theorem best_none (l : List S25) (turn t : Int) (us : List (List Int)) : ∀ (k u : Nat) (best : Int), u + k = us.length → impl_chains.l1 l turn t us k u best < 0 → ∀ v, u ≤ v → v < us.length → ¬ Follows' l turn (lst (cat us v)) t
  | 0, u, best, hu, _, v, h1, h2 => by omega
  | k + 1, u, best, hu, h, v, h1, h2 => by
    rw [impl_chains.l1, l2_lst] at h
    by_cases c : impl_chains.l3 turn (rd_T25 l (lst (cat us u))) (rd_T25 l t) = true
    · rw [if_pos c] at h
      split at h
      · have := best_stay l turn t us k (u + 1) u (by omega); omega
      · split at h
        · have := best_stay l turn t us k (u + 1) u (by omega); omega
        · rename_i hb _
          have := best_stay l turn t us k (u + 1) best (by omega); omega
    · rw [if_neg c] at h
      by_cases e : v = u
      · rw [e]; exact c
      · exact best_none l turn t us k (u + 1) best (by omega) h v (by omega) h2
/-- The greedy state: a matching, and what covers all edges among the tasks done. -/
structure Gd (l : List S25) (turn : Int) (ts : List Int) (us : List (List Int)) (M : List (Nat × Nat)) (K1 K2 : Nat → Prop) : Prop where
  m : IsM (Ed l turn) M
  din : ∀ p, p ∈ M → ((p.1 : Nat) : Int) ∈ ts ∧ ((p.2 : Nat) : Int) ∈ ts
  nol : ∀ p, p ∈ M → ∀ u, u < us.length → lst (cat us u) ≠ ((p.1 : Nat) : Int)
  all : ∀ a : Nat, (a : Int) ∈ ts → (∃ u, u < us.length ∧ lst (cat us u) = (a : Int)) ∨ ∃ b, (a, b) ∈ M
  cnt : M.length + us.length = ts.length
  cov : ∀ a b : Nat, (a : Int) ∈ ts → (b : Int) ∈ ts → Ed l turn a b → K1 a ∨ K2 b
  k1 : ∀ a, K1 a → ∃ b, (a, b) ∈ M ∧ ¬ K2 b
  k2 : ∀ b, K2 b → ∃ a, (a, b) ∈ M
theorem ed_follows (l : List S25) (turn : Int) (a b : Nat) : Ed l turn a b ↔ Follows' l turn (a : Int) (b : Int) := Iff.rfl
theorem greedy_go (l : List S25) (turn : Int) (hta : ∀ x, x ∈ l → taskB x = true) (htu : 0 ≤ turn ∧ turn ≤ 120) : ∀ (rest ts : List Int) (us : List (List Int)) (out : List Int) (M : List (Nat × Nat)) (K1 K2 : Nat → Prop),
    (ts ++ rest).Nodup → (∀ t, t ∈ ts ++ rest → 0 ≤ t ∧ t < l.length) → (ts ++ rest).Pairwise (fun a b => (rd_T25 l a).f2 ≤ (rd_T25 l b).f2) → Rel l.length ts us out → Gd l turn ts us M K1 K2 →
    ∃ M' K1' K2', Gd l turn (ts ++ rest) (impl_chains.l0 l turn rest us) M' K1' K2'
  | [], ts, us, out, M, K1, K2, _, _, _, _, h => ⟨M, K1, K2, by rw [List.append_nil, impl_chains.l0]; exact h⟩
  | t :: rest, ts, us, out, M, K1, K2, hnd, hm, hso, hR, h => by
    have e0 : ts ++ t :: rest = (ts ++ [t]) ++ rest := by simp
    have hnt : t ∉ ts := fun hx => by
      rw [List.nodup_append] at hnd
      exact hnd.2.2 t hx t (by simp) rfl
    obtain ⟨h0, h1⟩ := hm t (by simp)
    obtain ⟨tn, htn⟩ : ∃ tn : Nat, t = (tn : Int) := ⟨t.toNat, by omega⟩
    have hdep : ∀ x, x ∈ ts → (rd_T25 l x).f2 ≤ (rd_T25 l t).f2 := fun x hx => by
      rw [List.pairwise_append] at hso
      exact hso.2.2 x hx t (by simp)
    have htask : ∀ x : Int, 0 ≤ x → x < l.length → taskB (rd_T25 l x) = true := fun x hx0 hx1 => hta _ (by unfold rd_T25; exact getD_mem _ _ _ (by omega))
    have noout : ∀ b : Nat, ((b : Nat) : Int) ∈ ts ++ [t] → ¬ Ed l turn tn b := fun b hb he => by
      have hf := foll_dep hta htu t (b : Int) ⟨h0, h1⟩ (by rw [htn]; exact he)
      rcases List.mem_append.1 hb with hb | hb
      · have := hdep _ hb; omega
      · rw [List.mem_singleton.1 hb] at hf; omega
    rw [impl_chains.l0]
    obtain ⟨g1, g2⟩ := best_bounds l turn t us us.length 0 (-1) (by omega) (by omega) (by omega)
    by_cases c : impl_chains.l1 l turn t us us.length 0 (-1) < 0
    · rw [if_pos c, e0]
      have hR2 := hR.push t h0 h1 hnt
      have hnone := best_none l turn t us us.length 0 (-1) (by omega) c
      refine greedy_go l turn hta htu rest (ts ++ [t]) _ _ M (fun a => K1 a ∨ ((a : Int) ∈ ts ∧ Ed l turn a tn)) (fun b => K2 b ∧ (rd_T25 l (b : Int)).f0 ≠ (rd_T25 l t).f0) (by rw [← e0]; exact hnd) (fun x hx => hm x (by rw [e0]; exact hx)) (by rw [← e0]; exact hso) hR2 ?_
      refine ⟨h.m, fun p hp => ⟨List.mem_append_left _ (h.din p hp).1, List.mem_append_left _ (h.din p hp).2⟩, fun p hp u hu => ?_, fun a ha => ?_, by have := h.cnt; simp only [List.length_append, List.length_singleton]; omega, fun a b ha hb he => ?_, fun a ha => ?_, fun b hb => h.k2 b hb.1⟩
      · rw [List.length_append, List.length_singleton] at hu
        rw [cat_push _ _ _ hu]
        by_cases e : u = us.length
        · rw [if_pos e]
          intro e2
          have e3 : lst [t] = t := rfl
          rw [e3] at e2
          exact hnt (by rw [e2]; exact (h.din p hp).1)
        · rw [if_neg e]; exact h.nol p hp u (by omega)
      · rcases List.mem_append.1 ha with ha | ha
        · rcases h.all a ha with ⟨u, u1, u2⟩ | hb
          · exact Or.inl ⟨u, by rw [List.length_append]; omega, by rw [cat_push _ _ _ (by omega), if_neg (by omega)]; exact u2⟩
          · exact Or.inr hb
        · exact Or.inl ⟨us.length, by rw [List.length_append, List.length_singleton]; omega, by rw [cat_push _ _ _ (by omega), if_pos rfl, List.mem_singleton.1 ha]; rfl⟩
      · rcases List.mem_append.1 ha with ha | ha
        · rcases List.mem_append.1 hb with hb | hb
          · rcases h.cov a b ha hb he with k | k
            · exact Or.inl (Or.inl k)
            · by_cases e : (rd_T25 l (b : Int)).f0 = (rd_T25 l t).f0
              · refine Or.inl (Or.inr ⟨ha, ?_⟩)
                have hra := hm (a : Int) (List.mem_append_left _ ha)
                have hf := (ed_foll hta htu (show a < l.length by omega)).1 he
                have := hdep _ hb
                refine (ed_foll hta htu (show a < l.length by omega)).2 ⟨?_, ?_⟩
                · rw [hf.1, e, htn]
                · rw [← htn]; omega
              · exact Or.inr ⟨k, e⟩
          · have e : b = tn := by have := List.mem_singleton.1 hb; omega
            rw [e] at he
            exact Or.inl (Or.inr ⟨ha, he⟩)
        · have e : a = tn := by have := List.mem_singleton.1 ha; omega
          rw [e] at he
          exact absurd he (noout b hb)
      · rcases ha with ha | ⟨ha, he⟩
        · obtain ⟨b, b1, b2⟩ := h.k1 a ha
          exact ⟨b, b1, fun hk => b2 hk.1⟩
        · rcases h.all a ha with ⟨u, u1, u2⟩ | ⟨b, hb⟩
          · exact absurd (by rw [u2, htn]; exact he) (hnone u (by omega) u1)
          · refine ⟨b, hb, fun hk => hk.2 ?_⟩
            have hra := hm (a : Int) (List.mem_append_left _ ha)
            have f1 := (ed_foll hta htu (show a < l.length by omega)).1 he
            have f2 := (ed_foll hta htu (show a < l.length by omega)).1 (h.m.edge _ hb)
            rw [htn, ← f1.1, ← f2.1]
    · rw [if_neg c, e0]
      obtain ⟨bn, hbn⟩ : ∃ bn : Nat, impl_chains.l1 l turn t us us.length 0 (-1) = (bn : Int) := ⟨(impl_chains.l1 l turn t us us.length 0 (-1)).toNat, by omega⟩
      rw [hbn, Int.toNat_natCast]
      have hbu : bn < us.length := by omega
      have hfo : Follows' l turn (lst (cat us bn)) t := best_foll l turn t us (fun b => Follows' l turn (lst (cat us b)) t) us.length 0 (-1) (by omega) (fun b e => by omega) (fun b _ hl => hl) bn hbn
      have hR2 := hR.app t h0 h1 hnt bn hbu
      have hlm := lst_mem _ (hR.ne bn hbu)
      obtain ⟨hl1, hl2⟩ := (rel_mem_cat hR bn hbu _).1 hlm
      obtain ⟨q0, q1⟩ := hR.mem _ hl1
      obtain ⟨pn, hpn⟩ : ∃ pn : Nat, lst (cat us bn) = (pn : Int) := ⟨(lst (cat us bn)).toNat, by omega⟩
      have ec : us.getD bn [] = cat us bn := rfl
      rw [ec]
      have hcat : ∀ u, cat (us.set bn (cat us bn ++ [t])) u = if bn = u then cat us bn ++ [t] else cat us u := fun u => cat_set _ _ _ _ hbu
      refine greedy_go l turn hta htu rest (ts ++ [t]) _ _ ((pn, tn) :: M) K1 (fun b => K2 b ∨ b = tn) (by rw [← e0]; exact hnd) (fun x hx => hm x (by rw [e0]; exact hx)) (by rw [← e0]; exact hso) hR2 ?_
      refine ⟨⟨?_, ?_, fun p hp => ?_⟩, fun p hp => ?_, fun p hp u hu => ?_, fun a ha => ?_, by have := h.cnt; simp only [List.length_append, List.length_cons, List.length_nil, List.length_set]; omega, fun a b ha hb he => ?_, fun a ha => ?_, fun b hb => ?_⟩
      · rw [List.map_cons, List.nodup_cons]
        refine ⟨fun hx => ?_, h.m.fst⟩
        obtain ⟨p, hp, e⟩ := List.mem_map.1 hx
        exact h.nol p hp bn hbu (by rw [hpn, e])
      · rw [List.map_cons, List.nodup_cons]
        refine ⟨fun hx => ?_, h.m.snd⟩
        obtain ⟨p, hp, e⟩ := List.mem_map.1 hx
        have := (h.din p hp).2
        rw [e] at this
        exact hnt (by rw [htn]; exact this)
      · rcases List.mem_cons.1 hp with e | hp
        · rw [e]; show Follows' l turn (pn : Int) (tn : Int); rw [← hpn, ← htn]; exact hfo
        · exact h.m.edge p hp
      · rcases List.mem_cons.1 hp with e | hp
        · rw [e]
          exact ⟨List.mem_append_left _ (by show ((pn : Nat) : Int) ∈ ts; rw [← hpn]; exact hl1), List.mem_append_right _ (by show ((tn : Nat) : Int) ∈ [t]; rw [← htn]; simp)⟩
        · exact ⟨List.mem_append_left _ (h.din p hp).1, List.mem_append_left _ (h.din p hp).2⟩
      · rw [List.length_set] at hu
        rw [hcat]
        by_cases e : bn = u
        · rw [if_pos e, lst_snoc]
          intro e2
          rcases List.mem_cons.1 hp with e3 | hp
          · rw [e3] at e2
            exact hnt (by rw [e2]; show ((pn : Nat) : Int) ∈ ts; rw [← hpn]; exact hl1)
          · exact hnt (by rw [e2]; exact (h.din p hp).1)
        · rw [if_neg e]
          rcases List.mem_cons.1 hp with e3 | hp
          · rw [e3]
            intro e2
            have hlu := lst_mem _ (hR.ne u hu)
            have h3 := ((rel_mem_cat hR u hu _).1 hlu).2
            have e4 : lst (cat us u) = lst (cat us bn) := by rw [e2, hpn]
            rw [e4, hl2] at h3
            omega
          · exact h.nol p hp u hu
      · rcases List.mem_append.1 ha with ha | ha
        · rcases h.all a ha with ⟨u, u1, u2⟩ | ⟨b, hb⟩
          · by_cases e : bn = u
            · refine Or.inr ⟨tn, List.mem_cons.2 (Or.inl ?_)⟩
              rw [← e] at u2
              have : a = pn := by omega
              rw [this]
            · exact Or.inl ⟨u, by rw [List.length_set]; exact u1, by rw [hcat, if_neg e]; exact u2⟩
          · exact Or.inr ⟨b, List.mem_cons_of_mem _ hb⟩
        · exact Or.inl ⟨bn, by rw [List.length_set]; exact hbu, by rw [hcat, if_pos rfl, lst_snoc, List.mem_singleton.1 ha]⟩
      · rcases List.mem_append.1 ha with ha | ha
        · rcases List.mem_append.1 hb with hb | hb
          · rcases h.cov a b ha hb he with k | k
            · exact Or.inl k
            · exact Or.inr (Or.inl k)
          · have e : b = tn := by have := List.mem_singleton.1 hb; omega
            exact Or.inr (Or.inr e)
        · have e : a = tn := by have := List.mem_singleton.1 ha; omega
          rw [e] at he
          exact absurd he (noout b hb)
      · obtain ⟨b, b1, b2⟩ := h.k1 a ha
        refine ⟨b, List.mem_cons_of_mem _ b1, fun hk => ?_⟩
        rcases hk with hk | hk
        · exact b2 hk
        · have := (h.din _ b1).2
          simp only at this
          rw [hk, ← htn] at this
          exact hnt this
      · rcases hb with hb | hb
        · obtain ⟨a, ha⟩ := h.k2 b hb
          exact ⟨a, List.mem_cons_of_mem _ ha⟩
        · exact ⟨pn, by rw [hb]; simp⟩
theorem pick_len (M : List (Nat × Nat)) (A B : List Nat) (ha : A.Nodup) (hb : B.Nodup) (k2 : Nat → Prop) (hA : ∀ a, a ∈ A → ∃ b, (a, b) ∈ M ∧ ¬ k2 b) (hB : ∀ b, b ∈ B → k2 b ∧ ∃ a, (a, b) ∈ M) : A.length + B.length ≤ M.length := by
  obtain ⟨d, hd⟩ : ∃ d : Nat → Bool, ∀ x, d x = true ↔ k2 x := ⟨fun x => @decide (k2 x) (Classical.propDecidable _), fun x => @decide_eq_true_iff _ (Classical.propDecidable _)⟩
  have hp : M.length = (M.filter (fun p => d p.2)).length + (M.filter (fun p => !d p.2)).length := by
    clear hA hB
    induction M with
    | nil => rfl
    | cons p M ih =>
      rw [List.filter_cons, List.filter_cons]
      cases d p.2 <;> simp <;> omega
  have a1 := nodup_sub_len A ((M.filter (fun p => !d p.2)).map Prod.fst) ha (fun a h => by
    obtain ⟨b, hb, hk⟩ := hA a h
    have e : d b = false := by
      cases hh : d b with
      | true => exact absurd ((hd b).1 hh) hk
      | false => rfl
    exact List.mem_map.2 ⟨(a, b), List.mem_filter.2 ⟨hb, by simp [e]⟩, rfl⟩)
  have a2 := nodup_sub_len B ((M.filter (fun p => d p.2)).map Prod.snd) hb (fun b h => by
    obtain ⟨hk, a, hab⟩ := hB b h
    exact List.mem_map.2 ⟨(a, b), List.mem_filter.2 ⟨hab, by simp [(hd b).2 hk]⟩, rfl⟩)
  rw [List.length_map] at a1 a2
  omega
theorem greedy_fleet (l : List S25) (turn : Int) (hl : tasksB l = true) (htb : inB turn 0 120 = true) : IsFleet l turn ((units l turn).length : Int) := by
  obtain ⟨h40, hta⟩ := tasksB_parts hl
  have htu := inB_iff.1 htb
  obtain ⟨f1, f2, f3⟩ := order_facts l
  have hso : (impl_byDep.l0 l).Pairwise (fun a b => (rd_T25 l a).f2 ≤ (rd_T25 l b).f2) := by
    rw [ord_map]
    refine List.Pairwise.map _ (fun a b h => ?_) (ord_sorted l)
    simp only [impl_byDep.l1, decide_eq_true_eq] at h
    omega
  have h0 : Gd l turn [] [] [] (fun _ => False) (fun _ => False) := ⟨⟨by simp, by simp, fun p hp => absurd hp (by simp)⟩, fun p hp => absurd hp (by simp), fun p hp => absurd hp (by simp), fun a ha => absurd ha (by simp), rfl, fun a b ha => absurd ha (by simp), fun a ha => ha.elim, fun b hb => hb.elim⟩
  obtain ⟨M, K1, K2, hG⟩ := greedy_go l turn hta htu (impl_byDep.l0 l) [] [] (List.replicate l.length (-1)) [] _ _ (by simpa using f3) (by simpa using f2) (by simpa using hso) ⟨by simp, fun u hu => absurd hu (by simp), fun u hu => absurd hu (by simp), fun t ht => absurd ht (by simp), fun t ht => absurd ht (by simp)⟩ h0
  rw [List.nil_append] at hG
  have hcnt := hG.cnt
  rw [f1] at hcnt
  have hus : (impl_chains.l0 l turn (impl_byDep.l0 l) []).length = (units l turn).length := rfl
  refine ⟨⟨M, ⟨hG.m.fst, hG.m.snd, fun p hp => ?_⟩, by omega⟩, fun M' hM' => ?_⟩
  · have h1 := f2 _ (hG.din p hp).1
    have h2 := f2 _ (hG.din p hp).2
    exact ⟨by omega, by omega, hG.m.edge p hp⟩
  · obtain ⟨c1, hc1⟩ : ∃ d : Nat → Bool, ∀ x, d x = true ↔ K1 x := ⟨fun x => @decide (K1 x) (Classical.propDecidable _), fun x => @decide_eq_true_iff _ (Classical.propDecidable _)⟩
    obtain ⟨c2, hc2⟩ : ∃ d : Nat → Bool, ∀ x, d x = true ↔ K2 x := ⟨fun x => @decide (K2 x) (Classical.propDecidable _), fun x => @decide_eq_true_iff _ (Classical.propDecidable _)⟩
    have hcv := cover_bound hM' ((List.range l.length).filter c1) ((List.range l.length).filter c2) (fun a b hab => by
      obtain ⟨ha, hb, hE⟩ := hab
      rcases hG.cov a b (order_all l a ha) (order_all l b hb) hE with k | k
      · exact Or.inl (List.mem_filter.2 ⟨List.mem_range.2 ha, (hc1 a).2 k⟩)
      · exact Or.inr (List.mem_filter.2 ⟨List.mem_range.2 hb, (hc2 b).2 k⟩))
    have hpk := pick_len M ((List.range l.length).filter c1) ((List.range l.length).filter c2) (List.filter_sublist.nodup List.nodup_range) (List.filter_sublist.nodup List.nodup_range) K2 (fun a ha => hG.k1 a ((hc1 a).1 (List.mem_filter.1 ha).2)) (fun b hb => ⟨(hc2 b).1 (List.mem_filter.1 hb).2, hG.k2 b ((hc2 b).1 (List.mem_filter.1 hb).2)⟩)
    omega
theorem fleet_unique {l : List S25} {turn v w : Int} (hv : IsFleet l turn v) (hw : IsFleet l turn w) : v = w := by
  obtain ⟨M, m1, m2⟩ := hv.1
  obtain ⟨M', n1, n2⟩ := hw.1
  have := hv.2 M' n1
  have := hw.2 M m1
  omega
end Go.Proofs.Ytoalolbifakpiaa.Pure
