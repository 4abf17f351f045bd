/- Right trains, seats and sales, over lists and numbers alone: program and reference; trains that are drawn. -/
import Derived.Test.YtklikbjlfaednaaD
namespace Go.Proofs.Ytklikbjlfaednaa.Pure
open Go.RowKit Go.Proofs.Ytklikbjlfaednaa.P Go.Proofs.YtklikbjlfaednaaW.PrintWords Go.Proofs.YtklikbjlfaednaaW.PrintLast
set_option linter.unusedVariables false
set_option linter.unusedSimpArgs false

theorem w64 {x : Int} (h0 : -9223372036854775808 ≤ x) (h1 : x ≤ 9223372036854775807) : wrap64 x = x := by unfold wrap64; omega
theorem w64s {i n : Nat} (h : i < n) (hn : n ≤ 1000000000) : wrap64 ((i : Int) + 1) = ((i + 1 : Nat) : Int) := by rw [w64 (by omega) (by omega)]; omega

/-- What holds of the last place, and goes back from each place to the one ahead of it, holds of all. -/
theorem down {p : Nat → Prop} (n : Nat) (h0 : p n) (h1 : ∀ i, i < n → p (i + 1) → p i) : ∀ i, i ≤ n → p i := by
  intro i hi
  obtain ⟨d, rfl⟩ : ∃ d, n = i + d := ⟨n - i, by omega⟩
  induction d generalizing i with
  | zero => exact h0
  | succ d ih => exact h1 i (by omega) (ih (i + 1) (by have : i + 1 + d = i + (d + 1) := by omega
                                                       rw [this]; exact h0) (fun j hj => h1 j (by omega)) (by omega))

theorem drop_getD {α : Type} (z : α) (l : List α) (i : Nat) (h : i < l.length) : l.drop i = l.getD i z :: l.drop (i + 1) := by
  rw [List.drop_eq_getElem_cons h]; simp [List.getD_eq_getElem?_getD, List.getElem?_eq_getElem h]
theorem take_getD {α : Type} (z : α) (l : List α) (i : Nat) (h : i < l.length) : l.take (i + 1) = l.take i ++ [l.getD i z] := by
  rw [List.take_succ_eq_append_getElem h]; simp [List.getD_eq_getElem?_getD, List.getElem?_eq_getElem h]
theorem getD_mem {α : Type} (z : α) (l : List α) (i : Nat) (h : i < l.length) : l.getD i z ∈ l := by
  simp [List.getD_eq_getElem?_getD, List.getElem?_eq_getElem h]

/-- One round. -/
theorem ev_at {α : Type} {g f : Nat → Option α} {r : α} (k : Ev f r) (h : ∀ k, g (k + 1) = f k) : Ev g r := Ev.step h k
theorem ev_some {α : Type} {g : Nat → Option α} {r : α} (h : ∀ k, g (k + 1) = some r) : Ev g r := Ev.step (f := fun _ => some r) h (Ev.now r)

/-- A loop that finds all in order. -/
theorem ev_true (n : Nat) (g : Nat → Int → Option Bool) (h0 : ∀ k, g (k + 1) n = some true) (h1 : ∀ k (i : Nat), i < n → g (k + 1) i = g k ((i + 1 : Nat) : Int)) : Ev (fun k => g k 0) true := by
  have key : ∀ i, i ≤ n → Ev (fun k => g k (i : Int)) true := down n (ev_some h0) (fun i hi ih => ev_at ih (fun k => h1 k i hi))
  exact key 0 (Nat.zero_le _)

theorem set_take {α : Type} (acc : List α) (i : Nat) (v : α) (h : i < acc.length) : (acc.set i v).take (i + 1) = acc.take i ++ [v] := by
  rw [List.take_succ_eq_append_getElem (by simpa using h)]
  simp [List.take_set_of_le]

def inB (x a b : Int) : Bool := decide (a ≤ x) && decide (x ≤ b)
theorem l01In (x a b : Int) : spec_l01In.f x a b = some (inB x a b) := by unfold spec_l01In.f inB; by_cases h : a ≤ x <;> simp [h]
theorem inB_iff {x a b : Int} : inB x a b = true ↔ a ≤ x ∧ x ≤ b := by simp [inB]

/-- A loop that looks for one. -/
theorem ev_any {α : Type} (l : List α) (p : α → Bool) (g : Nat → Int → Option Bool) (h0 : ∀ k, g (k + 1) l.length = some false)
    (h1 : ∀ k (i : Nat) (h : i < l.length), p l[i] = true → g (k + 1) i = some true) (h2 : ∀ k (i : Nat) (h : i < l.length), p l[i] = false → g (k + 1) i = g k ((i + 1 : Nat) : Int)) :
    Ev (fun k => g k 0) (l.any p) := by
  have key : ∀ i, i ≤ l.length → Ev (fun k => g k (i : Int)) ((l.drop i).any p) := by
    refine down l.length ?_ ?_
    · rw [List.drop_of_length_le (Nat.le_refl _)]
      exact ev_some h0
    · intro i hi ih
      rw [List.drop_eq_getElem_cons hi, List.any_cons]
      cases hp : p l[i] with
      | false => rw [Bool.false_or]; exact ev_at ih (fun k => h2 k i hi hp)
      | true => simp only [Bool.true_or]; exact ev_some (fun k => h1 k i hi hp)
  have := key 0 (Nat.zero_le _)
  simpa using this

/-- Is the booking at place i right by the reference, but for what is ahead of it on its seat? -/
def chk (a b : Int) (l : List S66) (i : Nat) : Bool :=
  decide (0 < (rd_T66 l (i : Int)).f0) && (decide (i = 0) || decide ((rd_T66 l ((i - 1 : Nat) : Int)).f0 < (rd_T66 l (i : Int)).f0)) && inB (rd_T66 l (i : Int)).f1 0 (a - 1) && inB (rd_T66 l (i : Int)).f3 1 b && inB (rd_T66 l (i : Int)).f2 0 ((rd_T66 l (i : Int)).f3 - 1)
def sOk (a b : Int) (l : List S66) (i : Nat) : Bool := chk a b l i && !((l.take i).any (impl_TrainOk.l3 (rd_T66 l (i : Int))))
def trainV (a b : Int) (l : List S66) : Bool := inB a 1 60 && inB b 1 11 && decide (l.length ≤ 200) && (List.range l.length).all (sOk a b l)

theorem spec_clash (a b : Int) (l : List S66) (h : l.length ≤ 200) (i : Nat) (hi : i < l.length) (y : S66) (r : Bool) (hr : Ev (fun k => spec_TrainOk.l0 k ((i + 1 : Nat) : Int) a b l) r) :
    ∀ j, j ≤ i → Ev (fun k => spec_TrainOk.l1 k i j a b l y.f0 y.f1 y.f2 y.f3) (!(((l.take i).drop j).any (impl_TrainOk.l3 y)) && r) := by
  have hw := w64s hi (by omega)
  refine down i ?_ (fun j hj ih => ?_)
  · rw [List.drop_of_length_le (by simp; omega)]
    simp only [List.any_nil, Bool.not_false, Bool.true_and]
    exact ev_at hr (fun k => by simp only [spec_TrainOk.l1, hw]; rw [if_neg (Int.lt_irrefl _)])
  · have hwj := w64s (show j < l.length by omega) (by omega)
    have hlt : j < (l.take i).length := by simp; omega
    rw [drop_getD z66 (l.take i) j hlt, List.any_cons]
    have e : (l.take i).getD j z66 = rd_T66 l (j : Int) := by
      simp [rd_T66, List.getD_eq_getElem?_getD, hj]
    rw [e]
    have f1 : (j : Int) < i := by omega
    have f2 : (0 : Int) ≤ j := by omega
    have f3 : (j : Int) < l.length := by omega
    cases hc : impl_TrainOk.l3 y (rd_T66 l (j : Int))
    · rw [Bool.false_or]
      refine ev_at ih (fun k => ?_)
      simp only [spec_TrainOk.l1, if_pos f1, if_pos f2, if_pos f3, hwj]
      unfold impl_TrainOk.l3 at hc
      by_cases c1 : (rd_T66 l (j : Int)).f1 = y.f1
      · rw [if_pos c1]
        by_cases c2 : (rd_T66 l (j : Int)).f2 < y.f3
        · rw [if_pos c2]
          by_cases c3 : y.f2 < (rd_T66 l (j : Int)).f3
          · rw [decide_eq_true c1, decide_eq_true c2, decide_eq_true c3] at hc
            simp at hc
          · rw [if_neg c3]
        · rw [if_neg c2]
      · rw [if_neg c1]
    · simp only [Bool.true_or, Bool.not_true, Bool.false_and]
      unfold impl_TrainOk.l3 at hc
      simp only [Bool.and_eq_true, decide_eq_true_eq] at hc
      exact ev_some (fun k => by simp only [spec_TrainOk.l1, if_pos f1, if_pos f2, if_pos f3, if_pos hc.1.1, if_pos hc.1.2, if_pos hc.2])
theorem spec_step (a b : Int) (l : List S66) (ha : 1 ≤ a ∧ a ≤ 60) (hb : 1 ≤ b ∧ b ≤ 11) (h : l.length ≤ 200) (i : Nat) (hi : i < l.length) (k : Nat) :
    spec_TrainOk.l0 (k + 1) i a b l = spec_TrainOk.j2 k i (!(chk a b l i)) a b l (rd_T66 l (i : Int)).f0 (rd_T66 l (i : Int)).f1 (rd_T66 l (i : Int)).f2 (rd_T66 l (i : Int)).f3 := by
  have f1 : (i : Int) < l.length := by omega
  have f2 : (0 : Int) ≤ i := by omega
  have hwa : wrap64 (a - 1) = a - 1 := w64 (by omega) (by omega)
  unfold chk
  simp only [spec_TrainOk.l0, if_pos f1, if_pos f2, l01In, Option.bind_some, hwa]
  clear hwa
  obtain ⟨y, hy⟩ : ∃ y, rd_T66 l (i : Int) = y := ⟨_, rfl⟩
  rw [hy]
  have tail : (if inB y.f1 0 (a - 1) = true then if inB y.f3 1 b = true then spec_TrainOk.j2 k i (!inB y.f2 0 (wrap64 (y.f3 - 1))) a b l y.f0 y.f1 y.f2 y.f3 else spec_TrainOk.j2 k i true a b l y.f0 y.f1 y.f2 y.f3 else spec_TrainOk.j2 k i true a b l y.f0 y.f1 y.f2 y.f3) = spec_TrainOk.j2 k i (!(inB y.f1 0 (a - 1) && inB y.f3 1 b && inB y.f2 0 (y.f3 - 1))) a b l y.f0 y.f1 y.f2 y.f3 := by
    cases inB y.f1 0 (a - 1)
    · rfl
    · cases h3 : inB y.f3 1 b
      · rfl
      · have := inB_iff.1 h3
        simp only [if_true, Bool.true_and]
        rw [w64 (by omega) (by omega)]
  by_cases c1 : y.f0 ≤ 0
  · rw [if_pos c1, decide_eq_false (by omega)]
    rfl
  · rw [if_neg c1, decide_eq_true (show 0 < y.f0 by omega), Bool.true_and]
    by_cases c2 : (i : Int) > 0
    · have e1 : wrap64 ((i : Int) - 1) = ((i - 1 : Nat) : Int) := by rw [w64 (by omega) (by omega)]; omega
      have f3 : (0 : Int) ≤ ((i - 1 : Nat) : Int) := by clear e1; omega
      have f4 : ((i - 1 : Nat) : Int) < l.length := by clear e1; omega
      have f5 : ¬ i = 0 := by clear e1; omega
      simp only [if_pos c2, e1, if_pos f3, if_pos f4, decide_eq_false f5, Bool.false_or]
      by_cases c3 : (rd_T66 l ((i - 1 : Nat) : Int)).f0 ≥ y.f0
      · rw [if_pos c3, decide_eq_false (by clear e1; omega)]
        rfl
      · rw [if_neg c3, decide_eq_true (show (rd_T66 l ((i - 1 : Nat) : Int)).f0 < y.f0 by clear e1; omega), Bool.true_and]
        exact tail
    · have f5 : i = 0 := by omega
      rw [if_neg c2, decide_eq_true f5, Bool.true_or, Bool.true_and]
      exact tail
theorem spec_train (a b : Int) (l : List S66) (h : l.length ≤ 1048576) : Ev (fun k => spec_TrainOk.f k a b l) (trainV a b l) := by
  unfold spec_TrainOk.f trainV
  have j0t : Ev (fun k => spec_TrainOk.j0 k true a b l) false := ev_some (fun k => by simp [spec_TrainOk.j0])
  simp only [l01In, Option.bind_some]
  cases ha : inB a 1 60
  · simpa using j0t
  · cases hb : inB b 1 11
    · simpa using j0t
    · simp only [if_true, Bool.true_and]
      by_cases h2 : l.length ≤ 200
      · rw [decide_eq_true h2, Bool.true_and, decide_eq_false (show ¬ (l.length : Int) > 200 by omega)]
        have key : ∀ i, i ≤ l.length → Ev (fun k => spec_TrainOk.l0 k (i : Int) a b l) (((List.range l.length).drop i).all (sOk a b l)) := by
          refine down l.length ?_ (fun i hi ih => ?_)
          · rw [List.drop_of_length_le (by simp)]
            exact ev_some (fun k => by simp [spec_TrainOk.l0])
          · rw [drop_getD 0 (List.range l.length) i (by simpa using hi), List.all_cons]
            have e : (List.range l.length).getD i 0 = i := by simp [List.getD_eq_getElem?_getD, hi]
            rw [e]
            refine ev_at (f := fun k => spec_TrainOk.j2 k i (!(chk a b l i)) a b l (rd_T66 l (i : Int)).f0 (rd_T66 l (i : Int)).f1 (rd_T66 l (i : Int)).f2 (rd_T66 l (i : Int)).f3) ?_ (fun k => spec_step a b l (inB_iff.1 ha) (inB_iff.1 hb) h2 i hi k)
            unfold sOk
            cases hc : chk a b l i
            · exact ev_some (fun k => by simp [spec_TrainOk.j2])
            · have := spec_clash a b l h2 i hi (rd_T66 l (i : Int)) _ ih 0 (Nat.zero_le _)
              rw [List.drop_zero] at this
              simp only [Bool.true_and, Bool.not_true]
              exact ev_at this (fun k => by simp [spec_TrainOk.j2])
        exact ev_at (key 0 (Nat.zero_le _)) (fun k => by simp [spec_TrainOk.j0])
      · rw [decide_eq_false h2, Bool.false_and, decide_eq_true (show (l.length : Int) > 200 by omega)]
        exact j0t
theorem ok_same (a b : Int) (l : List S66) : ∀ n, (∀ i, i < n → impl_TrainOk.l1 a b l i = true) ↔ (∀ i, i < n → sOk a b l i = true) := by
  have parts : ∀ i, impl_TrainOk.l1 a b l i = true ↔ ((if i = 0 then 0 else (rd_T66 l ((i - 1 : Nat) : Int)).f0) < (rd_T66 l (i : Int)).f0 ∧ (0 ≤ (rd_T66 l (i : Int)).f1 ∧ (rd_T66 l (i : Int)).f1 ≤ a - 1) ∧ (0 ≤ (rd_T66 l (i : Int)).f2 ∧ (rd_T66 l (i : Int)).f2 < (rd_T66 l (i : Int)).f3 ∧ (rd_T66 l (i : Int)).f3 ≤ b)) ∧ ((l.take i).any (impl_TrainOk.l3 (rd_T66 l (i : Int)))) = false := by
    intro i
    unfold impl_TrainOk.l1
    simp only [Bool.and_eq_true, decide_eq_true_eq, Bool.not_eq_true']
    constructor
    · intro h; exact ⟨⟨h.1.1.1, h.1.1.2, h.1.2⟩, h.2⟩
    · intro h; exact ⟨⟨⟨h.1.1, h.1.2.1⟩, h.1.2.2⟩, h.2⟩
  have parts2 : ∀ i, sOk a b l i = true ↔ (0 < (rd_T66 l (i : Int)).f0 ∧ (i = 0 ∨ (rd_T66 l ((i - 1 : Nat) : Int)).f0 < (rd_T66 l (i : Int)).f0) ∧ (0 ≤ (rd_T66 l (i : Int)).f1 ∧ (rd_T66 l (i : Int)).f1 ≤ a - 1) ∧ (1 ≤ (rd_T66 l (i : Int)).f3 ∧ (rd_T66 l (i : Int)).f3 ≤ b) ∧ (0 ≤ (rd_T66 l (i : Int)).f2 ∧ (rd_T66 l (i : Int)).f2 ≤ (rd_T66 l (i : Int)).f3 - 1)) ∧ ((l.take i).any (impl_TrainOk.l3 (rd_T66 l (i : Int)))) = false := by
    intro i
    unfold sOk chk
    simp only [Bool.and_eq_true, Bool.or_eq_true, decide_eq_true_eq, Bool.not_eq_true', inB_iff]
    constructor
    · intro h; exact ⟨⟨h.1.1.1.1.1, h.1.1.1.1.2, h.1.1.1.2, h.1.1.2, h.1.2⟩, h.2⟩
    · intro h; exact ⟨⟨⟨⟨⟨h.1.1, h.1.2.1⟩, h.1.2.2.1⟩, h.1.2.2.2.1⟩, h.1.2.2.2.2⟩, h.2⟩
  intro n
  induction n with
  | zero => exact ⟨fun _ i h => by omega, fun _ i h => by omega⟩
  | succ n ih =>
    constructor
    · intro h
      have hs := ih.1 (fun i hi => h i (by omega))
      intro i hi
      by_cases e : i = n
      · subst e
        have h1 := (parts i).1 (h i hi)
        refine (parts2 i).2 ⟨?_, h1.2⟩
        by_cases e0 : i = 0
        · rw [if_pos e0] at h1
          refine ⟨by omega, .inl e0, by omega, by omega, by omega⟩
        · rw [if_neg e0] at h1
          have h2 := ((parts2 (i - 1)).1 (hs (i - 1) (by omega))).1.1
          refine ⟨by omega, .inr h1.1.1, by omega, by omega, by omega⟩
      · exact hs i (by omega)
    · intro h
      have hs := ih.2 (fun i hi => h i (by omega))
      intro i hi
      by_cases e : i = n
      · subst e
        have h1 := (parts2 i).1 (h i hi)
        refine (parts i).2 ⟨⟨?_, by omega, by omega⟩, h1.2⟩
        by_cases e0 : i = 0
        · rw [if_pos e0]
          exact h1.1.1
        · rw [if_neg e0]
          exact h1.1.2.1.resolve_left e0
      · exact hs i (by omega)
theorem trains_same (a b : Int) (l : List S66) : impl_TrainOk.l0 a b l = trainV a b l := by
  unfold impl_TrainOk.l0 trainV
  have e1 : decide (1 ≤ a ∧ a ≤ 60) = inB a 1 60 := by rw [Bool.eq_iff_iff, decide_eq_true_eq, inB_iff]
  have e2 : decide (1 ≤ b ∧ b ≤ 11) = inB b 1 11 := by rw [Bool.eq_iff_iff, decide_eq_true_eq, inB_iff]
  have e3 : (List.range l.length).all (impl_TrainOk.l1 a b l) = (List.range l.length).all (sOk a b l) := by
    rw [Bool.eq_iff_iff, List.all_eq_true, List.all_eq_true]
    simp only [List.mem_range]
    exact ok_same a b l l.length
  rw [e1, e2, e3]


def rideB (b x y : Int) : Bool := decide (0 ≤ x ∧ x < y ∧ y ≤ b)
theorem ride_f (a b : Int) (l : List S66) (on off : Int) : impl_Train_ride.f a b l on off = some (rideB b on off) := by
  unfold impl_Train_ride.f rideB
  by_cases h : 0 ≤ on
  · rw [if_pos h]
    by_cases h2 : on < off
    · rw [if_pos h2]; simp [h, h2]
    · rw [if_neg h2]; simp [h2]
  · rw [if_neg h]; simp [h]
theorem train_parts {a b : Int} {l : List S66} (h : trainV a b l = true) : (1 ≤ a ∧ a ≤ 60) ∧ (1 ≤ b ∧ b ≤ 11) ∧ l.length ≤ 200 ∧ ∀ i, i < l.length → 1 ≤ (rd_T66 l (i : Int)).f3 ∧ (rd_T66 l (i : Int)).f3 ≤ b := by
  unfold trainV at h
  simp only [Bool.and_eq_true, inB_iff, decide_eq_true_eq, List.all_eq_true, List.mem_range] at h
  refine ⟨h.1.1.1, h.1.1.2, h.1.2, fun i hi => ?_⟩
  have := h.2 i hi
  unfold sOk chk at this
  simp only [Bool.and_eq_true, inB_iff] at this
  exact this.1.1.2
theorem spec_asked (a b : Int) (l : List S66) (x y : Int) (h : l.length ≤ 1048576) : Ev (fun k => spec_l14Asked.f k a b l x y) (trainV a b l && rideB b x y) := by
  unfold spec_l14Asked.f
  refine Ev.bind (spec_train a b l h) ?_
  cases ht : trainV a b l
  · simpa using Ev.now _
  · have hb := (train_parts ht).2.1
    simp only [if_true, l01In, Option.bind_some, Bool.true_and]
    cases hy : inB y 1 b
    · have : rideB b x y = false := by
        unfold rideB
        rw [decide_eq_false_iff_not]
        intro hh
        have := inB_iff.2 (show 1 ≤ y ∧ y ≤ b by omega)
        rw [hy] at this
        cases this
      rw [this]
      simpa using Ev.now _
    · have hy2 := inB_iff.1 hy
      rw [w64 (by omega) (by omega)]
      have : inB x 0 (y - 1) = rideB b x y := by
        rw [Bool.eq_iff_iff, inB_iff]
        unfold rideB
        rw [decide_eq_true_eq]
        omega
      rw [this]
      simpa using Ev.now _
theorem spec_one (a b : Int) (l : List S66) (h : trainV a b l = true) (s p : Nat) : Ev (fun k => spec_l14Free.f k a b l s p) (!(l.any (impl_TrainOk.l4 s p))) := by
  have hp := train_parts h
  have key : ∀ i, i ≤ l.length → Ev (fun k => spec_l14Free.l0 k s p (i : Int) a b l) (!((l.drop i).any (impl_TrainOk.l4 s p))) := by
    refine down l.length ?_ (fun i hi ih => ?_)
    · rw [List.drop_of_length_le (Nat.le_refl _)]
      exact ev_some (fun k => by simp [spec_l14Free.l0])
    · have hw := w64s hi (by omega)
      have hf := hp.2.2.2 i hi
      rw [drop_getD z66 l i hi, List.any_cons]
      have e : l.getD i z66 = rd_T66 l (i : Int) := by simp [rd_T66]
      rw [e]
      obtain ⟨o, ho⟩ : ∃ o, rd_T66 l (i : Int) = o := ⟨_, rfl⟩
      rw [ho] at hf ⊢
      have f1 : (i : Int) < l.length := by clear hw; omega
      have f2 : (0 : Int) ≤ i := by clear hw; omega
      have hv : wrap64 (o.f3 - 1) = o.f3 - 1 := w64 (by clear hw; omega) (by clear hw; omega)
      by_cases c1 : o.f1 = (s : Int)
      · by_cases c2 : inB (p : Int) o.f2 (o.f3 - 1) = true
        · have hc := inB_iff.1 c2
          have : impl_TrainOk.l4 s p o = true := by
            unfold impl_TrainOk.l4
            simp only [Bool.and_eq_true, decide_eq_true_eq]
            refine ⟨⟨c1, hc.1⟩, by clear hw hv; omega⟩
          rw [this]
          simp only [Bool.true_or, Bool.not_true]
          exact ev_some (fun k => by simp only [spec_l14Free.l0, if_pos f1, if_pos f2, ho, if_pos c1, l01In, hv, Option.bind_some, c2, if_true])
        · have : impl_TrainOk.l4 s p o = false := by
            unfold impl_TrainOk.l4
            rw [Bool.not_eq_true] at c2
            rw [Bool.eq_false_iff]
            intro hh
            simp only [Bool.and_eq_true, decide_eq_true_eq] at hh
            have := inB_iff.2 (show o.f2 ≤ (p : Int) ∧ (p : Int) ≤ o.f3 - 1 by clear hw hv; omega)
            rw [c2] at this
            cases this
          rw [this, Bool.false_or]
          exact ev_at ih (fun k => by simp only [spec_l14Free.l0, if_pos f1, if_pos f2, ho, if_pos c1, l01In, hv, Option.bind_some, c2, Bool.false_eq_true, if_false, hw])
      · have : impl_TrainOk.l4 s p o = false := by
          unfold impl_TrainOk.l4
          rw [decide_eq_false c1]
          rfl
        rw [this, Bool.false_or]
        exact ev_at ih (fun k => by simp only [spec_l14Free.l0, if_pos f1, if_pos f2, ho, if_neg c1, hw])
  exact key 0 (Nat.zero_le _)


def freeV (a b : Int) (l : List S66) (x y : Int) : List Int := if trainV a b l && rideB b x y then impl_Train_freeSeats.l1 l a.toNat x.toNat y.toNat else []
theorem free_snoc (l : List S66) (n on off : Nat) : impl_Train_freeSeats.l1 l (n + 1) on off = if impl_Train_freeSeats.l0 l on off n = true then impl_Train_freeSeats.l1 l n on off else impl_Train_freeSeats.l1 l n on off ++ [(n : Int)] := by
  unfold impl_Train_freeSeats.l1
  rw [List.range_succ, List.filter_append, List.map_append]
  cases h : impl_Train_freeSeats.l0 l on off n <;> simp [h]
theorem free_len (l : List S66) (n on off : Nat) : (impl_Train_freeSeats.l1 l n on off).length ≤ n := by
  unfold impl_Train_freeSeats.l1
  rw [List.length_map]
  exact Nat.le_trans (List.length_filter_le _ _) (by simp)
theorem spec_pieces (a b : Int) (l : List S66) (h : trainV a b l = true) (x y s : Nat) (hs : s < 1000) (hy : y ≤ 11) (acc r : List Int) (hacc : acc.length ≤ 1000)
    (hr : Ev (fun k => spec_FreeSeats.l0 k x y (if impl_Train_freeSeats.l0 l x y s = true then acc else acc ++ [(s : Int)]) ((s + 1 : Nat) : Int) a b l) r) :
    ∀ p, p ≤ y → ∀ fl : Bool, (fl && !((List.range' p (y - p)).any fun q => l.any (impl_TrainOk.l4 s q))) = !(impl_Train_freeSeats.l0 l x y s) → Ev (fun k => spec_FreeSeats.l1 k x y acc s fl p a b l) r := by
  have hw : wrap64 ((s : Int) + 1) = ((s + 1 : Nat) : Int) := w64s (show s < s + 1 by omega) (by omega)
  refine down y (fun fl hfl => ?_) (fun p hp ih fl hfl => ?_)
  · rw [Nat.sub_self, List.range'_zero, List.any_nil, Bool.not_false, Bool.and_true] at hfl
    have f1 : ¬ ((y : Int) < y) := Int.lt_irrefl _
    have f2 : acc.length < 17592186044416 := by clear hw; omega
    refine ev_at hr (fun k => ?_)
    rw [hfl]
    simp only [spec_FreeSeats.l1, if_neg f1, hw, if_pos f2]
    cases impl_Train_freeSeats.l0 l x y s <;> rfl
  · have hwp : wrap64 ((p : Int) + 1) = ((p + 1 : Nat) : Int) := w64s (show p < p + 1 by clear hw; omega) (by clear hw; omega)
    have f1 : (p : Int) < y := by clear hw hwp; omega
    have e : List.range' p (y - p) = p :: List.range' (p + 1) (y - (p + 1)) := by
      rw [show y - p = (y - (p + 1)) + 1 by clear hw hwp; omega, List.range'_succ]
    rw [e, List.any_cons] at hfl
    refine ev_at (f := fun k => (spec_l14Free.f k a b l s p).bind fun t => if t = true then spec_FreeSeats.l1 k x y acc s fl ((p + 1 : Nat) : Int) a b l else spec_FreeSeats.l1 k x y acc s false ((p + 1 : Nat) : Int) a b l) ?_ (fun k => by simp only [spec_FreeSeats.l1, if_pos f1, hwp])
    refine Ev.bind (spec_one a b l h s p) ?_
    cases hc : l.any (impl_TrainOk.l4 s p)
    · rw [hc, Bool.false_or] at hfl
      simp only [Bool.not_false, if_true]
      exact ih fl hfl
    · rw [hc, Bool.true_or, Bool.not_true, Bool.and_false] at hfl
      simp only [Bool.not_true, Bool.false_eq_true, if_false]
      exact ih false (by rw [Bool.false_and]; exact hfl)
theorem spec_free (a b : Int) (l : List S66) (x y : Int) (h : l.length ≤ 1048576) : Ev (fun k => spec_FreeSeats.f k a b l x y) (freeV a b l x y) := by
  unfold spec_FreeSeats.f freeV
  refine Ev.bind (spec_asked a b l x y h) ?_
  cases hc : (trainV a b l && rideB b x y)
  · simpa using Ev.now _
  · simp only [if_true]
    rw [Bool.and_eq_true] at hc
    obtain ⟨ht, hr⟩ := hc
    obtain ⟨r0, r1, r2⟩ := of_decide_eq_true hr
    have hp := train_parts ht
    obtain ⟨n, rfl⟩ : ∃ m : Nat, a = (m : Int) := ⟨a.toNat, by omega⟩
    obtain ⟨on, rfl⟩ : ∃ m : Nat, x = (m : Int) := ⟨x.toNat, by omega⟩
    obtain ⟨off, rfl⟩ : ∃ m : Nat, y = (m : Int) := ⟨y.toNat, by omega⟩
    simp only [Int.toNat_natCast]
    have key : ∀ s, s ≤ n → Ev (fun k => spec_FreeSeats.l0 k on off (impl_Train_freeSeats.l1 l s on off) (s : Int) (n : Int) b l) (impl_Train_freeSeats.l1 l n on off) := by
      refine down n (ev_some (fun k => by simp [spec_FreeSeats.l0])) (fun s hs ih => ?_)
      rw [free_snoc] at ih
      have := spec_pieces (n : Int) b l ht on off s (by omega) (by omega) _ _ (Nat.le_trans (free_len l s on off) (by omega)) ih on (by omega) true (by unfold impl_Train_freeSeats.l0; rw [Bool.true_and])
      exact ev_at this (fun k => by simp [spec_FreeSeats.l0, show (s : Int) < n by omega])
    exact key 0 (Nat.zero_le _)



theorem impl_free (a b : Int) (l : List S66) (x y : Int) : impl_FreeSeats.f a b l x y = some (freeV a b l x y) := by
  unfold impl_FreeSeats.f impl_TrainOk.f freeV
  rw [trains_same]
  simp only [Option.bind_some, ride_f]
  cases ht : trainV a b l
  · rfl
  · cases hr : rideB b x y
    · rfl
    · have h := of_decide_eq_true hr
      simp only [if_true, Bool.and_self]
      unfold impl_Train_freeSeats.f
      rw [trains_same, if_pos ⟨ht, h⟩]
      rfl


/-- How far down, and how far up, a seat is free. -/
def holeLo (l : List S66) (s : Nat) : Nat → Nat
  | 0 => 0
  | k + 1 => if l.any (impl_TrainOk.l4 s k) = true then k + 1 else holeLo l s k
def holeHi (l : List S66) (s P : Nat) : Nat → Nat
  | 0 => P
  | d + 1 => if l.any (impl_TrainOk.l4 s (P - (d + 1))) = true then P - (d + 1) else holeHi l s P d
theorem spec_hasV (l : List Int) (v : Int) (h : l.length ≤ 1000000) : Ev (fun k => spec_l01Has.f k l v) (l.any fun x => decide (x = v)) :=
  ev_any l (fun x => decide (x = v)) (fun k i => spec_l01Has.l0 k l v i) (fun k => by simp [spec_l01Has.l0])
    (fun k i hi hp => by
      have hp := of_decide_eq_true hp
      simp [spec_l01Has.l0, hi, rd, hp])
    (fun k i hi hp => by
      have hp := of_decide_eq_false hp
      simp [spec_l01Has.l0, hi, rd, hp, w64s hi (by omega)])
theorem free_in {a b : Int} {l : List S66} {x y v : Int} (h : ((freeV a b l x y).any fun z => decide (z = v)) = true) : trainV a b l = true ∧ (0 ≤ x ∧ x < y ∧ y ≤ b) ∧ 0 ≤ v ∧ v < a := by
  rw [List.any_eq_true] at h
  obtain ⟨z, hz, he⟩ := h
  have he := of_decide_eq_true he
  subst he
  unfold freeV at hz
  split at hz
  · rename_i hc
    rw [Bool.and_eq_true] at hc
    refine ⟨hc.1, of_decide_eq_true hc.2, ?_⟩
    unfold impl_Train_freeSeats.l1 at hz
    obtain ⟨s, hs, rfl⟩ := List.mem_map.1 hz
    have := List.mem_range.1 (List.mem_filter.1 hs).1
    omega
  · simp at hz
theorem spec_hole_up (a : Int) (P : Nat) (l : List S66) (h : trainV a P l = true) (s m : Nat) (hm : m ≤ 11) : ∀ q, q ≤ P → Ev (fun k => spec_Hole.l1 k s m (q : Int) a P l) ((holeHi l s P (P - q) : Int) - (m : Int)) := by
  have hp := (train_parts h).2.1
  refine down P ?_ (fun q hq ih => ?_)
  · refine ev_some (fun k => ?_)
    simp only [spec_Hole.l1, if_neg (Int.lt_irrefl _), Nat.sub_self, holeHi]
    rw [w64 (by omega) (by omega)]
  · have f1 : (q : Int) < P := by omega
    have hw : wrap64 ((q : Int) + 1) = ((q + 1 : Nat) : Int) := w64s (show q < q + 1 by omega) (by omega)
    obtain ⟨d, hd⟩ : ∃ d, P - q = d + 1 := ⟨P - q - 1, by clear hw; omega⟩
    have e1 : P - (d + 1) = q := by clear hw; omega
    have e2 : P - (q + 1) = d := by clear hw; omega
    rw [e2] at ih
    rw [hd, holeHi, e1]
    refine ev_at (f := fun k => (spec_l14Free.f k a P l s q).bind fun t => if t = true then spec_Hole.l1 k s m ((q + 1 : Nat) : Int) a P l else some (wrap64 ((q : Int) - m))) ?_ (fun k => by simp only [spec_Hole.l1, if_pos f1, hw])
    refine Ev.bind (spec_one a P l h s q) ?_
    cases hc : l.any (impl_TrainOk.l4 s q)
    · simpa using ih
    · rw [w64 (by clear hw; omega) (by clear hw; omega)]
      simpa using Ev.now _
theorem spec_hole_down (a : Int) (P : Nat) (l : List S66) (h : trainV a P l = true) (s off : Nat) (ho : off ≤ P) : ∀ m : Nat, m ≤ 11 → Ev (fun k => spec_Hole.l0 k s m off a P l) ((holeHi l s P (P - off) : Int) - (holeLo l s m : Int)) := by
  intro m
  induction m with
  | zero =>
    intro _
    have := spec_hole_up a P l h s 0 (by omega) off ho
    refine ev_at (f := fun k => spec_Hole.j1 k s 0 off a P l) ?_ (fun k => by simp [spec_Hole.l0])
    rw [holeLo]
    exact ev_at this (fun k => by simp [spec_Hole.j1])
  | succ m ih =>
    intro hm
    have hw : wrap64 (((m + 1 : Nat) : Int) - 1) = (m : Int) := by rw [w64 (by omega) (by omega)]; omega
    have f1 : ((m + 1 : Nat) : Int) > 0 := by clear hw; omega
    rw [holeLo]
    refine ev_at (f := fun k => (spec_l14Free.f k a P l s m).bind fun t => if t = true then spec_Hole.l0 k s m off a P l else spec_Hole.j1 k s ((m + 1 : Nat) : Int) off a P l) ?_ (fun k => by simp only [spec_Hole.l0, if_pos f1, hw])
    refine Ev.bind (spec_one a P l h s m) ?_
    cases hc : l.any (impl_TrainOk.l4 s m)
    · simpa using ih (by clear hw; omega)
    · have := spec_hole_up a P l h s (m + 1) (by clear hw; omega) off ho
      simp only [Bool.not_true, Bool.false_eq_true, if_false, if_true]
      exact ev_at this (fun k => by simp [spec_Hole.j1])
def holeV (a b : Int) (l : List S66) (v x y : Int) : Int :=
  if ((freeV a b l x y).any fun z => decide (z = v)) = true then (holeHi l v.toNat b.toNat (b.toNat - y.toNat) : Int) - (holeLo l v.toNat x.toNat : Int) else 0
theorem free_short (a b : Int) (l : List S66) (x y : Int) : (freeV a b l x y).length ≤ 60 := by
  unfold freeV
  split
  · rename_i hc
    rw [Bool.and_eq_true] at hc
    have := (train_parts hc.1).1
    have := free_len l a.toNat x.toNat y.toNat
    omega
  · simp
theorem spec_holeV (a b : Int) (l : List S66) (v x y : Int) (h : l.length ≤ 1048576) : Ev (fun k => spec_Hole.f k a b l v x y) (holeV a b l v x y) := by
  unfold spec_Hole.f holeV
  have hs := free_short a b l x y
  refine Ev.bind (spec_free a b l x y h) (Ev.bind (spec_hasV _ v (by omega)) ?_)
  split
  · rename_i hin
    obtain ⟨ht, hr, h0, h1⟩ := free_in hin
    have hp := train_parts ht
    obtain ⟨P, rfl⟩ : ∃ m : Nat, b = (m : Int) := ⟨b.toNat, by omega⟩
    obtain ⟨s, rfl⟩ : ∃ m : Nat, v = (m : Int) := ⟨v.toNat, by omega⟩
    obtain ⟨on, rfl⟩ : ∃ m : Nat, x = (m : Int) := ⟨x.toNat, by omega⟩
    obtain ⟨off, rfl⟩ : ∃ m : Nat, y = (m : Int) := ⟨y.toNat, by omega⟩
    simp only [Int.toNat_natCast]
    exact spec_hole_down a P l ht s off (by omega) on (by omega)
  · exact Ev.now _


theorem lo_same (l : List S66) (s : Nat) : ∀ k, impl_Train_hole.l1 l s k = holeLo l s k
  | 0 => rfl
  | k + 1 => by rw [impl_Train_hole.l1, holeLo, lo_same l s k]
theorem hi_same (l : List S66) (s P : Nat) : ∀ k, impl_Train_hole.l2 l s P k = holeHi l s P k
  | 0 => rfl
  | k + 1 => by rw [impl_Train_hole.l2, holeHi, hi_same l s P k]
theorem impl_hasV (l : List Int) (v : Int) (h : l.length ≤ 1000000) : Ev (fun k => impl_has.f k l v) (l.any fun x => decide (x = v)) :=
  ev_any l (fun x => decide (x = v)) (fun k i => impl_has.l0 k v l l.length i) (fun k => by simp [impl_has.l0])
    (fun k i hi hp => by
      have hp := of_decide_eq_true hp
      simp [impl_has.l0, hi, rd, hp])
    (fun k i hi hp => by
      have hp := of_decide_eq_false hp
      simp [impl_has.l0, hi, rd, hp, w64s hi (by omega)])
theorem impl_holeV (a b : Int) (l : List S66) (v x y : Int) : Ev (fun k => impl_Hole.f k a b l v x y) (holeV a b l v x y) := by
  unfold impl_Hole.f holeV
  have hs := free_short a b l x y
  rw [impl_free]
  simp only [Option.bind_some]
  refine Ev.bind (impl_hasV _ v (by omega)) ?_
  split
  · rename_i hin
    obtain ⟨ht, hr, h0, h1⟩ := free_in hin
    unfold impl_Train_hole.f
    simp only [lo_same, hi_same]
    rw [trains_same, if_pos ⟨ht, ⟨h0, h1⟩, hr.1, by omega, by omega, hr.2.2⟩]
    exact Ev.now _
  · exact Ev.now _


/-- A train that is right, as a sentence. -/
structure TrainP (a b : Int) (l : List S66) : Prop where
  seats : 1 ≤ a ∧ a ≤ 60
  pieces : 1 ≤ b ∧ b ≤ 11
  short : l.length ≤ 200
  each : ∀ o, o ∈ l → 0 < o.f0 ∧ (0 ≤ o.f1 ∧ o.f1 < a) ∧ 0 ≤ o.f2 ∧ o.f2 < o.f3 ∧ o.f3 ≤ b
  order : l.Pairwise fun p q => p.f0 < q.f0 ∧ impl_TrainOk.l3 q p = false
theorem rd_get (l : List S66) (i : Nat) (h : i < l.length) : rd_T66 l (i : Int) = l[i] := by simp [rd_T66, List.getD_eq_getElem?_getD, h]
theorem l1_iff {a b : Int} {l : List S66} {i : Nat} (h : i < l.length) : impl_TrainOk.l1 a b l i = true ↔
    (if i = 0 then 0 else (rd_T66 l ((i - 1 : Nat) : Int)).f0) < (l[i]).f0 ∧ (0 ≤ (l[i]).f1 ∧ (l[i]).f1 < a) ∧ (0 ≤ (l[i]).f2 ∧ (l[i]).f2 < (l[i]).f3 ∧ (l[i]).f3 ≤ b) ∧ ∀ k, (hk : k < i) → impl_TrainOk.l3 l[i] (l[k]'(by omega)) = false := by
  unfold impl_TrainOk.l1
  simp only [Bool.and_eq_true, decide_eq_true_eq, Bool.not_eq_true', rd_get l i h, List.any_eq_false, Bool.not_eq_true]
  constructor
  · rintro ⟨⟨⟨h1, h2⟩, h3⟩, h4⟩
    refine ⟨h1, ⟨h2.1, by omega⟩, h3, fun k hk => h4 _ ?_⟩
    rw [List.mem_take_iff_getElem]
    exact ⟨k, by omega, rfl⟩
  · rintro ⟨h1, h2, h3, h4⟩
    refine ⟨⟨⟨h1, ⟨h2.1, by omega⟩⟩, h3⟩, fun o ho => ?_⟩
    rw [List.mem_take_iff_getElem] at ho
    obtain ⟨k, hk, rfl⟩ := ho
    exact h4 k (by omega)
theorem train_iff (a b : Int) (l : List S66) : trainV a b l = true ↔ TrainP a b l := by
  rw [← trains_same]
  unfold impl_TrainOk.l0
  simp only [Bool.and_eq_true, decide_eq_true_eq, List.all_eq_true, List.mem_range]
  constructor
  · rintro ⟨⟨⟨h1, h2⟩, h3⟩, h4⟩
    have q : ∀ i, (hi : i < l.length) → _ := fun i hi => (l1_iff hi).1 (h4 i hi)
    have asc : ∀ d i, (hj : i + d + 1 < l.length) → (l[i]'(by omega)).f0 < (l[i + d + 1]).f0 := by
      intro d
      induction d with
      | zero =>
        intro i hj
        have := (q (i + 1) hj).1
        rw [if_neg (by omega), show i + 1 - 1 = i by omega, rd_get l i (by omega)] at this
        exact this
      | succ d ih =>
        intro i hj
        have := (q (i + d + 1 + 1) hj).1
        rw [if_neg (by omega), show i + d + 1 + 1 - 1 = i + d + 1 by omega, rd_get l (i + d + 1) (by omega)] at this
        exact Int.lt_trans (ih i (by omega)) this
    have pos : ∀ i, (hi : i < l.length) → 0 < (l[i]).f0 := by
      intro i hi
      have h0 := (q 0 (by omega)).1
      rw [if_pos rfl] at h0
      by_cases e : i = 0
      · subst e; exact h0
      · have := asc (i - 1) 0 (by omega)
        simp only [show 0 + (i - 1) + 1 = i by omega] at this
        omega
    refine ⟨h1, h2, h3, fun o ho => ?_, ?_⟩
    · obtain ⟨i, hi, rfl⟩ := List.mem_iff_getElem.1 ho
      exact ⟨pos i hi, (q i hi).2.1, (q i hi).2.2.1⟩
    · rw [List.pairwise_iff_getElem]
      intro i j hi hj hij
      refine ⟨?_, (q j hj).2.2.2 i hij⟩
      have := asc (j - i - 1) i (by omega)
      simp only [show i + (j - i - 1) + 1 = j by omega] at this
      exact this
  · intro h
    refine ⟨⟨⟨h.seats, h.pieces⟩, h.short⟩, fun i hi => (l1_iff hi).2 ?_⟩
    have e := h.each l[i] (List.getElem_mem hi)
    have o := List.pairwise_iff_getElem.1 h.order
    refine ⟨?_, e.2.1, e.2.2, fun k hk => (o k i (by omega) hi hk).2⟩
    by_cases z : i = 0
    · rw [if_pos z]; exact e.1
    · rw [if_neg z, rd_get l (i - 1) (by omega)]
      exact (o (i - 1) i (by omega) hi (by omega)).1
theorem clash_comm (p q : S66) : impl_TrainOk.l3 p q = impl_TrainOk.l3 q p := by
  unfold impl_TrainOk.l3
  rw [Bool.eq_iff_iff]
  simp only [Bool.and_eq_true, decide_eq_true_eq]
  omega
/-- Without a booking. -/
def delV (l : List S66) (id : Int) : List S66 := l.filter fun o => !decide (o.f0 = id)
/-- With a booking put in by its number. -/
def insV (l : List S66) (y : S66) : List S66 := (l.filter fun o => decide (o.f0 < y.f0)) ++ y :: l.filter fun o => decide (y.f0 < o.f0)
theorem TrainP.del {a b : Int} {l : List S66} (h : TrainP a b l) (id : Int) : TrainP a b (delV l id) :=
  ⟨h.seats, h.pieces, Nat.le_trans (List.length_filter_le _ _) h.short, fun o ho => h.each o (List.mem_filter.1 ho).1, h.order.filter _⟩
theorem ins_length (l : List S66) (y : S66) : (insV l y).length ≤ l.length + 1 := by
  unfold insV
  rw [List.length_append, List.length_cons]
  induction l with
  | nil => simp
  | cons o t ih =>
    rw [List.filter_cons, List.filter_cons]
    by_cases h1 : o.f0 < y.f0
    · rw [if_pos (decide_eq_true h1), if_neg (by simp; omega)]
      simp only [List.length_cons]; omega
    · rw [if_neg (by simpa using h1)]
      split <;> simp only [List.length_cons] <;> omega
theorem TrainP.ins {a b : Int} {l : List S66} (h : TrainP a b l) (y : S66) (hl : l.length < 200) (h0 : 0 < y.f0) (h1 : 0 ≤ y.f1 ∧ y.f1 < a) (h2 : 0 ≤ y.f2 ∧ y.f2 < y.f3 ∧ y.f3 ≤ b) (hn : ∀ o, o ∈ l → impl_TrainOk.l3 y o = false) :
    TrainP a b (insV l y) := by
  refine ⟨h.seats, h.pieces, by have := ins_length l y; omega, fun o ho => ?_, ?_⟩
  · unfold insV at ho
    rcases List.mem_append.1 ho with ho | ho
    · exact h.each o (List.mem_filter.1 ho).1
    · rcases List.mem_cons.1 ho with rfl | ho
      · exact ⟨h0, h1, h2⟩
      · exact h.each o (List.mem_filter.1 ho).1
  · unfold insV
    rw [List.pairwise_append, List.pairwise_cons]
    refine ⟨h.order.filter _, ⟨fun o ho => ?_, h.order.filter _⟩, fun p hp q hq => ?_⟩
    · have := List.mem_filter.1 ho
      exact ⟨of_decide_eq_true this.2, by rw [clash_comm]; exact hn o this.1⟩
    · have hp' := List.mem_filter.1 hp
      have lp := of_decide_eq_true hp'.2
      rcases List.mem_cons.1 hq with rfl | hq
      · exact ⟨lp, hn p hp'.1⟩
      · have hq' := List.mem_filter.1 hq
        have lq := of_decide_eq_true hq'.2
        refine ⟨by omega, ?_⟩
        obtain ⟨i, hi, rfl⟩ := List.mem_iff_getElem.1 hp'.1
        obtain ⟨j, hj, rfl⟩ := List.mem_iff_getElem.1 hq'.1
        have o := List.pairwise_iff_getElem.1 h.order
        rcases Nat.lt_trichotomy i j with c | c | c
        · exact (o i j hi hj c).2
        · subst c; omega
        · have := (o j i hj hi c).1; omega
/-- The bookings as the reference copies them: without one number, and with another one put in. -/
def heldV (id : Int) (y : S66) : List S66 → Bool → List S66
  | [], put => if put = true then [] else [y]
  | o :: t, put => (if put = false ∧ o.f0 > y.f0 then [y] else []) ++ (if o.f0 = id then [] else [o]) ++ heldV id y t (put || decide (o.f0 > y.f0))
theorem held_true (id : Int) (y : S66) (l : List S66) : heldV id y l true = delV l id := by
  induction l with
  | nil => rfl
  | cons o t ih =>
    unfold heldV delV
    rw [List.filter_cons]
    simp only [Bool.true_eq_false, false_and, if_false, List.nil_append, Bool.true_or, ih]
    by_cases h : o.f0 = id
    · simp [h, delV]
    · simp [h, delV]
theorem del_same {l : List S66} {id : Int} (h : ∀ o, o ∈ l → o.f0 ≠ id) : delV l id = l := by
  unfold delV
  rw [List.filter_eq_self]
  intro o ho
  simpa using h o ho
theorem held_ins (y : S66) : ∀ (l : List S66), (l.Pairwise fun p q => p.f0 < q.f0) → (∀ o, o ∈ l → o.f0 ≠ 0) → (∀ o, o ∈ l → o.f0 ≠ y.f0) → heldV 0 y l false = insV l y
  | [], _, _, _ => rfl
  | o :: t, hp, h0, hy => by
    unfold heldV insV
    rw [if_neg (h0 o List.mem_cons_self), List.filter_cons, List.filter_cons]
    have hpc := List.pairwise_cons.1 hp
    by_cases h : o.f0 > y.f0
    · have e1 : t.filter (fun x => decide (x.f0 < y.f0)) = [] := by
        rw [List.filter_eq_nil_iff]
        intro x hx
        have := hpc.1 x hx
        simp; omega
      have e2 : t.filter (fun x => decide (y.f0 < x.f0)) = t := by
        rw [List.filter_eq_self]
        intro x hx
        have := hpc.1 x hx
        simp; omega
      rw [if_pos ⟨rfl, h⟩, if_neg (by simp; omega), if_pos (by simpa using h), e1, e2, decide_eq_true h, Bool.or_true, held_true, del_same (fun x hx => h0 x (List.mem_cons_of_mem _ hx))]
      rfl
    · have := hy o List.mem_cons_self
      rw [if_neg (fun c => h c.2), if_pos (by simp; omega), if_neg (by simp; omega), decide_eq_false h, Bool.or_false, held_ins y t hpc.2 (fun x hx => h0 x (List.mem_cons_of_mem _ hx)) (fun x hx => hy x (List.mem_cons_of_mem _ hx))]
      rfl
theorem s66_eta (o : S66) : (⟨o.f0, o.f1, o.f2, o.f3⟩ : S66) = o := rfl
theorem spec_same (a b : Int) (l : List S66) (h : l.length ≤ 1048576) : Ev (fun k => spec_l14Same.f k a b l) (a, b, l) := by
  unfold spec_l14Same.f
  have key : ∀ i, i ≤ l.length → ∀ acc : List S66, acc = l.take i → Ev (fun k => spec_l14Same.l0 k (i : Int) a b l a b acc) (a, b, l) := by
    refine down l.length ?_ ?_
    · intro acc ha
      rw [List.take_length] at ha
      subst ha
      exact ev_some (fun k => by simp [spec_l14Same.l0])
    · intro i hi ih acc ha
      have f1 : (i : Int) < l.length := by omega
      have f2 : (0 : Int) ≤ i := by omega
      have f3 : acc.length < 4398046511104 := by rw [ha, List.length_take]; omega
      have hw := w64s hi (by omega)
      refine ev_at (ih (acc ++ [l.getD i z66]) (by rw [ha, take_getD z66 l i hi])) (fun k => ?_)
      simp only [spec_l14Same.l0, if_pos f1, if_pos f2, if_pos f3, hw, s66_eta, rd_T66, Int.toNat_natCast]
  simpa using key 0 (Nat.zero_le _) [] (by simp)
theorem spec_held (a b : Int) (l : List S66) (id : Int) (y : S66) (h : l.length ≤ 1048576) : Ev (fun k => spec_l14Held.f k a b l id y.f0 y.f1 y.f2 y.f3) (a, b, heldV id y l (y.f0 == 0)) := by
  unfold spec_l14Held.f
  have key : ∀ i, i ≤ l.length → ∀ (acc : List S66) (put : Bool), acc.length ≤ 2 * i → Ev (fun k => spec_l14Held.l0 k id put (i : Int) a b l y.f0 y.f1 y.f2 y.f3 a b acc) (a, b, acc ++ heldV id y (l.drop i) put) := by
    refine down l.length ?_ ?_
    · intro acc put ha
      rw [List.drop_length]
      have f3 : acc.length < 4398046511104 := by omega
      refine ev_some (fun k => ?_)
      unfold heldV
      cases put with
      | true => simp [spec_l14Held.l0]
      | false => simp [spec_l14Held.l0, f3]
    · intro i hi ih acc put ha
      have f1 : (i : Int) < l.length := by omega
      have f2 : (0 : Int) ≤ i := by omega
      have f3 : acc.length < 4398046511104 := by omega
      have f4 : (acc ++ [y]).length < 4398046511104 := by rw [List.length_append, List.length_singleton]; omega
      have hw := w64s hi (by omega)
      rw [drop_getD z66 l i hi]
      have ho : rd_T66 l (i : Int) = l.getD i z66 := by simp [rd_T66]
      obtain ⟨o, hoo⟩ : ∃ o, l.getD i z66 = o := ⟨_, rfl⟩
      rw [hoo] at ho ⊢
      by_cases c : put = false ∧ o.f0 > y.f0
      · obtain ⟨rfl, c⟩ := c
        have e : heldV id y (o :: l.drop (i + 1)) false = [y] ++ (if o.f0 = id then [] else [o]) ++ heldV id y (l.drop (i + 1)) true := by
          conv => lhs; unfold heldV
          rw [if_pos ⟨rfl, c⟩, decide_eq_true c, Bool.or_true]
        rw [e]
        by_cases d : o.f0 = id
        · rw [if_pos d, List.append_nil, ← List.append_assoc]
          refine ev_at (f := fun k => spec_l14Held.j1 k id false (i : Int) true a b l y.f0 y.f1 y.f2 y.f3 a b acc) (ev_at (ih (acc ++ [y]) true (by rw [List.length_append, List.length_singleton]; omega)) (fun k => ?_)) (fun k => ?_)
          · simp only [spec_l14Held.j1, if_true, if_pos f3, Option.bind_some, if_pos f2, if_pos f1, ho, if_pos d, hw]
          · simp only [spec_l14Held.l0, if_pos f1, Bool.false_eq_true, if_false, if_pos f2, ho, decide_eq_true c]
        · rw [if_neg d]
          rw [← List.append_assoc, ← List.append_assoc]
          refine ev_at (f := fun k => spec_l14Held.j1 k id false (i : Int) true a b l y.f0 y.f1 y.f2 y.f3 a b acc) (ev_at (ih (acc ++ [y] ++ [o]) true (by simp only [List.length_append, List.length_singleton]; omega)) (fun k => ?_)) (fun k => ?_)
          · simp only [spec_l14Held.j1, if_true, if_pos f3, Option.bind_some, if_pos f2, if_pos f1, ho, if_neg d, hw]
            rw [if_pos f4]
          · simp only [spec_l14Held.l0, if_pos f1, Bool.false_eq_true, if_false, if_pos f2, ho, decide_eq_true c]
      · have e : heldV id y (o :: l.drop (i + 1)) put = (if o.f0 = id then [] else [o]) ++ heldV id y (l.drop (i + 1)) put := by
          conv => lhs; unfold heldV
          rw [if_neg c]
          have : (put || decide (o.f0 > y.f0)) = put := by
            cases put with
            | true => rfl
            | false => simpa using fun h => c ⟨rfl, h⟩
          rw [this]; rfl
        rw [e]
        have e1 : ∀ k, spec_l14Held.l0 (k + 1) id put (i : Int) a b l y.f0 y.f1 y.f2 y.f3 a b acc = spec_l14Held.j1 k id put (i : Int) false a b l y.f0 y.f1 y.f2 y.f3 a b acc := fun k => by
          cases put with
          | true => simp only [spec_l14Held.l0, if_pos f1, if_true]
          | false =>
            have : ¬ o.f0 > y.f0 := fun h => c ⟨rfl, h⟩
            simp only [spec_l14Held.l0, if_pos f1, Bool.false_eq_true, if_false, if_pos f2, ho, decide_eq_false this]
        by_cases d : o.f0 = id
        · rw [if_pos d, List.nil_append]
          refine ev_at (ev_at (ih acc put (by omega)) (fun k => ?_)) e1
          simp only [spec_l14Held.j1, Bool.false_eq_true, if_false, if_pos f2, if_pos f1, ho, if_pos d, hw]
        · rw [if_neg d, ← List.append_assoc]
          refine ev_at (ev_at (ih (acc ++ [o]) put (by rw [List.length_append, List.length_singleton]; omega)) (fun k => ?_)) e1
          simp only [spec_l14Held.j1, Bool.false_eq_true, if_false, if_pos f2, if_pos f1, ho, if_neg d, hw, if_pos f3]
  have := key 0 (Nat.zero_le _) [] (y.f0 == 0) (by simp)
  simpa using this


theorem ev_then {α β : Type} {g : Nat → Option α} {r : α} (h : Ev g r) (F : α → β) : Ev (fun k => (g k).bind fun t => some (F t)) (F r) := Ev.bind h (Ev.now _)
def hasId (l : List S66) (id : Int) : Bool := l.any fun o => decide (o.f0 = id)
theorem hasId_iff {l : List S66} {id : Int} : hasId l id = true ↔ ∃ o, o ∈ l ∧ o.f0 = id := by
  unfold hasId
  rw [List.any_eq_true]
  constructor
  · rintro ⟨o, h, e⟩; exact ⟨o, h, of_decide_eq_true e⟩
  · rintro ⟨o, h, e⟩; exact ⟨o, h, decide_eq_true e⟩
theorem hasId_no {l : List S66} {id : Int} (h : hasId l id = false) : ∀ o, o ∈ l → o.f0 ≠ id := fun o ho e => by
  rw [hasId_iff.2 ⟨o, ho, e⟩] at h; cases h


def unbookV (a b : Int) (l : List S66) (id : Int) : List S66 × Bool := if trainV a b l = true then (delV l id, hasId l id) else (l, false)
theorem unbook_train {a b : Int} {l : List S66} (h : TrainP a b l) (id : Int) : TrainP a b (unbookV a b l id).1 := by
  unfold unbookV
  rw [if_pos ((train_iff a b l).2 h)]
  exact h.del id
theorem spec_unbook (a b : Int) (l : List S66) (id : Int) (h : l.length ≤ 1048576) : Ev (fun k => spec_Unbook.f k a b l id) (a, b, (unbookV a b l id).1, (unbookV a b l id).2) := by
  unfold spec_Unbook.f unbookV
  refine Ev.bind (spec_train a b l h) ?_
  by_cases ht : trainV a b l = true
  · rw [if_pos ht, ht]
    simp only [if_true]
    have key : ∀ i, i ≤ l.length → (∀ o, o ∈ l.take i → o.f0 ≠ id) → Ev (fun k => spec_Unbook.l0 k id (i : Int) a b l) (a, b, delV l id, hasId l id) := by
      refine down l.length ?_ ?_
      · intro hn
        rw [List.take_length] at hn
        have e : hasId l id = false := by
          cases hh : hasId l id with
          | false => rfl
          | true => obtain ⟨o, ho, e⟩ := hasId_iff.1 hh; exact absurd e (hn o ho)
        rw [del_same hn, e]
        refine ev_at (ev_then (spec_same a b l h) fun bt => (bt.1, bt.2.1, bt.2.2, false)) (fun k => ?_)
        simp only [spec_Unbook.l0, if_neg (Int.lt_irrefl _)]
      · intro i hi ih hn
        have f1 : (i : Int) < l.length := by omega
        have f2 : (0 : Int) ≤ i := by omega
        have hw := w64s hi (by omega)
        by_cases d : (rd_T66 l (i : Int)).f0 = id
        · have e : hasId l id = true := hasId_iff.2 ⟨l[i], List.getElem_mem hi, by rw [← rd_get l i hi]; exact d⟩
          rw [e]
          have hh := spec_held a b l id z66 h
          rw [show (z66.f0 == 0) = true from rfl, held_true] at hh
          refine ev_at (ev_then hh fun bt => (bt.1, bt.2.1, bt.2.2, true)) (fun k => ?_)
          simp only [spec_Unbook.l0, if_pos f1, if_pos f2, if_pos d]
          rfl
        · refine ev_at (ih ?_) (fun k => ?_)
          · intro o ho
            rw [List.take_succ_eq_append_getElem hi] at ho
            rcases List.mem_append.1 ho with ho | ho
            · exact hn o ho
            · rw [List.mem_singleton.1 ho, ← rd_get l i hi]; exact d
          · simp only [spec_Unbook.l0, if_pos f1, if_pos f2, if_neg d, hw]
    exact key 0 (Nat.zero_le _) (fun o ho => by simp at ho)
  · rw [if_neg ht, Bool.eq_false_iff.2 ht]
    simp only [Bool.false_eq_true, if_false]
    exact Ev.bind (spec_same a b l h) (Ev.now _)


/-- The seat whose hole is the least, the first of them. -/
def bestV (h : Int → Int) : List Int → Int → Int
  | [], best => best
  | s :: t, best => bestV h t (if best < 0 ∨ h s < h best then s else best)
theorem best_mem (h : Int → Int) : ∀ (fs : List Int) (best : Int), bestV h fs best = best ∨ bestV h fs best ∈ fs
  | [], best => .inl rfl
  | s :: t, best => by
    unfold bestV
    split
    · rcases best_mem h t s with e | e
      · right; rw [e]; exact List.mem_cons_self
      · right; exact List.mem_cons_of_mem _ e
    · rcases best_mem h t best with e | e
      · left; exact e
      · right; exact List.mem_cons_of_mem _ e
def bookOk (a b : Int) (l : List S66) (id x y : Int) : Bool := trainV a b l && rideB b x y && decide (0 < id) && decide (l.length < 200) && !(hasId l id)
def pickV (a b : Int) (l : List S66) (x y : Int) : Int := bestV (fun s => holeV a b l s x y) (freeV a b l x y) (-1)
def bookV (a b : Int) (l : List S66) (id x y : Int) : List S66 × Int :=
  if bookOk a b l id x y = true ∧ 0 ≤ pickV a b l x y then (insV l ⟨id, pickV a b l x y, x, y⟩, pickV a b l x y) else (l, -1)
theorem pick_free {a b : Int} {l : List S66} {x y : Int} (h : 0 ≤ pickV a b l x y) : pickV a b l x y ∈ freeV a b l x y := by
  unfold pickV at h ⊢
  rcases best_mem (fun s => holeV a b l s x y) (freeV a b l x y) (-1) with e | e
  · omega
  · exact e
theorem mem_free {a b : Int} {l : List S66} {x y s : Int} : s ∈ freeV a b l x y ↔ trainV a b l = true ∧ rideB b x y = true ∧ (0 ≤ s ∧ s < a) ∧ ∀ p : Nat, x ≤ p → (p : Int) < y → l.any (impl_TrainOk.l4 s.toNat p) = false := by
  unfold freeV
  by_cases hc : (trainV a b l && rideB b x y) = true
  · rw [if_pos hc]
    rw [Bool.and_eq_true] at hc
    have hr := of_decide_eq_true hc.2
    unfold impl_Train_freeSeats.l1
    rw [List.mem_map]
    constructor
    · rintro ⟨q, hq, rfl⟩
      have hq := List.mem_filter.1 hq
      have h1 := List.mem_range.1 hq.1
      refine ⟨hc.1, hc.2, ⟨by omega, by omega⟩, fun p hp1 hp2 => ?_⟩
      have h2 := hq.2
      simp only [Bool.not_eq_true', impl_Train_freeSeats.l0, List.any_eq_false, Bool.not_eq_true, List.mem_range'_1] at h2
      rw [Int.toNat_natCast, List.any_eq_false]
      intro o ho
      rw [Bool.not_eq_true]
      exact h2 p (by omega) o ho
    · rintro ⟨_, _, hs, hp⟩
      refine ⟨s.toNat, List.mem_filter.2 ⟨List.mem_range.2 (by omega), ?_⟩, by omega⟩
      simp only [Bool.not_eq_true', impl_Train_freeSeats.l0, List.any_eq_false, Bool.not_eq_true, List.mem_range'_1]
      intro p hp2 o ho
      have := hp p (by omega) (by omega)
      rw [List.any_eq_false] at this
      simpa using this o ho
  · rw [if_neg hc]
    constructor
    · intro h; cases h
    · rintro ⟨h1, h2, _⟩; exact absurd (by rw [h1, h2]; rfl) hc
theorem free_no_clash {a b : Int} {l : List S66} {x y s : Int} (h : s ∈ freeV a b l x y) (id : Int) : ∀ o, o ∈ l → impl_TrainOk.l3 ⟨id, s, x, y⟩ o = false := fun o ho => by
  obtain ⟨ht, hr, hs, hp⟩ := mem_free.1 h
  have hr := of_decide_eq_true hr
  have e := ((train_iff a b l).1 ht).each o ho
  cases hc : impl_TrainOk.l3 ⟨id, s, x, y⟩ o with
  | false => rfl
  | true =>
    unfold impl_TrainOk.l3 at hc
    simp only [Bool.and_eq_true, decide_eq_true_eq] at hc
    obtain ⟨p, hpp⟩ : ∃ p : Nat, (p : Int) = max o.f2 x := ⟨(max o.f2 x).toNat, by omega⟩
    have := hp p (by omega) (by omega)
    rw [List.any_eq_false] at this
    refine absurd ?_ (this o ho)
    unfold impl_TrainOk.l4
    simp only [Bool.and_eq_true, decide_eq_true_eq]
    omega
theorem book_train {a b : Int} {l : List S66} (h : TrainP a b l) (id x y : Int) : TrainP a b (bookV a b l id x y).1 := by
  unfold bookV
  split
  · rename_i hc
    obtain ⟨h1, h2⟩ := hc
    have hm := pick_free h2
    have hf := mem_free.1 hm
    unfold bookOk at h1
    simp only [Bool.and_eq_true, decide_eq_true_eq] at h1
    have hr := of_decide_eq_true hf.2.1
    exact h.ins _ h1.1.2 h1.1.1.2 hf.2.2.1 hr (free_no_clash hm id)
  · exact h
theorem TrainP.pos {a b : Int} {l : List S66} (h : TrainP a b l) : ∀ o, o ∈ l → o.f0 ≠ 0 := fun o ho => by have := (h.each o ho).1; omega
theorem spec_best (a b : Int) (l : List S66) (id x y : Int) (h : l.length ≤ 1048576) (fs : List Int) (hl : fs.length ≤ 1000) (R : Int → Int × Int × List S66 × Int) (hR : ∀ best, Ev (fun k => spec_Book.l1 k id x y fs best (fs.length : Int) a b l a b l) (R best)) :
    ∀ i, i ≤ fs.length → ∀ best : Int, Ev (fun k => spec_Book.l1 k id x y fs best (i : Int) a b l a b l) (R (bestV (fun s => holeV a b l s x y) (fs.drop i) best)) := by
  refine down fs.length ?_ ?_
  · intro best
    rw [List.drop_length]
    exact hR best
  · intro i hi ih best
    have f1 : (i : Int) < fs.length := by omega
    have f2 : (0 : Int) ≤ i := by omega
    have hw := w64s hi (by omega)
    rw [drop_getD 0 fs i hi]
    have e : rd fs (i : Int) = fs.getD i 0 := by simp [rd]
    obtain ⟨s, hs⟩ : ∃ s, fs.getD i 0 = s := ⟨_, rfl⟩
    rw [hs] at e ⊢
    unfold bestV
    by_cases c : best < 0
    · rw [if_pos (Or.inl c)]
      refine ev_at (ih s) (fun k => ?_)
      simp only [spec_Book.l1, if_pos f1, if_pos c, if_pos f2, e, hw]
    · refine ev_at (f := fun k => (spec_Hole.f k a b l s x y).bind fun t234 => (spec_Hole.f k a b l best x y).bind fun t235 => if t234 < t235 then spec_Book.l1 k id x y fs s ((i + 1 : Nat) : Int) a b l a b l else spec_Book.l1 k id x y fs best ((i + 1 : Nat) : Int) a b l a b l) ?_ (fun k => ?_)
      · refine Ev.bind (spec_holeV a b l s x y h) (Ev.bind (spec_holeV a b l best x y h) ?_)
        by_cases d : holeV a b l s x y < holeV a b l best x y
        · simp only [if_pos d, if_pos (Or.inr d : best < 0 ∨ _)]; exact ih s
        · simp only [if_neg d, if_neg (show ¬ (best < 0 ∨ holeV a b l s x y < holeV a b l best x y) by omega)]; exact ih best
      · simp only [spec_Book.l1, if_pos f1, if_neg c, if_pos f2, e, hw]
theorem spec_book (a b : Int) (l : List S66) (id x y : Int) (h : l.length ≤ 1048576) : Ev (fun k => spec_Book.f k a b l id x y) (a, b, (bookV a b l id x y).1, (bookV a b l id x y).2) := by
  unfold spec_Book.f
  have hh := spec_held a b l 0 z66 h
  rw [show (z66.f0 == 0) = true from rfl, held_true] at hh
  refine Ev.bind hh (Ev.bind (spec_asked a b l x y h) ?_)
  have same : ∀ m, Ev (fun k => spec_Book.j0 k id x y true a b l a b m) (a, b, l, -1) := fun m => by
    refine ev_at (ev_then (spec_same a b l h) fun bt => (bt.1, bt.2.1, bt.2.2, (-1 : Int))) (fun k => ?_)
    simp only [spec_Book.j0, if_true]
  cases ha : (trainV a b l && rideB b x y) with
  | false =>
    have hb : bookV a b l id x y = (l, -1) := by
      unfold bookV bookOk
      rw [ha]
      simp
    rw [hb]
    simpa using same _
  | true =>
    rw [Bool.and_eq_true] at ha
    have ht := (train_iff a b l).1 ha.1
    have hl := ht.short
    rw [del_same ht.pos]
    simp only [if_true]
    by_cases c1 : id ≤ 0
    · have hb : bookV a b l id x y = (l, -1) := by
        unfold bookV bookOk
        rw [decide_eq_false (show ¬ 0 < id by omega)]
        simp
      rw [hb]
      simp only [if_pos c1]
      exact same _
    · simp only [if_neg c1]
      by_cases c2 : (l.length : Int) ≥ 200
      · have hb : bookV a b l id x y = (l, -1) := by
          unfold bookV bookOk
          rw [decide_eq_false (show ¬ l.length < 200 by omega)]
          simp
        rw [hb]
        simp only [decide_eq_true c2]
        exact same _
      · simp only [decide_eq_false c2]
        have key : ∀ i, i ≤ l.length → (∀ o, o ∈ l.take i → o.f0 ≠ id) → Ev (fun k => spec_Book.l0 k id x y (i : Int) a b l a b l) (a, b, (bookV a b l id x y).1, (bookV a b l id x y).2) := by
          refine down l.length ?_ ?_
          · intro hn
            rw [List.take_length] at hn
            have e : hasId l id = false := by
              cases hh : hasId l id with
              | false => rfl
              | true => obtain ⟨o, ho, e⟩ := hasId_iff.1 hh; exact absurd e (hn o ho)
            have ok : bookOk a b l id x y = true := by
              unfold bookOk
              rw [ha.1, ha.2, e, decide_eq_true (show 0 < id by omega), decide_eq_true (show l.length < 200 by omega)]
              rfl
            have hs := free_short a b l x y
            refine ev_at (f := fun k => (spec_FreeSeats.f k a b l x y).bind fun t224 => spec_Book.l1 k id x y t224 (-1) 0 a b l a b l) (Ev.bind (spec_free a b l x y h) ?_) (fun k => by simp only [spec_Book.l0, if_neg (Int.lt_irrefl _)])
            have := spec_best a b l id x y h (freeV a b l x y) (by omega) (fun best => if 0 ≤ best then (a, b, insV l ⟨id, best, x, y⟩, best) else (a, b, l, -1)) (fun best => ?_) 0 (Nat.zero_le _) (-1)
            · rw [List.drop_zero] at this
              unfold bookV
              rw [show bestV (fun s => holeV a b l s x y) (freeV a b l x y) (-1) = pickV a b l x y from rfl] at this
              by_cases c : 0 ≤ pickV a b l x y
              · rw [if_pos ⟨ok, c⟩]; rw [if_pos c] at this; exact this
              · rw [if_neg (fun q => c q.2)]; rw [if_neg c] at this; exact this
            · by_cases c : best < 0
              · rw [if_neg (by omega)]
                refine ev_some (fun k => ?_)
                simp only [spec_Book.l1, if_neg (Int.lt_irrefl _), if_pos c]
              · rw [if_pos (by omega)]
                have hy := spec_held a b l 0 ⟨id, best, x, y⟩ h
                have e0 : ((⟨id, best, x, y⟩ : S66).f0 == 0) = false := by
                  show (id == 0) = false
                  simp; omega
                rw [e0, held_ins _ l (ht.order.imp fun q => q.1) ht.pos (fun o ho => hn o ho)] at hy
                refine ev_at (ev_then hy fun bt => (bt.1, bt.2.1, bt.2.2, best)) (fun k => ?_)
                simp only [spec_Book.l1, if_neg (Int.lt_irrefl _), if_neg c]
          · intro i hi ih hn
            have f1 : (i : Int) < l.length := by omega
            have f2 : (0 : Int) ≤ i := by omega
            have hw := w64s hi (by omega)
            by_cases d : (rd_T66 l (i : Int)).f0 = id
            · have e : hasId l id = true := hasId_iff.2 ⟨l[i], List.getElem_mem hi, by rw [← rd_get l i hi]; exact d⟩
              have hb : bookV a b l id x y = (l, -1) := by
                unfold bookV bookOk
                rw [e]
                simp
              rw [hb]
              refine ev_some (fun k => ?_)
              simp only [spec_Book.l0, if_pos f1, if_pos f2, if_pos d]
            · refine ev_at (ih ?_) (fun k => ?_)
              · intro o ho
                rw [List.take_succ_eq_append_getElem hi] at ho
                rcases List.mem_append.1 ho with ho | ho
                · exact hn o ho
                · rw [List.mem_singleton.1 ho, ← rd_get l i hi]; exact d
              · simp only [spec_Book.l0, if_pos f1, if_pos f2, if_neg d, hw]
        refine ev_at (key 0 (Nat.zero_le _) (fun o ho => by simp at ho)) (fun k => ?_)
        simp [spec_Book.j0]


/-- One sale. -/
def saleV (a b : Int) (l : List S66) (s : S56) : List S66 × Int :=
  if s.f0 = 0 then bookV a b l s.f1 s.f2 s.f3 else if s.f0 = 1 then ((unbookV a b l s.f1).1, if (unbookV a b l s.f1).2 = true then 0 else -1) else (l, -1)
def salesV (a b : Int) : List S56 → List S66 → List S66 × List Int
  | [], l => (l, [])
  | s :: t, l => ((salesV a b t (saleV a b l s).1).1, (saleV a b l s).2 :: (salesV a b t (saleV a b l s).1).2)
def playV (a b : Int) (l : List S66) (ss : List S56) : List S66 × List Int := if trainV a b l = true ∧ ss.length ≤ 200 then salesV a b ss l else (l, [])
theorem sale_train {a b : Int} {l : List S66} (h : TrainP a b l) (s : S56) : TrainP a b (saleV a b l s).1 := by
  unfold saleV
  split
  · exact book_train h _ _ _
  · split
    · exact unbook_train h _
    · exact h
theorem sales_train {a b : Int} : ∀ (ss : List S56) {l : List S66} (h : TrainP a b l), TrainP a b (salesV a b ss l).1
  | [], _, h => h
  | s :: t, _, h => sales_train t (sale_train h s)
theorem play_train {a b : Int} {l : List S66} (h : TrainP a b l) (ss : List S56) : TrainP a b (playV a b l ss).1 := by
  unfold playV
  split
  · exact sales_train ss h
  · exact h
theorem spec_play (a b : Int) (l : List S66) (ss : List S56) (h : l.length ≤ 1048576) : Ev (fun k => spec_PlaySales.f k a b l ss) (a, b, (playV a b l ss).1, (playV a b l ss).2) := by
  unfold spec_PlaySales.f playV
  refine Ev.bind (spec_train a b l h) ?_
  have same : Ev (fun k => spec_PlaySales.j0 k ss true a b l) (a, b, l, []) := by
    refine ev_at (ev_then (spec_same a b l h) fun bt => (bt.1, bt.2.1, bt.2.2, ([] : List Int))) (fun k => ?_)
    simp only [spec_PlaySales.j0, if_true]
  by_cases ht : trainV a b l = true
  · rw [ht]
    simp only [if_true]
    by_cases c : (ss.length : Int) > 200
    · rw [if_neg (by omega)]
      simp only [decide_eq_true c]
      exact same
    · rw [if_pos ⟨trivial, by omega⟩]
      simp only [decide_eq_false c]
      have key : ∀ i, i ≤ ss.length → ∀ (m : List S66) (acc : List Int), TrainP a b m → acc.length = i → Ev (fun k => spec_PlaySales.l0 k ss acc (i : Int) a b m) (a, b, (salesV a b (ss.drop i) m).1, acc ++ (salesV a b (ss.drop i) m).2) := by
        refine down ss.length ?_ ?_
        · intro m acc hm ha
          rw [List.drop_length]
          refine ev_some (fun k => ?_)
          simp [spec_PlaySales.l0, salesV]
        · intro i hi ih m acc hm ha
          have f1 : (i : Int) < ss.length := by omega
          have f2 : (0 : Int) ≤ i := by omega
          have f3 : acc.length < 17592186044416 := by omega
          have hw := w64s hi (by omega)
          have hml : m.length ≤ 1048576 := Nat.le_trans hm.short (by omega)
          rw [drop_getD z56 ss i hi]
          have e : rd_T56 ss (i : Int) = ss.getD i z56 := by simp [rd_T56]
          obtain ⟨s, hs⟩ : ∃ s, ss.getD i z56 = s := ⟨_, rfl⟩
          rw [hs] at e ⊢
          have fin : ∀ (m2 : List S66) (v : Int), TrainP a b m2 → Ev (fun k => spec_PlaySales.l0 k ss (acc ++ [v]) ((i + 1 : Nat) : Int) a b m2) (a, b, (salesV a b (ss.drop (i + 1)) m2).1, acc ++ v :: (salesV a b (ss.drop (i + 1)) m2).2) := fun m2 v h2 => by
            have := ih m2 (acc ++ [v]) h2 (by rw [List.length_append, List.length_singleton, ha])
            rwa [List.append_assoc, List.singleton_append] at this
          unfold salesV
          have ht2 := sale_train hm s
          by_cases k0 : s.f0 = 0
          · have es : saleV a b m s = bookV a b m s.f1 s.f2 s.f3 := by unfold saleV; rw [if_pos k0]
            rw [es] at ht2 ⊢
            refine ev_at (f := fun k => (spec_Book.f k a b m s.f1 s.f2 s.f3).bind fun bt => spec_PlaySales.j2 k ss acc (i : Int) bt.2.2.2 bt.1 bt.2.1 bt.2.2.1 s.f0 s.f1 s.f2 s.f3) (Ev.bind (spec_book a b m s.f1 s.f2 s.f3 hml) ?_) (fun k => by simp only [spec_PlaySales.l0, if_pos f1, if_pos f2, e, if_pos k0])
            refine ev_at (fin _ _ ht2) (fun k => ?_)
            simp only [spec_PlaySales.j2, if_neg (show ¬ s.f0 = 1 by omega), if_pos f3, hw]
          · have e1 : ∀ k, spec_PlaySales.l0 (k + 1) ss acc (i : Int) a b m = spec_PlaySales.j2 k ss acc (i : Int) (-1) a b m s.f0 s.f1 s.f2 s.f3 := fun k => by
              simp only [spec_PlaySales.l0, if_pos f1, if_pos f2, e, if_neg k0]
            by_cases k1 : s.f0 = 1
            · have es : saleV a b m s = ((unbookV a b m s.f1).1, if (unbookV a b m s.f1).2 = true then 0 else -1) := by unfold saleV; rw [if_neg k0, if_pos k1]
              rw [es] at ht2 ⊢
              refine ev_at ?_ e1
              refine ev_at (f := fun k => (spec_Unbook.f k a b m s.f1).bind fun bt262 => if bt262.2.2.2 = true then (if acc.length < 17592186044416 then spec_PlaySales.l0 k ss (acc ++ [0]) (wrap64 ((i : Int) + 1)) bt262.1 bt262.2.1 bt262.2.2.1 else none) else (if acc.length < 17592186044416 then spec_PlaySales.l0 k ss (acc ++ [-1]) (wrap64 ((i : Int) + 1)) bt262.1 bt262.2.1 bt262.2.2.1 else none)) (Ev.bind (spec_unbook a b m s.f1 hml) ?_) (fun k => by simp only [spec_PlaySales.j2, if_pos k1])
              simp only [if_pos f3, hw]
              by_cases hu : (unbookV a b m s.f1).2 = true
              · simp only [if_pos hu]; exact fin _ _ ht2
              · simp only [if_neg hu]; exact fin _ _ ht2
            · have es : saleV a b m s = (m, -1) := by unfold saleV; rw [if_neg k0, if_neg k1]
              rw [es] at ht2 ⊢
              refine ev_at (ev_at (fin _ _ ht2) (fun k => ?_)) e1
              simp only [spec_PlaySales.j2, if_neg k1, if_pos f3, hw]
      refine ev_at (f := fun k => (spec_l14Same.f k a b l).bind fun bt245 => spec_PlaySales.l0 k ss [] 0 bt245.1 bt245.2.1 bt245.2.2) (Ev.bind (spec_same a b l h) ?_) (fun k => by simp [spec_PlaySales.j0])
      have := key 0 (Nat.zero_le _) l [] ((train_iff a b l).1 ht) rfl
      simpa using this
  · rw [if_neg (fun q => ht q.1), Bool.eq_false_iff.2 ht]
    simp only [Bool.false_eq_true, if_false]
    exact same


theorem idx_has (l : List S66) (id : Int) : decide (0 ≤ impl_Unbook.l1 l id) = hasId l id := by
  unfold impl_Unbook.l1
  by_cases h : l.findIdx (fun o => o.f0 == id) < l.length
  · obtain ⟨o, ho, e⟩ := List.findIdx_lt_length.1 h
    rw [if_pos h, decide_eq_true (by omega), hasId_iff.2 ⟨o, ho, by simpa using e⟩]
  · rw [if_neg h, decide_eq_false (by decide)]
    cases hh : hasId l id with
    | false => rfl
    | true =>
      obtain ⟨o, ho, e⟩ := hasId_iff.1 hh
      exact absurd (List.findIdx_lt_length.2 ⟨o, ho, by simpa using e⟩) h


theorem rm_del (id : Int) : ∀ (l : List S66), (l.Pairwise fun p q => p.f0 < q.f0) → impl_Unbook.l0 l id = delV l id ∧ decide (0 ≤ impl_Unbook.l1 l id) = hasId l id
  | [], _ => ⟨rfl, rfl⟩
  | o :: t, hp => by
    have hpc := List.pairwise_cons.1 hp
    obtain ⟨ih1, ih2⟩ := rm_del id t hpc.2
    unfold impl_Unbook.l0 impl_Unbook.l1 at ih1
    unfold impl_Unbook.l0
    unfold impl_Unbook.l1 at ih2
    unfold delV at ih1
    unfold hasId at ih2
    unfold impl_Unbook.l1 delV hasId
    rw [List.findIdx_cons, List.filter_cons, List.any_cons, List.length_cons]
    by_cases c : o.f0 = id
    · have e1 : (o.f0 == id) = true := by simpa using c
      have e2 : t.filter (fun x => !decide (x.f0 = id)) = t := by
        rw [List.filter_eq_self]
        intro x hx
        have := hpc.1 x hx
        simp; omega
      rw [e1, decide_eq_true c, e2]
      simp
    · have e1 : (o.f0 == id) = false := by simpa using c
      rw [e1, decide_eq_false c]
      simp only [cond_false, Bool.not_false, if_true, Bool.false_or]
      by_cases d : t.findIdx (fun o => o.f0 == id) < t.length
      · rw [if_pos d, if_neg (by omega), Int.toNat_natCast] at ih1
        rw [if_pos d] at ih2
        have d1 : t.findIdx (fun o => o.f0 == id) + 1 < t.length + 1 := by omega
        have d2 : ¬ ((t.findIdx (fun o => o.f0 == id) + 1 : Nat) : Int) < 0 := by omega
        simp only [if_pos d1, if_neg d2, Int.toNat_natCast, List.eraseIdx_cons_succ, ih1]
        refine ⟨trivial, ?_⟩
        rw [← ih2, decide_eq_true (by omega), decide_eq_true (by omega)]
      · rw [if_neg d, if_pos (by decide)] at ih1
        rw [if_neg d] at ih2
        have d1 : ¬ t.findIdx (fun o => o.f0 == id) + 1 < t.length + 1 := by omega
        simp only [if_neg d1, ← ih1]
        exact ⟨by rw [if_pos (by decide)], ih2⟩


theorem lo_eq (l : List S66) (s : Nat) : ∀ k, impl_Train_hole.l1 l s k = holeLo l s k
  | 0 => rfl
  | k + 1 => by rw [impl_Train_hole.l1, holeLo, lo_eq l s k]
theorem hi_eq (l : List S66) (s P : Nat) : ∀ k, impl_Train_hole.l2 l s P k = holeHi l s P k
  | 0 => rfl
  | k + 1 => by rw [impl_Train_hole.l2, holeHi, hi_eq l s P k]
theorem hole_of {a b : Int} {l : List S66} {x y s : Int} (h : s ∈ freeV a b l x y) : impl_Book.l1 a b l x y s = holeV a b l s x y := by
  unfold impl_Book.l1 holeV
  rw [if_pos (by rw [List.any_eq_true]; exact ⟨s, h, by simp⟩), lo_eq, hi_eq]
theorem best_same (h g : Int → Int) : ∀ (fs : List Int) (b m : Int), (∀ s, s ∈ fs → h s = g s ∧ 0 ≤ s) → (b < 0 ∨ m = g b) → (impl_Book.l0 h fs b m).1 = bestV g fs b
  | [], b, m, _, _ => rfl
  | s :: t, b, m, hs, hb => by
    have h1 := hs s List.mem_cons_self
    have ht : ∀ s, s ∈ t → h s = g s ∧ 0 ≤ s := fun s' hs' => hs s' (List.mem_cons_of_mem _ hs')
    unfold impl_Book.l0 bestV
    by_cases c : b < 0
    · rw [if_pos (Or.inl c), if_pos (Or.inl c)]
      exact best_same h g t s (h s) ht (.inr h1.1)
    · have hm : m = g b := by rcases hb with hb | hb; · exact absurd hb c
                              · exact hb
      rw [h1.1, hm]
      by_cases d : g s < g b
      · rw [if_pos (Or.inr d), if_pos (Or.inr d)]
        exact best_same h g t s (g s) ht (.inr rfl)
      · rw [if_neg (by omega), if_neg (by omega)]
        exact best_same h g t b (g b) ht (.inr rfl)
theorem pick_same {a b : Int} {l : List S66} {x y : Int} (ht : trainV a b l = true) (hr : rideB b x y = true) : impl_Book.l3 a b l x y = pickV a b l x y := by
  unfold impl_Book.l3 pickV
  have e : freeV a b l x y = impl_Train_freeSeats.l1 l a.toNat x.toNat y.toNat := by
    unfold freeV
    rw [ht, hr]
    rfl
  rw [e]
  refine best_same _ _ _ _ _ (fun s hs => ?_) (.inl (by decide))
  rw [← e] at hs
  exact ⟨hole_of hs, (mem_free.1 hs).2.2.1.1⟩
theorem put_ins (y : S66) : ∀ (l : List S66), (l.Pairwise fun p q => p.f0 < q.f0) → (∀ o, o ∈ l → o.f0 ≠ y.f0) → impl_Book.l5 l (impl_Book.l2 y.f0 l) y = insV l y
  | [], _, _ => rfl
  | o :: t, hp, hy => by
    have hpc := List.pairwise_cons.1 hp
    have h0 := hy o List.mem_cons_self
    have ih := put_ins y t hpc.2 (fun x hx => hy x (List.mem_cons_of_mem _ hx))
    unfold impl_Book.l5 insV at ih
    unfold impl_Book.l5 insV impl_Book.l2
    rw [List.filter_cons, List.filter_cons]
    by_cases c : o.f0 < y.f0
    · rw [if_pos c, if_pos (decide_eq_true c), if_neg (by simp; omega), List.take_succ_cons, List.drop_succ_cons, List.cons_append, ih, List.cons_append]
    · have e1 : t.filter (fun x => decide (x.f0 < y.f0)) = [] := by
        rw [List.filter_eq_nil_iff]
        intro x hx
        have := hpc.1 x hx
        simp; omega
      have e2 : t.filter (fun x => decide (y.f0 < x.f0)) = t := by
        rw [List.filter_eq_self]
        intro x hx
        have := hpc.1 x hx
        simp; omega
      rw [if_neg c, if_neg (by simpa using c), if_pos (by simp; omega), e1, e2]
      rfl
theorem sell_same {a b : Int} {l : List S66} (ht : trainV a b l = true) (id x y : Int) : impl_Book.l6 a b l id x y = bookV a b l id x y := by
  have tp := (train_iff a b l).1 ht
  have h2 := idx_has l id
  unfold impl_Book.l6 bookV
  have hok : impl_Book.l4 a b l id x y = (bookOk a b l id x y && decide (0 ≤ impl_Book.l3 a b l x y)) := by
    unfold impl_Book.l4 bookOk
    have e1 : decide (impl_Unbook.l1 l id < 0) = !(hasId l id) := by
      rw [← h2, Bool.eq_iff_iff]
      simp only [decide_eq_true_eq, Bool.not_eq_true', decide_eq_false_iff_not]
      omega
    have e2 : (!decide (l.length = 200)) = decide (l.length < 200) := by
      have := tp.short
      rw [Bool.eq_iff_iff]
      simp only [decide_eq_true_eq, Bool.not_eq_true', decide_eq_false_iff_not]
      omega
    rw [e1, e2, ht]
    show (decide (0 < id) && !hasId l id && rideB b x y && decide (l.length < 200) && decide (0 ≤ impl_Book.l3 a b l x y)) = _
    cases decide (0 < id) <;> cases hasId l id <;> cases rideB b x y <;> cases decide (l.length < 200) <;> rfl
  by_cases hb : bookOk a b l id x y = true
  · have hparts := hb
    unfold bookOk at hparts
    simp only [Bool.and_eq_true, decide_eq_true_eq, Bool.not_eq_true'] at hparts
    have hp := pick_same ht hparts.1.1.1.2
    rw [hok, hb, Bool.true_and, hp]
    by_cases c : 0 ≤ pickV a b l x y
    · rw [if_pos (decide_eq_true c), if_pos ⟨rfl, c⟩]
      have := put_ins ⟨id, pickV a b l x y, x, y⟩ l (tp.order.imp fun q => q.1) (hasId_no hparts.2)
      rw [← this]
    · rw [if_neg (by simpa using c), if_neg (fun q => c q.2)]
  · rw [hok, Bool.eq_false_iff.2 hb, if_neg (by simp), if_neg (by simp)]
/-- From some round on it tells something that meets Q. -/
def EvP {α : Type} (g : Nat → Option α) (Q : α → Prop) : Prop := ∃ r, Ev g r ∧ Q r
theorem evp_of {α : Type} {g : Nat → Option α} {Q : α → Prop} {r : α} (h : Ev g r) (q : Q r) : EvP g Q := ⟨r, h, q⟩
theorem evp_now {α : Type} {Q : α → Prop} (r : α) (q : Q r) : EvP (fun _ => some r) Q := ⟨r, Ev.now r, q⟩
theorem evp_bind {α β : Type} {g : Nat → Option α} {f : Nat → α → Option β} {Q1 : α → Prop} {Q : β → Prop} (h : EvP g Q1) (k : ∀ a, Q1 a → EvP (fun n => f n a) Q) : EvP (fun n => (g n).bind (f n)) Q := by
  obtain ⟨a, ha, qa⟩ := h
  obtain ⟨r, hr, qr⟩ := k a qa
  exact ⟨r, Ev.bind ha hr, qr⟩
theorem evp_at {α : Type} {g f : Nat → Option α} {Q : α → Prop} (k : EvP f Q) (h : ∀ k, g (k + 1) = f k) : EvP g Q := by
  obtain ⟨r, hr, q⟩ := k
  exact ⟨r, ev_at hr h, q⟩
theorem and255 (x : Int) : 0 ≤ Go.bits .and .i64 x 255 ∧ Go.bits .and .i64 x 255 ≤ 255 := by
  have e : Go.bits .and .i64 x 255 = IntKind.i64.wrap (((BitVec.ofInt IntKind.i64.bits x &&& BitVec.ofInt IntKind.i64.bits 255).toNat : Nat) : Int) := rfl
  rw [e]
  have h : (BitVec.ofInt IntKind.i64.bits x &&& BitVec.ofInt IntKind.i64.bits 255).toNat ≤ 255 := by
    rw [BitVec.toNat_and]
    exact Nat.le_trans Nat.and_le_right (by decide)
  generalize (BitVec.ofInt IntKind.i64.bits x &&& BitVec.ofInt IntKind.i64.bits 255).toNat = n at h
  have e2 : IntKind.i64.wrap ((n : Nat) : Int) = wrap64 (n : Int) := by simp only [IntKind.wrap_i64, wrap64]
  rw [e2, w64 (by omega) (by omega)]
  omega

/-- The cursor stands within its bytes. -/
def At (b : List Int) (i : Int) : Prop := 0 ≤ i ∧ i ≤ b.length

theorem l01New (l : List Int) (hl : l.length ≤ 1048576) : EvP (fun k => spec_l01New.f k l) (fun r => r.1 = l ∧ At r.1 r.2.1) := by
  have key : ∀ i, i ≤ l.length → ∀ h : Int, EvP (fun k => spec_l01New.l0 k l h i) (fun r => r.1 = l ∧ At r.1 r.2.1) := by
    have fin : ∀ h : Int, At l 0 := fun h => ⟨Int.le_refl _, by omega⟩
    refine down l.length (fun h => ?_) (fun i hi ih h => ?_)
    · exact evp_of (ev_some (r := (l, 0, h)) (fun k => by simp [spec_l01New.l0])) ⟨rfl, fin h⟩
    · by_cases h4 : (i : Int) < 4000
      · exact evp_at (ih _) (fun k => by simp [spec_l01New.l0, hi, h4, w64s hi (by omega)]; rfl)
      · exact evp_of (ev_some (r := (l, 0, h)) (fun k => by simp [spec_l01New.l0, hi, h4])) ⟨rfl, fin h⟩
  exact key 0 (Nat.zero_le _) _

theorem l01Byte (b : List Int) (i h : Int) (hb : b.length ≤ 1048576) (hi : At b i) : ∃ v i' h', spec_l01Byte.f b i h = some (v, i', h') ∧ (0 ≤ v ∧ v ≤ 255) ∧ At b i' := by
  unfold spec_l01Byte.f
  unfold At at *
  by_cases hlt : i < (b.length : Int)
  · simp only [hlt, if_true, hi.1]
    exact ⟨_, _, _, rfl, and255 _, by rw [w64 (by omega) (by omega)]; omega⟩
  · simp only [hlt, if_false]
    exact ⟨_, _, _, rfl, and255 _, hi⟩

theorem l01Below (b : List Int) (i h n : Int) (hb : b.length ≤ 1048576) (hi : At b i) (hn : 1 ≤ n) (hn2 : n ≤ 1000000) : ∃ v i' h', spec_l01Below.f b i h n = some (v, i', h') ∧ (0 ≤ v ∧ v < n) ∧ At b i' := by
  unfold spec_l01Below.f
  simp only [show ¬ n ≤ 0 by omega, if_false, show ¬ n = 0 by omega]
  obtain ⟨v, i1, h1, e1, hv, hi1⟩ := l01Byte b i h hb hi
  obtain ⟨v2, i2, h2, e2, hv2, hi2⟩ := l01Byte b i1 h1 hb hi1
  obtain ⟨v3, i3, h3, e3, hv3, hi3⟩ := l01Byte b i2 h2 hb hi2
  by_cases h256 : n ≤ 256
  · simp only [h256, if_true, e1, Option.bind_some]
    refine ⟨_, _, _, rfl, ?_, hi1⟩
    rw [Int.tmod_eq_emod_of_nonneg hv.1]
    exact ⟨Int.emod_nonneg _ (by omega), Int.emod_lt_of_pos _ (by omega)⟩
  · simp only [h256, if_false, e1, e2, e3, Option.bind_some]
    refine ⟨_, _, _, rfl, ?_, hi3⟩
    rw [w64 (x := v * 65536) (by omega) (by omega), w64 (x := v2 * 256) (by omega) (by omega), w64 (x := v * 65536 + v2 * 256) (by omega) (by omega), w64 (x := v * 65536 + v2 * 256 + v3) (by omega) (by omega)]
    rw [Int.tmod_eq_emod_of_nonneg (by omega)]
    exact ⟨Int.emod_nonneg _ (by omega), Int.emod_lt_of_pos _ (by omega)⟩

theorem pick_int (b : List Int) (i h : Int) (l : List Int) (hb : b.length ≤ 1048576) (hi : At b i) (h0 : 1 ≤ l.length) (h1 : l.length ≤ 1000) : ∃ v i' h', spec_l01PickInt.f b i h l = some (v, i', h') ∧ v ∈ l ∧ At b i' := by
  obtain ⟨v, i', h', e, hv, hi'⟩ := l01Below b i h l.length hb hi (by omega) (by omega)
  obtain ⟨n, rfl⟩ : ∃ n : Nat, v = (n : Int) := ⟨v.toNat, by omega⟩
  refine ⟨rd l n, i', h', ?_, ?_, hi'⟩
  · unfold spec_l01PickInt.f
    rw [e]
    simp only [Option.bind_some]
    rw [if_pos hv.1, if_pos hv.2]
  · unfold rd
    rw [Int.toNat_natCast]
    exact getD_mem 0 l n (by omega)
theorem once (b : List Int) (i h n : Int) (hb : b.length ≤ 1048576) (hi : At b i) (hn : 1 ≤ n) (hn2 : n ≤ 1000) : ∃ v i' h', spec_l01Once.f b i h n = some (v, i', h') ∧ At b i' := by
  obtain ⟨v, i', h', e, hv, hi'⟩ := l01Below b i h n hb hi hn (by omega)
  refine ⟨v == 0, i', h', ?_, hi'⟩
  unfold spec_l01Once.f
  rw [e]
  rfl
theorem draw_sales (b : List Int) (i h n p : Int) (hb : b.length ≤ 1048576) (hi : At b i) (hn : 1 ≤ n ∧ n ≤ 200) (hp : 1 ≤ p ∧ p ≤ 11) : EvP (fun k => spec_l14DrawSales.f k b i h n p) (fun r => At b r.2.1 ∧ r.1.length ≤ 200) := by
  unfold spec_l14DrawSales.f
  obtain ⟨c, i', h', e, hc, hi'⟩ := l01Below b i h n hb hi hn.1 (by omega)
  rw [e]
  simp only [Option.bind_some]
  obtain ⟨c, rfl⟩ : ∃ m : Nat, c = (m : Int) := ⟨c.toNat, by omega⟩
  have key : ∀ c : Nat, c ≤ 200 → ∀ (acc : List S56) (i h : Int), acc.length + c ≤ 200 → At b i → EvP (fun k => spec_l14DrawSales.l0 k p acc (c : Int) b i h) (fun r => At b r.2.1 ∧ r.1.length ≤ 200) := by
    intro c
    induction c with
    | zero =>
      intro _ acc i h ha hi
      exact ⟨(acc, i, h), ev_some (fun k => by simp [spec_l14DrawSales.l0]), hi, by simpa using ha⟩
    | succ c ih =>
      intro hc acc i h ha hi
      obtain ⟨on, i1, h1, e1, hv1, hi1⟩ := l01Below b i h p hb hi hp.1 (by omega)
      obtain ⟨q, i2, h2, e2, hv2, hi2⟩ := l01Below b i1 h1 4 hb hi1 (by omega) (by omega)
      obtain ⟨kd, i3, h3, e3, hv3, hi3⟩ := pick_int b i2 h2 [0, 0, 0, 1, 0, 0, 1, wrap64 (q - 1)] hb hi2 (by simp) (by simp)
      obtain ⟨id, i4, h4, e4, hv4, hi4⟩ := l01Below b i3 h3 14 hb hi3 (by omega) (by omega)
      have hw : wrap64 (p - on) = p - on := w64 (by omega) (by omega)
      have hwc : wrap64 (((c + 1 : Nat) : Int) - 1) = (c : Int) := by rw [w64 (by omega) (by omega)]; omega
      obtain ⟨le, i5, h5, e5, hv5, hi5⟩ := l01Below b i4 h4 (p - on) hb hi4 (by clear hw hwc; omega) (by clear hw hwc; omega)
      obtain ⟨oc, i6, h6, e6, hi6⟩ := once b i5 h5 30 hb hi5 (by omega) (by omega)
      have f1 : ((c + 1 : Nat) : Int) > 0 := by clear hw hwc; omega
      have f2 : acc.length < 4398046511104 := by clear hw hwc; omega
      cases oc with
      | true =>
        obtain ⟨of, i7, h7, e7, hv7, hi7⟩ := pick_int b i6 h6 [on, wrap64 (p + 1), -1] hb hi6 (by simp) (by simp)
        refine evp_at (ih (by clear hw hwc; omega) (acc ++ [⟨kd, wrap64 (1 + id), on, of⟩]) i7 h7 (by rw [List.length_append, List.length_singleton]; clear hw hwc; omega) hi7) (fun k => ?_)
        simp only [spec_l14DrawSales.l0, if_pos f1, e1, e2, e3, e4, hw, e5, e6, Option.bind_some, if_true, e7, if_pos f2, hwc]
      | false =>
        refine evp_at (ih (by clear hw hwc; omega) (acc ++ [⟨kd, wrap64 (1 + id), on, wrap64 (wrap64 (on + 1) + le)⟩]) i6 h6 (by rw [List.length_append, List.length_singleton]; clear hw hwc; omega) hi6) (fun k => ?_)
        simp only [spec_l14DrawSales.l0, if_pos f1, e1, e2, e3, e4, hw, e5, e6, Option.bind_some, Bool.false_eq_true, if_false, if_pos f2, hwc]
  exact key c (by omega) [] i' h' (by simp; omega) hi'
theorem size_le (l : List Int) (m : Int) (hl : l.length ≤ 1048576) (h0 : 0 ≤ m) (hm : m ≤ 100) : ∃ v, spec_l01Size.f l m = some v ∧ 0 ≤ v ∧ v ≤ 100 := by
  unfold spec_l01Size.f
  have e1 : wrap64 ((l.length : Int) / 16) = (l.length : Int) / 16 := w64 (by omega) (by omega)
  have e2 : wrap64 (2 + (l.length : Int) / 16) = 2 + (l.length : Int) / 16 := w64 (by omega) (by omega)
  rw [e1, e2]
  clear e1 e2
  split
  · exact ⟨m, rfl, h0, hm⟩
  · exact ⟨_, rfl, by omega, by omega⟩
theorem empty_train {a b : Int} (ha : 1 ≤ a ∧ a ≤ 60) (hb : 1 ≤ b ∧ b ≤ 11) : TrainP a b [] := ⟨ha, hb, by simp, fun o ho => by simp at ho, List.Pairwise.nil⟩
theorem draw_right (b : List Int) (i h : Int) (l : List Int) (hb : b.length ≤ 1048576) (hl : l.length ≤ 1048576) (hi : At b i) : EvP (fun k => spec_l14DrawRight.f k b i h l) (fun r => TrainP r.1 r.2.1 r.2.2.1 ∧ At b r.2.2.2.1) := by
  unfold spec_l14DrawRight.f
  obtain ⟨s, i1, h1, e1, hv1, hi1⟩ := l01Below b i h 4 hb hi (by omega) (by omega)
  obtain ⟨p, i2, h2, e2, hv2, hi2⟩ := l01Below b i1 h1 6 hb hi1 (by omega) (by omega)
  obtain ⟨z, e3, hz0, hz1⟩ := size_le l 16 hl (by omega) (by omega)
  rw [e1]
  simp only [Option.bind_some, e2, e3]
  have w1 : wrap64 (2 + z) = 2 + z := w64 (by omega) (by omega)
  have w2 : wrap64 (1 + p) = 1 + p := w64 (by omega) (by omega)
  have w3 : wrap64 (1 + s) = 1 + s := w64 (by omega) (by omega)
  rw [w1, w2, w3]
  clear w1 w2 w3
  have hE : TrainP (1 + s) (1 + p) [] := empty_train (by omega) (by omega)
  refine evp_bind (draw_sales b i2 h2 (2 + z) (1 + p) hb hi2 (by omega) (by omega)) (fun r hr => ?_)
  refine evp_bind (evp_of (spec_play (1 + s) (1 + p) [] r.1 (by simp)) (Q := fun q => TrainP q.1 q.2.1 q.2.2.1) (play_train hE r.1)) (fun q hq => ?_)
  exact evp_now _ ⟨hq, hr.1⟩
theorem draw_train (l : List Int) (hl : l.length ≤ 1048576) : EvP (fun k => spec_DrawRightTrain.f k l) (fun r => TrainP r.1 r.2.1 r.2.2.1 ∧ r.2.2.2.length ≤ 200) := by
  unfold spec_DrawRightTrain.f
  refine evp_bind (l01New l hl) (fun c hc => ?_)
  obtain ⟨c1, c2, c3⟩ := c
  obtain ⟨rfl, hi⟩ := hc
  refine evp_bind (draw_right c1 c2 c3 c1 hl hl hi) (fun q hq => ?_)
  obtain ⟨z, e3, hz0, hz1⟩ := size_le c1 20 hl (by omega) (by omega)
  simp only [e3, Option.bind_some]
  have w1 : wrap64 (2 + z) = 2 + z := w64 (by omega) (by omega)
  rw [w1]
  clear w1
  refine evp_bind (draw_sales c1 q.2.2.2.1 q.2.2.2.2 (2 + z) q.2.1 hl hq.2 (by omega) hq.1.pieces) (fun s hs => ?_)
  exact evp_now _ ⟨hq.1, hs.2⟩
end Go.Proofs.Ytklikbjlfaednaa.Pure
