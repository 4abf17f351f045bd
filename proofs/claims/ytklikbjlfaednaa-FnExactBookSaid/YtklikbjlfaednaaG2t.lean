/- Trains: when they are right, by the program and by the reference. -/
import Derived.Test.YtklikbjlfaednaaB
namespace Go.Proofs.Ytklikbjlfaednaa.Pure
open Go.RowKit Go.Proofs.Ytklikbjlfaednaa.P Go.Proofs.YtklikbjlfaednaaW.PrintWords Go.Proofs.YtklikbjlfaednaaW.PrintLast

/-- Is the booking at place i right by the reference, but for what is ahead of it on its seat? -/
def chk (a b : Int) (l : List S66) (i : Nat) : Bool :=
  decide (0 < (rd_T66 l (i : Int)).f0) && (decide (i = 0) || decide ((rd_T66 l ((i - 1 : Nat) : Int)).f0 < (rd_T66 l (i : Int)).f0)) && inB (rd_T66 l (i : Int)).f1 0 (a - 1) && inB (rd_T66 l (i : Int)).f3 1 b && inB (rd_T66 l (i : Int)).f2 0 ((rd_T66 l (i : Int)).f3 - 1)
def sOk (a b : Int) (l : List S66) (i : Nat) : Bool := chk a b l i && !((l.take i).any (impl_TrainOk.l3 (rd_T66 l (i : Int))))
def trainV (a b : Int) (l : List S66) : Bool := inB a 1 60 && inB b 1 11 && decide (l.length ≤ 200) && (List.range l.length).all (sOk a b l)

theorem spec_clash (a b : Int) (l : List S66) (h : l.length ≤ 200) (i : Nat) (hi : i < l.length) (y : S66) (r : Bool) (hr : Ev (fun k => spec_TrainOk.l0 k ((i + 1 : Nat) : Int) a b l) r) :
    ∀ j, j ≤ i → Ev (fun k => spec_TrainOk.l1 k i j a b l y.f0 y.f1 y.f2 y.f3) (!(((l.take i).drop j).any (impl_TrainOk.l3 y)) && r) := by
  have hw := w64s hi (by omega)
  refine down i ?_ (fun j hj ih => ?_)
  · rw [List.drop_of_length_le (by simp; omega)]
    simp only [List.any_nil, Bool.not_false, Bool.true_and]
    exact ev_at hr (fun k => by simp only [spec_TrainOk.l1, hw]; rw [if_neg (Int.lt_irrefl _)])
  · have hwj := w64s (show j < l.length by omega) (by omega)
    have hlt : j < (l.take i).length := by simp; omega
    rw [drop_getD z66 (l.take i) j hlt, List.any_cons]
    have e : (l.take i).getD j z66 = rd_T66 l (j : Int) := by
      simp [rd_T66, List.getD_eq_getElem?_getD, hj]
    rw [e]
    have f1 : (j : Int) < i := by omega
    have f2 : (0 : Int) ≤ j := by omega
    have f3 : (j : Int) < l.length := by omega
    cases hc : impl_TrainOk.l3 y (rd_T66 l (j : Int))
    · rw [Bool.false_or]
      refine ev_at ih (fun k => ?_)
      simp only [spec_TrainOk.l1, if_pos f1, if_pos f2, if_pos f3, hwj]
      unfold impl_TrainOk.l3 at hc
      by_cases c1 : (rd_T66 l (j : Int)).f1 = y.f1
      · rw [if_pos c1]
        by_cases c2 : (rd_T66 l (j : Int)).f2 < y.f3
        · rw [if_pos c2]
          by_cases c3 : y.f2 < (rd_T66 l (j : Int)).f3
          · rw [decide_eq_true c1, decide_eq_true c2, decide_eq_true c3] at hc
            simp at hc
          · rw [if_neg c3]
        · rw [if_neg c2]
      · rw [if_neg c1]
    · simp only [Bool.true_or, Bool.not_true, Bool.false_and]
      unfold impl_TrainOk.l3 at hc
      simp only [Bool.and_eq_true, decide_eq_true_eq] at hc
      exact ev_some (fun k => by simp only [spec_TrainOk.l1, if_pos f1, if_pos f2, if_pos f3, if_pos hc.1.1, if_pos hc.1.2, if_pos hc.2])
theorem spec_step (a b : Int) (l : List S66) (ha : 1 ≤ a ∧ a ≤ 60) (hb : 1 ≤ b ∧ b ≤ 11) (h : l.length ≤ 200) (i : Nat) (hi : i < l.length) (k : Nat) :
    spec_TrainOk.l0 (k + 1) i a b l = spec_TrainOk.j2 k i (!(chk a b l i)) a b l (rd_T66 l (i : Int)).f0 (rd_T66 l (i : Int)).f1 (rd_T66 l (i : Int)).f2 (rd_T66 l (i : Int)).f3 := by
  have f1 : (i : Int) < l.length := by omega
  have f2 : (0 : Int) ≤ i := by omega
  have hwa : wrap64 (a - 1) = a - 1 := w64 (by omega) (by omega)
  unfold chk
  simp only [spec_TrainOk.l0, if_pos f1, if_pos f2, l01In, Option.bind_some, hwa]
  clear hwa
  obtain ⟨y, hy⟩ : ∃ y, rd_T66 l (i : Int) = y := ⟨_, rfl⟩
  rw [hy]
  have tail : (if inB y.f1 0 (a - 1) = true then if inB y.f3 1 b = true then spec_TrainOk.j2 k i (!inB y.f2 0 (wrap64 (y.f3 - 1))) a b l y.f0 y.f1 y.f2 y.f3 else spec_TrainOk.j2 k i true a b l y.f0 y.f1 y.f2 y.f3 else spec_TrainOk.j2 k i true a b l y.f0 y.f1 y.f2 y.f3) = spec_TrainOk.j2 k i (!(inB y.f1 0 (a - 1) && inB y.f3 1 b && inB y.f2 0 (y.f3 - 1))) a b l y.f0 y.f1 y.f2 y.f3 := by
    cases inB y.f1 0 (a - 1)
    · rfl
    · cases h3 : inB y.f3 1 b
      · rfl
      · have := inB_iff.1 h3
        simp only [if_true, Bool.true_and]
        rw [w64 (by omega) (by omega)]
  by_cases c1 : y.f0 ≤ 0
  · rw [if_pos c1, decide_eq_false (by omega)]
    rfl
  · rw [if_neg c1, decide_eq_true (show 0 < y.f0 by omega), Bool.true_and]
    by_cases c2 : (i : Int) > 0
    · have e1 : wrap64 ((i : Int) - 1) = ((i - 1 : Nat) : Int) := by rw [w64 (by omega) (by omega)]; omega
      have f3 : (0 : Int) ≤ ((i - 1 : Nat) : Int) := by clear e1; omega
      have f4 : ((i - 1 : Nat) : Int) < l.length := by clear e1; omega
      have f5 : ¬ i = 0 := by clear e1; omega
      simp only [if_pos c2, e1, if_pos f3, if_pos f4, decide_eq_false f5, Bool.false_or]
      by_cases c3 : (rd_T66 l ((i - 1 : Nat) : Int)).f0 ≥ y.f0
      · rw [if_pos c3, decide_eq_false (by clear e1; omega)]
        rfl
      · rw [if_neg c3, decide_eq_true (show (rd_T66 l ((i - 1 : Nat) : Int)).f0 < y.f0 by clear e1; omega), Bool.true_and]
        exact tail
    · have f5 : i = 0 := by omega
      rw [if_neg c2, decide_eq_true f5, Bool.true_or, Bool.true_and]
      exact tail
theorem spec_train (a b : Int) (l : List S66) (h : l.length ≤ 1048576) : Ev (fun k => spec_TrainOk.f k a b l) (trainV a b l) := by
  unfold spec_TrainOk.f trainV
  have j0t : Ev (fun k => spec_TrainOk.j0 k true a b l) false := ev_some (fun k => by simp [spec_TrainOk.j0])
  simp only [l01In, Option.bind_some]
  cases ha : inB a 1 60
  · simpa using j0t
  · cases hb : inB b 1 11
    · simpa using j0t
    · simp only [if_true, Bool.true_and]
      by_cases h2 : l.length ≤ 200
      · rw [decide_eq_true h2, Bool.true_and, decide_eq_false (show ¬ (l.length : Int) > 200 by omega)]
        have key : ∀ i, i ≤ l.length → Ev (fun k => spec_TrainOk.l0 k (i : Int) a b l) (((List.range l.length).drop i).all (sOk a b l)) := by
          refine down l.length ?_ (fun i hi ih => ?_)
          · rw [List.drop_of_length_le (by simp)]
            exact ev_some (fun k => by simp [spec_TrainOk.l0])
          · rw [drop_getD 0 (List.range l.length) i (by simpa using hi), List.all_cons]
            have e : (List.range l.length).getD i 0 = i := by simp [List.getD_eq_getElem?_getD, hi]
            rw [e]
            refine ev_at (f := fun k => spec_TrainOk.j2 k i (!(chk a b l i)) a b l (rd_T66 l (i : Int)).f0 (rd_T66 l (i : Int)).f1 (rd_T66 l (i : Int)).f2 (rd_T66 l (i : Int)).f3) ?_ (fun k => spec_step a b l (inB_iff.1 ha) (inB_iff.1 hb) h2 i hi k)
            unfold sOk
            cases hc : chk a b l i
            · exact ev_some (fun k => by simp [spec_TrainOk.j2])
            · have := spec_clash a b l h2 i hi (rd_T66 l (i : Int)) _ ih 0 (Nat.zero_le _)
              rw [List.drop_zero] at this
              simp only [Bool.true_and, Bool.not_true]
              exact ev_at this (fun k => by simp [spec_TrainOk.j2])
        exact ev_at (key 0 (Nat.zero_le _)) (fun k => by simp [spec_TrainOk.j0])
      · rw [decide_eq_false h2, Bool.false_and, decide_eq_true (show (l.length : Int) > 200 by omega)]
        exact j0t
theorem ok_same (a b : Int) (l : List S66) : ∀ n, (∀ i, i < n → impl_TrainOk.l1 a b l i = true) ↔ (∀ i, i < n → sOk a b l i = true) := by
  have parts : ∀ i, impl_TrainOk.l1 a b l i = true ↔ ((if i = 0 then 0 else (rd_T66 l ((i - 1 : Nat) : Int)).f0) < (rd_T66 l (i : Int)).f0 ∧ (0 ≤ (rd_T66 l (i : Int)).f1 ∧ (rd_T66 l (i : Int)).f1 ≤ a - 1) ∧ (0 ≤ (rd_T66 l (i : Int)).f2 ∧ (rd_T66 l (i : Int)).f2 < (rd_T66 l (i : Int)).f3 ∧ (rd_T66 l (i : Int)).f3 ≤ b)) ∧ ((l.take i).any (impl_TrainOk.l3 (rd_T66 l (i : Int)))) = false := by
    intro i
    unfold impl_TrainOk.l1
    simp only [Bool.and_eq_true, decide_eq_true_eq, Bool.not_eq_true']
    constructor
    · intro h; exact ⟨⟨h.1.1.1, h.1.1.2, h.1.2⟩, h.2⟩
    · intro h; exact ⟨⟨⟨h.1.1, h.1.2.1⟩, h.1.2.2⟩, h.2⟩
  have parts2 : ∀ i, sOk a b l i = true ↔ (0 < (rd_T66 l (i : Int)).f0 ∧ (i = 0 ∨ (rd_T66 l ((i - 1 : Nat) : Int)).f0 < (rd_T66 l (i : Int)).f0) ∧ (0 ≤ (rd_T66 l (i : Int)).f1 ∧ (rd_T66 l (i : Int)).f1 ≤ a - 1) ∧ (1 ≤ (rd_T66 l (i : Int)).f3 ∧ (rd_T66 l (i : Int)).f3 ≤ b) ∧ (0 ≤ (rd_T66 l (i : Int)).f2 ∧ (rd_T66 l (i : Int)).f2 ≤ (rd_T66 l (i : Int)).f3 - 1)) ∧ ((l.take i).any (impl_TrainOk.l3 (rd_T66 l (i : Int)))) = false := by
    intro i
    unfold sOk chk
    simp only [Bool.and_eq_true, Bool.or_eq_true, decide_eq_true_eq, Bool.not_eq_true', inB_iff]
    constructor
    · intro h; exact ⟨⟨h.1.1.1.1.1, h.1.1.1.1.2, h.1.1.1.2, h.1.1.2, h.1.2⟩, h.2⟩
    · intro h; exact ⟨⟨⟨⟨⟨h.1.1, h.1.2.1⟩, h.1.2.2.1⟩, h.1.2.2.2.1⟩, h.1.2.2.2.2⟩, h.2⟩
  intro n
  induction n with
  | zero => exact ⟨fun _ i h => by omega, fun _ i h => by omega⟩
  | succ n ih =>
    constructor
    · intro h
      have hs := ih.1 (fun i hi => h i (by omega))
      intro i hi
      by_cases e : i = n
      · subst e
        have h1 := (parts i).1 (h i hi)
        refine (parts2 i).2 ⟨?_, h1.2⟩
        by_cases e0 : i = 0
        · rw [if_pos e0] at h1
          refine ⟨by omega, .inl e0, by omega, by omega, by omega⟩
        · rw [if_neg e0] at h1
          have h2 := ((parts2 (i - 1)).1 (hs (i - 1) (by omega))).1.1
          refine ⟨by omega, .inr h1.1.1, by omega, by omega, by omega⟩
      · exact hs i (by omega)
    · intro h
      have hs := ih.2 (fun i hi => h i (by omega))
      intro i hi
      by_cases e : i = n
      · subst e
        have h1 := (parts2 i).1 (h i hi)
        refine (parts i).2 ⟨⟨?_, by omega, by omega⟩, h1.2⟩
        by_cases e0 : i = 0
        · rw [if_pos e0]
          exact h1.1.1
        · rw [if_neg e0]
          exact h1.1.2.1.resolve_left e0
      · exact hs i (by omega)
theorem trains_same (a b : Int) (l : List S66) : impl_TrainOk.l0 a b l = trainV a b l := by
  unfold impl_TrainOk.l0 trainV
  have e1 : decide (1 ≤ a ∧ a ≤ 60) = inB a 1 60 := by rw [Bool.eq_iff_iff, decide_eq_true_eq, inB_iff]
  have e2 : decide (1 ≤ b ∧ b ≤ 11) = inB b 1 11 := by rw [Bool.eq_iff_iff, decide_eq_true_eq, inB_iff]
  have e3 : (List.range l.length).all (impl_TrainOk.l1 a b l) = (List.range l.length).all (sOk a b l) := by
    rw [Bool.eq_iff_iff, List.all_eq_true, List.all_eq_true]
    simp only [List.mem_range]
    exact ok_same a b l l.length
  rw [e1, e2, e3]
end Go.Proofs.Ytklikbjlfaednaa.Pure
