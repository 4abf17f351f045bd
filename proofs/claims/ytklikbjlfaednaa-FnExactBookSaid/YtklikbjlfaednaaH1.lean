/- Right trains: what it takes, that it stays so when a booking is taken out or put in; the reference's copies. -/
import Derived.Test.YtklikbjlfaednaaG2t
namespace Go.Proofs.Ytklikbjlfaednaa.Pure
open Go.RowKit Go.Proofs.Ytklikbjlfaednaa.P Go.Proofs.YtklikbjlfaednaaW.PrintWords Go.Proofs.YtklikbjlfaednaaW.PrintLast
set_option linter.unusedVariables false

/-- A train that is right, as a sentence. -/
structure TrainP (a b : Int) (l : List S66) : Prop where
  seats : 1 ≤ a ∧ a ≤ 60
  pieces : 1 ≤ b ∧ b ≤ 11
  short : l.length ≤ 200
  each : ∀ o, o ∈ l → 0 < o.f0 ∧ (0 ≤ o.f1 ∧ o.f1 < a) ∧ 0 ≤ o.f2 ∧ o.f2 < o.f3 ∧ o.f3 ≤ b
  order : l.Pairwise fun p q => p.f0 < q.f0 ∧ impl_TrainOk.l3 q p = false
theorem rd_get (l : List S66) (i : Nat) (h : i < l.length) : rd_T66 l (i : Int) = l[i] := by simp [rd_T66, List.getD_eq_getElem?_getD, h]
theorem l1_iff {a b : Int} {l : List S66} {i : Nat} (h : i < l.length) : impl_TrainOk.l1 a b l i = true ↔
    (if i = 0 then 0 else (rd_T66 l ((i - 1 : Nat) : Int)).f0) < (l[i]).f0 ∧ (0 ≤ (l[i]).f1 ∧ (l[i]).f1 < a) ∧ (0 ≤ (l[i]).f2 ∧ (l[i]).f2 < (l[i]).f3 ∧ (l[i]).f3 ≤ b) ∧ ∀ k, (hk : k < i) → impl_TrainOk.l3 l[i] (l[k]'(by omega)) = false := by
  unfold impl_TrainOk.l1
  simp only [Bool.and_eq_true, decide_eq_true_eq, Bool.not_eq_true', rd_get l i h, List.any_eq_false, Bool.not_eq_true]
  constructor
  · rintro ⟨⟨⟨h1, h2⟩, h3⟩, h4⟩
    refine ⟨h1, ⟨h2.1, by omega⟩, h3, fun k hk => h4 _ ?_⟩
    rw [List.mem_take_iff_getElem]
    exact ⟨k, by omega, rfl⟩
  · rintro ⟨h1, h2, h3, h4⟩
    refine ⟨⟨⟨h1, ⟨h2.1, by omega⟩⟩, h3⟩, fun o ho => ?_⟩
    rw [List.mem_take_iff_getElem] at ho
    obtain ⟨k, hk, rfl⟩ := ho
    exact h4 k (by omega)
theorem train_iff (a b : Int) (l : List S66) : trainV a b l = true ↔ TrainP a b l := by
  rw [← trains_same]
  unfold impl_TrainOk.l0
  simp only [Bool.and_eq_true, decide_eq_true_eq, List.all_eq_true, List.mem_range]
  constructor
  · rintro ⟨⟨⟨h1, h2⟩, h3⟩, h4⟩
    have q : ∀ i, (hi : i < l.length) → _ := fun i hi => (l1_iff hi).1 (h4 i hi)
    have asc : ∀ d i, (hj : i + d + 1 < l.length) → (l[i]'(by omega)).f0 < (l[i + d + 1]).f0 := by
      intro d
      induction d with
      | zero =>
        intro i hj
        have := (q (i + 1) hj).1
        rw [if_neg (by omega), show i + 1 - 1 = i by omega, rd_get l i (by omega)] at this
        exact this
      | succ d ih =>
        intro i hj
        have := (q (i + d + 1 + 1) hj).1
        rw [if_neg (by omega), show i + d + 1 + 1 - 1 = i + d + 1 by omega, rd_get l (i + d + 1) (by omega)] at this
        exact Int.lt_trans (ih i (by omega)) this
    have pos : ∀ i, (hi : i < l.length) → 0 < (l[i]).f0 := by
      intro i hi
      have h0 := (q 0 (by omega)).1
      rw [if_pos rfl] at h0
      by_cases e : i = 0
      · subst e; exact h0
      · have := asc (i - 1) 0 (by omega)
        simp only [show 0 + (i - 1) + 1 = i by omega] at this
        omega
    refine ⟨h1, h2, h3, fun o ho => ?_, ?_⟩
    · obtain ⟨i, hi, rfl⟩ := List.mem_iff_getElem.1 ho
      exact ⟨pos i hi, (q i hi).2.1, (q i hi).2.2.1⟩
    · rw [List.pairwise_iff_getElem]
      intro i j hi hj hij
      refine ⟨?_, (q j hj).2.2.2 i hij⟩
      have := asc (j - i - 1) i (by omega)
      simp only [show i + (j - i - 1) + 1 = j by omega] at this
      exact this
  · intro h
    refine ⟨⟨⟨h.seats, h.pieces⟩, h.short⟩, fun i hi => (l1_iff hi).2 ?_⟩
    have e := h.each l[i] (List.getElem_mem hi)
    have o := List.pairwise_iff_getElem.1 h.order
    refine ⟨?_, e.2.1, e.2.2, fun k hk => (o k i (by omega) hi hk).2⟩
    by_cases z : i = 0
    · rw [if_pos z]; exact e.1
    · rw [if_neg z, rd_get l (i - 1) (by omega)]
      exact (o (i - 1) i (by omega) hi (by omega)).1
theorem clash_comm (p q : S66) : impl_TrainOk.l3 p q = impl_TrainOk.l3 q p := by
  unfold impl_TrainOk.l3
  rw [Bool.eq_iff_iff]
  simp only [Bool.and_eq_true, decide_eq_true_eq]
  omega
/-- Without a booking. -/
def delV (l : List S66) (id : Int) : List S66 := l.filter fun o => !decide (o.f0 = id)
/-- With a booking put in by its number. -/
def insV (l : List S66) (y : S66) : List S66 := (l.filter fun o => decide (o.f0 < y.f0)) ++ y :: l.filter fun o => decide (y.f0 < o.f0)
theorem TrainP.del {a b : Int} {l : List S66} (h : TrainP a b l) (id : Int) : TrainP a b (delV l id) :=
  ⟨h.seats, h.pieces, Nat.le_trans (List.length_filter_le _ _) h.short, fun o ho => h.each o (List.mem_filter.1 ho).1, h.order.filter _⟩
theorem ins_length (l : List S66) (y : S66) : (insV l y).length ≤ l.length + 1 := by
  unfold insV
  rw [List.length_append, List.length_cons]
  induction l with
  | nil => simp
  | cons o t ih =>
    rw [List.filter_cons, List.filter_cons]
    by_cases h1 : o.f0 < y.f0
    · rw [if_pos (decide_eq_true h1), if_neg (by simp; omega)]
      simp only [List.length_cons]; omega
    · rw [if_neg (by simpa using h1)]
      split <;> simp only [List.length_cons] <;> omega
theorem TrainP.ins {a b : Int} {l : List S66} (h : TrainP a b l) (y : S66) (hl : l.length < 200) (h0 : 0 < y.f0) (h1 : 0 ≤ y.f1 ∧ y.f1 < a) (h2 : 0 ≤ y.f2 ∧ y.f2 < y.f3 ∧ y.f3 ≤ b) (hn : ∀ o, o ∈ l → impl_TrainOk.l3 y o = false) :
    TrainP a b (insV l y) := by
  refine ⟨h.seats, h.pieces, by have := ins_length l y; omega, fun o ho => ?_, ?_⟩
  · unfold insV at ho
    rcases List.mem_append.1 ho with ho | ho
    · exact h.each o (List.mem_filter.1 ho).1
    · rcases List.mem_cons.1 ho with rfl | ho
      · exact ⟨h0, h1, h2⟩
      · exact h.each o (List.mem_filter.1 ho).1
  · unfold insV
    rw [List.pairwise_append, List.pairwise_cons]
    refine ⟨h.order.filter _, ⟨fun o ho => ?_, h.order.filter _⟩, fun p hp q hq => ?_⟩
    · have := List.mem_filter.1 ho
      exact ⟨of_decide_eq_true this.2, by rw [clash_comm]; exact hn o this.1⟩
    · have hp' := List.mem_filter.1 hp
      have lp := of_decide_eq_true hp'.2
      rcases List.mem_cons.1 hq with rfl | hq
      · exact ⟨lp, hn p hp'.1⟩
      · have hq' := List.mem_filter.1 hq
        have lq := of_decide_eq_true hq'.2
        refine ⟨by omega, ?_⟩
        obtain ⟨i, hi, rfl⟩ := List.mem_iff_getElem.1 hp'.1
        obtain ⟨j, hj, rfl⟩ := List.mem_iff_getElem.1 hq'.1
        have o := List.pairwise_iff_getElem.1 h.order
        rcases Nat.lt_trichotomy i j with c | c | c
        · exact (o i j hi hj c).2
        · subst c; omega
        · have := (o j i hj hi c).1; omega
/-- The bookings as the reference copies them: without one number, and with another one put in. -/
def heldV (id : Int) (y : S66) : List S66 → Bool → List S66
  | [], put => if put = true then [] else [y]
  | o :: t, put => (if put = false ∧ o.f0 > y.f0 then [y] else []) ++ (if o.f0 = id then [] else [o]) ++ heldV id y t (put || decide (o.f0 > y.f0))
theorem held_true (id : Int) (y : S66) (l : List S66) : heldV id y l true = delV l id := by
  induction l with
  | nil => rfl
  | cons o t ih =>
    unfold heldV delV
    rw [List.filter_cons]
    simp only [Bool.true_eq_false, false_and, if_false, List.nil_append, Bool.true_or, ih]
    by_cases h : o.f0 = id
    · simp [h, delV]
    · simp [h, delV]
theorem del_same {l : List S66} {id : Int} (h : ∀ o, o ∈ l → o.f0 ≠ id) : delV l id = l := by
  unfold delV
  rw [List.filter_eq_self]
  intro o ho
  simpa using h o ho
theorem held_ins (y : S66) : ∀ (l : List S66), (l.Pairwise fun p q => p.f0 < q.f0) → (∀ o, o ∈ l → o.f0 ≠ 0) → (∀ o, o ∈ l → o.f0 ≠ y.f0) → heldV 0 y l false = insV l y
  | [], _, _, _ => rfl
  | o :: t, hp, h0, hy => by
    unfold heldV insV
    rw [if_neg (h0 o List.mem_cons_self), List.filter_cons, List.filter_cons]
    have hpc := List.pairwise_cons.1 hp
    by_cases h : o.f0 > y.f0
    · have e1 : t.filter (fun x => decide (x.f0 < y.f0)) = [] := by
        rw [List.filter_eq_nil_iff]
        intro x hx
        have := hpc.1 x hx
        simp; omega
      have e2 : t.filter (fun x => decide (y.f0 < x.f0)) = t := by
        rw [List.filter_eq_self]
        intro x hx
        have := hpc.1 x hx
        simp; omega
      rw [if_pos ⟨rfl, h⟩, if_neg (by simp; omega), if_pos (by simpa using h), e1, e2, decide_eq_true h, Bool.or_true, held_true, del_same (fun x hx => h0 x (List.mem_cons_of_mem _ hx))]
      rfl
    · have := hy o List.mem_cons_self
      rw [if_neg (fun c => h c.2), if_pos (by simp; omega), if_neg (by simp; omega), decide_eq_false h, Bool.or_false, held_ins y t hpc.2 (fun x hx => h0 x (List.mem_cons_of_mem _ hx)) (fun x hx => hy x (List.mem_cons_of_mem _ hx))]
      rfl
theorem s66_eta (o : S66) : (⟨o.f0, o.f1, o.f2, o.f3⟩ : S66) = o := rfl
theorem spec_same (a b : Int) (l : List S66) (h : l.length ≤ 1048576) : Ev (fun k => spec_l14Same.f k a b l) (a, b, l) := by
  unfold spec_l14Same.f
  have key : ∀ i, i ≤ l.length → ∀ acc : List S66, acc = l.take i → Ev (fun k => spec_l14Same.l0 k (i : Int) a b l a b acc) (a, b, l) := by
    refine down l.length ?_ ?_
    · intro acc ha
      rw [List.take_length] at ha
      subst ha
      exact ev_some (fun k => by simp [spec_l14Same.l0])
    · intro i hi ih acc ha
      have f1 : (i : Int) < l.length := by omega
      have f2 : (0 : Int) ≤ i := by omega
      have f3 : acc.length < 4398046511104 := by rw [ha, List.length_take]; omega
      have hw := w64s hi (by omega)
      refine ev_at (ih (acc ++ [l.getD i z66]) (by rw [ha, take_getD z66 l i hi])) (fun k => ?_)
      simp only [spec_l14Same.l0, if_pos f1, if_pos f2, if_pos f3, hw, s66_eta, rd_T66, Int.toNat_natCast]
  simpa using key 0 (Nat.zero_le _) [] (by simp)
theorem spec_held (a b : Int) (l : List S66) (id : Int) (y : S66) (h : l.length ≤ 1048576) : Ev (fun k => spec_l14Held.f k a b l id y.f0 y.f1 y.f2 y.f3) (a, b, heldV id y l (y.f0 == 0)) := by
  unfold spec_l14Held.f
  have key : ∀ i, i ≤ l.length → ∀ (acc : List S66) (put : Bool), acc.length ≤ 2 * i → Ev (fun k => spec_l14Held.l0 k id put (i : Int) a b l y.f0 y.f1 y.f2 y.f3 a b acc) (a, b, acc ++ heldV id y (l.drop i) put) := by
    refine down l.length ?_ ?_
    · intro acc put ha
      rw [List.drop_length]
      have f3 : acc.length < 4398046511104 := by omega
      refine ev_some (fun k => ?_)
      unfold heldV
      cases put with
      | true => simp [spec_l14Held.l0]
      | false => simp [spec_l14Held.l0, f3]
    · intro i hi ih acc put ha
      have f1 : (i : Int) < l.length := by omega
      have f2 : (0 : Int) ≤ i := by omega
      have f3 : acc.length < 4398046511104 := by omega
      have f4 : (acc ++ [y]).length < 4398046511104 := by rw [List.length_append, List.length_singleton]; omega
      have hw := w64s hi (by omega)
      rw [drop_getD z66 l i hi]
      have ho : rd_T66 l (i : Int) = l.getD i z66 := by simp [rd_T66]
      obtain ⟨o, hoo⟩ : ∃ o, l.getD i z66 = o := ⟨_, rfl⟩
      rw [hoo] at ho ⊢
      by_cases c : put = false ∧ o.f0 > y.f0
      · obtain ⟨rfl, c⟩ := c
        have e : heldV id y (o :: l.drop (i + 1)) false = [y] ++ (if o.f0 = id then [] else [o]) ++ heldV id y (l.drop (i + 1)) true := by
          conv => lhs; unfold heldV
          rw [if_pos ⟨rfl, c⟩, decide_eq_true c, Bool.or_true]
        rw [e]
        by_cases d : o.f0 = id
        · rw [if_pos d, List.append_nil, ← List.append_assoc]
          refine ev_at (f := fun k => spec_l14Held.j1 k id false (i : Int) true a b l y.f0 y.f1 y.f2 y.f3 a b acc) (ev_at (ih (acc ++ [y]) true (by rw [List.length_append, List.length_singleton]; omega)) (fun k => ?_)) (fun k => ?_)
          · simp only [spec_l14Held.j1, if_true, if_pos f3, Option.bind_some, if_pos f2, if_pos f1, ho, if_pos d, hw]
          · simp only [spec_l14Held.l0, if_pos f1, Bool.false_eq_true, if_false, if_pos f2, ho, decide_eq_true c]
        · rw [if_neg d]
          rw [← List.append_assoc, ← List.append_assoc]
          refine ev_at (f := fun k => spec_l14Held.j1 k id false (i : Int) true a b l y.f0 y.f1 y.f2 y.f3 a b acc) (ev_at (ih (acc ++ [y] ++ [o]) true (by simp only [List.length_append, List.length_singleton]; omega)) (fun k => ?_)) (fun k => ?_)
          · simp only [spec_l14Held.j1, if_true, if_pos f3, Option.bind_some, if_pos f2, if_pos f1, ho, if_neg d, hw]
            rw [if_pos f4]
          · simp only [spec_l14Held.l0, if_pos f1, Bool.false_eq_true, if_false, if_pos f2, ho, decide_eq_true c]
      · have e : heldV id y (o :: l.drop (i + 1)) put = (if o.f0 = id then [] else [o]) ++ heldV id y (l.drop (i + 1)) put := by
          conv => lhs; unfold heldV
          rw [if_neg c]
          have : (put || decide (o.f0 > y.f0)) = put := by
            cases put with
            | true => rfl
            | false => simpa using fun h => c ⟨rfl, h⟩
          rw [this]; rfl
        rw [e]
        have e1 : ∀ k, spec_l14Held.l0 (k + 1) id put (i : Int) a b l y.f0 y.f1 y.f2 y.f3 a b acc = spec_l14Held.j1 k id put (i : Int) false a b l y.f0 y.f1 y.f2 y.f3 a b acc := fun k => by
          cases put with
          | true => simp only [spec_l14Held.l0, if_pos f1, if_true]
          | false =>
            have : ¬ o.f0 > y.f0 := fun h => c ⟨rfl, h⟩
            simp only [spec_l14Held.l0, if_pos f1, Bool.false_eq_true, if_false, if_pos f2, ho, decide_eq_false this]
        by_cases d : o.f0 = id
        · rw [if_pos d, List.nil_append]
          refine ev_at (ev_at (ih acc put (by omega)) (fun k => ?_)) e1
          simp only [spec_l14Held.j1, Bool.false_eq_true, if_false, if_pos f2, if_pos f1, ho, if_pos d, hw]
        · rw [if_neg d, ← List.append_assoc]
          refine ev_at (ev_at (ih (acc ++ [o]) put (by rw [List.length_append, List.length_singleton]; omega)) (fun k => ?_)) e1
          simp only [spec_l14Held.j1, Bool.false_eq_true, if_false, if_pos f2, if_pos f1, ho, if_neg d, hw, if_pos f3]
  have := key 0 (Nat.zero_le _) [] (y.f0 == 0) (by simp)
  simpa using this
end Go.Proofs.Ytklikbjlfaednaa.Pure
