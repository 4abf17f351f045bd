/- The plain texts of FnJourney, one behind the other. -/
import Derived.Test.YtdpjoblnjjkbfaaDoorE
namespace Go.Proofs.YtdpjoblnjjkbfaaDoor.Pure
open Go.RowKit Go.Proofs.YtdpjoblnjjkbfaaDoor.P Go.Proofs.YtdpjoblnjjkbfaaDoorW.PrintWords Go.Proofs.YtdpjoblnjjkbfaaDoorW.PrintLast
set_option linter.unusedVariables false
set_option linter.unusedSimpArgs false

def inB (x a b : Int) : Bool := decide (a ≤ x) && decide (x ≤ b)
theorem between (x a b : Int) : impl_between.f x a b = some (inB x a b) := by unfold impl_between.f inB; by_cases h : a ≤ x <;> simp [h]
theorem inB_iff {x a b : Int} : inB x a b = true ↔ a ≤ x ∧ x ≤ b := by simp [inB]

/-- A loop that looks for one. -/
theorem ev_any {α : Type} (l : List α) (p : α → Bool) (g : Nat → Int → Option Bool) (h0 : ∀ k, g (k + 1) l.length = some false)
    (h1 : ∀ k (i : Nat) (h : i < l.length), p l[i] = true → g (k + 1) i = some true) (h2 : ∀ k (i : Nat) (h : i < l.length), p l[i] = false → g (k + 1) i = g k ((i + 1 : Nat) : Int)) :
    Ev (fun k => g k 0) (l.any p) := by
  have key : ∀ i, i ≤ l.length → Ev (fun k => g k (i : Int)) ((l.drop i).any p) := by
    refine down l.length ?_ ?_
    · rw [List.drop_of_length_le (Nat.le_refl _)]
      exact ev_some h0
    · intro i hi ih
      rw [List.drop_eq_getElem_cons hi, List.any_cons]
      cases hp : p l[i] with
      | false => rw [Bool.false_or]; exact ev_at ih (fun k => h2 k i hi hp)
      | true => simp only [Bool.true_or]; exact ev_some (fun k => h1 k i hi hp)
  have := key 0 (Nat.zero_le _)
  simpa using this

theorem ev_allE (n : Nat) (p : Nat → Bool) (g : Nat → Int → Option Bool) (fin : Bool) (h0 : Ev (fun k => g k n) fin)
    (h1 : ∀ i : Nat, i < n → p i = true → ∀ r, Ev (fun k => g k ((i + 1 : Nat) : Int)) r → Ev (fun k => g k i) r) (h2 : ∀ i : Nat, i < n → p i = false → Ev (fun k => g k i) false) :
    Ev (fun k => g k 0) ((List.range n).all p && fin) := by
  have key : ∀ i, i ≤ n → Ev (fun k => g k (i : Int)) (((List.range n).drop i).all p && fin) := by
    refine down n ?_ ?_
    · rw [List.drop_of_length_le (by simp)]
      simpa using h0
    · intro i hi ih
      rw [List.drop_eq_getElem_cons (by simpa using hi), List.all_cons, List.getElem_range]
      cases hp : p i with
      | true => rw [Bool.true_and]; exact h1 i hi hp _ ih
      | false => simp only [Bool.false_and]; exact h2 i hi hp
  have := key 0 (Nat.zero_le _)
  simpa using this
theorem w64m {i n : Nat} (h : i < n) (hn : n ≤ maxLen) : wrap64 ((i : Int) + 1) = ((i + 1 : Nat) : Int) := by unfold maxLen at hn; rw [w64 (by omega) (by omega)]; omega

def nameCh (b : Int) : Bool := (decide (97 ≤ b) && decide (b ≤ 122)) || (decide (48 ≤ b) && decide (b ≤ 57))
def nameB (s : ByteArray) : Bool := (List.range s.size).all (fun i => nameCh (bt s (i : Int))) && inB s.size 1 12
theorem impl_name (s : ByteArray) (h : s.size ≤ maxLen) : Ev (fun k => impl_nameOk.f k s) (nameB s) := by
  unfold nameB
  by_cases c1 : (s.size : Int) < 1
  · have e : inB s.size 1 12 = false := by unfold inB; rw [decide_eq_false (by omega)]; rfl
    simp only [impl_nameOk.f, c1, if_true, e, Bool.and_false]
    exact ev_some (fun k => by simp [impl_nameOk.j0])
  · simp only [impl_nameOk.f, c1, if_false]
    by_cases c2 : (s.size : Int) > 12
    · have e : inB s.size 1 12 = false := by unfold inB; rw [decide_eq_false (p := (s.size : Int) ≤ 12) (by omega), Bool.and_false]
      simp only [e, Bool.and_false]
      exact ev_some (fun k => by simp [impl_nameOk.j0, c2])
    · have e : inB s.size 1 12 = true := by simp [inB]; omega
      rw [e]
      have key := ev_allE s.size (fun i => nameCh (bt s (i : Int))) (fun k i => impl_nameOk.l0 k s i) true (ev_some (fun k => by simp [impl_nameOk.l0])) (by
        intro i hi hp r hr
        refine ev_at hr (fun k => ?_)
        simp only [impl_nameOk.l0, w64m hi h]
        rw [if_pos (by omega), if_pos (by omega)]
        simp [nameCh] at hp
        by_cases c1 : bt s i < 97 <;> by_cases c2 : bt s i > 122 <;> by_cases c3 : bt s i < 48 <;> by_cases c4 : bt s i > 57 <;> simp [c1, c2, c3, c4] <;> omega) (by
        intro i hi hp
        refine ev_some (fun k => ?_)
        simp only [impl_nameOk.l0, w64m hi h]
        rw [if_pos (by omega), if_pos (by omega)]
        simp [nameCh] at hp
        by_cases c1 : bt s i < 97 <;> by_cases c2 : bt s i > 122 <;> by_cases c3 : bt s i < 48 <;> by_cases c4 : bt s i > 57 <;> simp [c1, c2, c3, c4] <;> omega)
      exact ev_at key (fun k => by simp [impl_nameOk.j0, c2])

def callB (cs : List S43) (i : Nat) : Bool := inB (cs.getD i z43).f0 0 29 && inB (cs.getD i z43).f2 0 100000 && inB (cs.getD i z43).f1 0 (cs.getD i z43).f2 && (decide (i = 0) || (decide ((cs.getD (i - 1) z43).f2 < (cs.getD i z43).f1) && decide ((cs.getD (i - 1) z43).f0 ≠ (cs.getD i z43).f0)))
def callsB (cs : List S43) : Bool := (List.range cs.length).all (callB cs)
def tripB (t : S46) : Bool := nameB t.f0 && inB t.f1.length 2 12 && callsB t.f1
theorem isMinute (x : Int) : impl_isMinute.f x = some (inB x 0 100000) := by simp [impl_isMinute.f, between]
theorem impl_trip (t : S46) (h : t.f0.size ≤ maxLen) (hl : t.f1.length ≤ 1048576) : Ev (fun k => impl_TripOk.f k t.f0 t.f1) (tripB t) := by
  have hn := impl_name t.f0 h
  have key := ev_allE t.f1.length (callB t.f1) (fun k i => impl_TripOk.l0 k t.f1 t.f1.length i t.f0 t.f1) true (ev_some (fun k => by simp [impl_TripOk.l0])) (by
    intro i hi hp r hr
    simp only [callB, Bool.and_eq_true, Bool.or_eq_true, decide_eq_true_eq] at hp
    obtain ⟨⟨⟨h0, h1⟩, h2⟩, h3⟩ := hp
    have h2' := inB_iff.1 h2
    have h1' := inB_iff.1 h1
    have h5 : inB (t.f1.getD i z43).f1 0 100000 = true := inB_iff.2 (by omega)
    refine Ev.step (f := fun k => impl_TripOk.j2 k i t.f1 t.f1.length i false t.f0 t.f1 (t.f1.getD i z43).f0 (t.f1.getD i z43).f1 (t.f1.getD i z43).f2) (fun k => ?_) ?_
    · simp only [impl_TripOk.l0, between, isMinute, rd_T43, Int.toNat_natCast, Option.bind_some, h0, h1, h5, if_true]
      rw [if_pos (by omega), if_pos (by omega), if_pos (by omega)]
      exact congrArg (fun b => impl_TripOk.j2 k i t.f1 t.f1.length i b t.f0 t.f1 (t.f1.getD i z43).f0 (t.f1.getD i z43).f1 (t.f1.getD i z43).f2) (decide_eq_false (show ¬ (t.f1.getD i z43).f1 > (t.f1.getD i z43).f2 by omega))
    · refine ev_at hr (fun k => ?_)
      simp only [impl_TripOk.j2]
      rw [if_neg (by simp)]
      by_cases c : (i : Int) > 0
      · have e : ((i : Int) - 1) = ((i - 1 : Nat) : Int) := by omega
        have e2 : rd_T43 t.f1 ((i - 1 : Nat) : Int) = t.f1.getD (i - 1) z43 := rfl
        rw [if_pos c, w64 (by omega) (by omega), e, if_pos (by omega), if_pos (by omega), e2]
        have h4 := h3.resolve_left (by omega)
        rw [if_neg (by omega), if_neg (Ne.symm h4.2), w64s hi (by omega)]
      · rw [if_neg c, w64s hi (by omega)]) (by
    intro i hi hp
    by_cases h0 : inB (t.f1.getD i z43).f0 0 29 = true ∧ inB (t.f1.getD i z43).f2 0 100000 = true ∧ inB (t.f1.getD i z43).f1 0 (t.f1.getD i z43).f2 = true
    · obtain ⟨h0, h1, h2⟩ := h0
      have h2' := inB_iff.1 h2
      have h1' := inB_iff.1 h1
      have h5 : inB (t.f1.getD i z43).f1 0 100000 = true := inB_iff.2 (by omega)
      refine Ev.step (f := fun k => impl_TripOk.j2 k i t.f1 t.f1.length i false t.f0 t.f1 (t.f1.getD i z43).f0 (t.f1.getD i z43).f1 (t.f1.getD i z43).f2) (fun k => ?_) (ev_some (fun k => ?_))
      · simp only [impl_TripOk.l0, between, isMinute, rd_T43, Int.toNat_natCast, Option.bind_some, h0, h1, h5, if_true]
        rw [if_pos (by omega), if_pos (by omega), if_pos (by omega)]
        exact congrArg (fun b => impl_TripOk.j2 k i t.f1 t.f1.length i b t.f0 t.f1 (t.f1.getD i z43).f0 (t.f1.getD i z43).f1 (t.f1.getD i z43).f2) (decide_eq_false (show ¬ (t.f1.getD i z43).f1 > (t.f1.getD i z43).f2 by omega))
      · simp only [callB, h0, h1, h2, Bool.true_and, Bool.or_eq_false_iff, decide_eq_false_iff_not, Bool.and_eq_false_iff] at hp
        simp only [impl_TripOk.j2]
        have e : ((i : Int) - 1) = ((i - 1 : Nat) : Int) := by omega
        have e2 : rd_T43 t.f1 ((i - 1 : Nat) : Int) = t.f1.getD (i - 1) z43 := rfl
        rw [if_neg (by simp), if_pos (by omega), w64 (by omega) (by omega), e, if_pos (by omega), if_pos (by omega), e2]
        by_cases c : (t.f1.getD i z43).f1 ≤ (t.f1.getD (i - 1) z43).f2
        · rw [if_pos c]
        · rw [if_neg c, if_pos]
          rcases hp.2 with h | h
          · omega
          · exact (Classical.not_not.1 h).symm
    · refine Ev.step (f := fun k => impl_TripOk.j2 k i t.f1 t.f1.length i true t.f0 t.f1 (t.f1.getD i z43).f0 (t.f1.getD i z43).f1 (t.f1.getD i z43).f2) (fun k => ?_) (ev_some (fun k => by simp [impl_TripOk.j2]))
      simp only [impl_TripOk.l0, between, isMinute, rd_T43, Int.toNat_natCast, Option.bind_some]
      rw [if_pos (by omega), if_pos (by omega), if_pos (by omega)]
      by_cases a0 : inB (t.f1.getD i z43).f0 0 29 = true
      · rw [if_pos a0]
        by_cases a1 : inB (t.f1.getD i z43).f1 0 100000 = true
        · rw [if_pos a1]
          by_cases a2 : inB (t.f1.getD i z43).f2 0 100000 = true
          · rw [if_pos a2]
            have a1' := inB_iff.1 a1
            refine congrArg (fun b => impl_TripOk.j2 k i t.f1 t.f1.length i b t.f0 t.f1 (t.f1.getD i z43).f0 (t.f1.getD i z43).f1 (t.f1.getD i z43).f2) (decide_eq_true (show (t.f1.getD i z43).f1 > (t.f1.getD i z43).f2 from ?_))
            exact Classical.not_not.1 (fun hc => h0 ⟨a0, a2, inB_iff.2 (by omega)⟩)
          · rw [if_neg a2]
        · rw [if_neg a1]
      · rw [if_neg a0])
  simp only [Bool.and_true] at key
  unfold tripB
  cases hb : nameB t.f0 with
  | false =>
    refine Ev.bind (hb ▸ hn) ?_
    exact ev_some (fun k => by simp [impl_TripOk.j0])
  | true =>
    refine Ev.bind (hb ▸ hn) ?_
    simp only [if_true, between, Option.bind_some]
    cases hi : inB t.f1.length 2 12 with
    | false => exact ev_some (fun k => by simp [impl_TripOk.j0])
    | true => exact ev_at key (fun k => by simp [impl_TripOk.j0])

/-- The place's name is none of those ahead of it. -/
def newB (l : List S46) (i : Nat) : Bool := (List.range i).all (fun j => decide ((l.getD j z46).f0.toList ≠ (l.getD i z46).f0.toList))
def tableB (l : List S46) : Bool := decide (l.length ≤ 24) && (List.range l.length).all (fun i => tripB (l.getD i z46) && newB l i)
def Fit (l : List S46) : Prop := l.length ≤ 1048576 ∧ ∀ t, t ∈ l → t.f0.size ≤ maxLen ∧ t.f1.length ≤ 1048576
theorem rdN (l : List S46) (i : Nat) : rd_T46 l (i : Int) = l.getD i z46 := rfl
theorem named_new (l : List S46) (i : Nat) (hi : i < l.length) : impl_tripNamed.l0 (l.take i) (l.getD i z46).f0 ≥ 0 ↔ newB l i = false := by
  have e : newB l i = true ↔ ∀ j, j < i → ¬ (l.getD j z46).f0.toList = (l.getD i z46).f0.toList := by simp [newB]
  have e2 : (l.take i).findIdx (fun x => x.f0.toList == (l.getD i z46).f0.toList) < (l.take i).length ↔ ∃ x, x ∈ l.take i ∧ x.f0.toList = (l.getD i z46).f0.toList := by
    rw [List.findIdx_lt_length]; simp
  have e3 : (∃ x, x ∈ l.take i ∧ x.f0.toList = (l.getD i z46).f0.toList) ↔ ∃ j, j < i ∧ (l.getD j z46).f0.toList = (l.getD i z46).f0.toList := by
    constructor
    · rintro ⟨x, hx, he⟩
      obtain ⟨j, hj, rfl⟩ := List.mem_iff_getElem.1 hx
      have hj' : j < i := by rw [List.length_take] at hj; omega
      refine ⟨j, hj', ?_⟩
      rw [List.getElem_take] at he
      simpa [List.getD_eq_getElem?_getD, List.getElem?_eq_getElem (show j < l.length by omega)] using he
    · rintro ⟨j, hj, he⟩
      refine ⟨l.getD j z46, ?_, he⟩
      refine List.mem_iff_getElem.2 ⟨j, by rw [List.length_take]; omega, ?_⟩
      rw [List.getElem_take]
      simp [List.getD_eq_getElem?_getD, List.getElem?_eq_getElem (show j < l.length by omega)]
  rw [e3] at e2
  unfold impl_tripNamed.l0
  by_cases c : (l.take i).findIdx (fun x => x.f0.toList == (l.getD i z46).f0.toList) < (l.take i).length
  · rw [if_pos c]
    refine ⟨fun _ => ?_, fun _ => by omega⟩
    obtain ⟨j, hj, he⟩ := e2.1 c
    cases hb : newB l i with
    | false => rfl
    | true => exact absurd he (e.1 hb j hj)
  · rw [if_neg c]
    refine ⟨fun hh => absurd hh (by decide), fun hb => absurd (e.2 (fun j hj he => c (e2.2 ⟨j, hj, he⟩))) (by rw [hb]; decide)⟩
theorem impl_table (l : List S46) (h : Fit l) : Ev (fun k => impl_TableOk.f k l) (tableB l) := by
  unfold tableB impl_TableOk.f
  by_cases c : (l.length : Int) > 24
  · rw [decide_eq_false (by omega)]
    simp only [c, if_true]
    exact Ev.now _
  rw [decide_eq_true (by omega)]
  simp only [c, if_false, Bool.true_and]
  have key := ev_allE l.length (fun i => tripB (l.getD i z46) && newB l i) (fun k i => impl_TableOk.l0 k l l l.length i) true (ev_some (fun k => by simp [impl_TableOk.l0])) (by
    intro i hi hp r hr
    obtain ⟨h1, h2⟩ := Bool.and_eq_true_iff.1 hp
    have ht := h.2 _ (getD_mem z46 l i hi)
    refine Ev.step (f := fun k => (impl_TripOk.f k (l.getD i z46).f0 (l.getD i z46).f1).bind fun t => if t = true then impl_TableOk.l0 k l l l.length ((i + 1 : Nat) : Int) else some false) (fun k => ?_) (Ev.bind (h1 ▸ impl_trip _ ht.1 ht.2) (by simpa using hr))
    simp only [impl_TableOk.l0, rd_T46, Int.toNat_natCast]
    rw [if_pos (by omega), if_pos (by omega), if_pos (by omega), if_pos (by omega)]
    have hnn := named_new l i hi
    simp only [impl_tripNamed.f]
    rw [if_pos (by rw [List.length_take]; omega), Option.bind_some, if_neg (fun hh => by rw [hnn.1 hh] at h2; exact absurd h2 (by decide)), w64s hi (by omega)]) (by
    intro i hi hp
    have ht := h.2 _ (getD_mem z46 l i hi)
    refine Ev.step (f := fun k => (impl_TripOk.f k (l.getD i z46).f0 (l.getD i z46).f1).bind fun t => if t = true then (if impl_tripNamed.l0 (l.take i) (l.getD i z46).f0 ≥ 0 then some false else impl_TableOk.l0 k l l l.length ((i + 1 : Nat) : Int)) else some false) (fun k => ?_) (Ev.bind (impl_trip _ ht.1 ht.2) ?_)
    · simp only [impl_TableOk.l0, rd_T46, Int.toNat_natCast]
      rw [if_pos (by omega), if_pos (by omega), if_pos (by omega), if_pos (by omega)]
      simp only [impl_tripNamed.f]
      rw [if_pos (by rw [List.length_take]; omega), Option.bind_some, w64s hi (by omega)]
    · cases hb : tripB (l.getD i z46) with
      | false => exact Ev.now _
      | true =>
        rw [hb, Bool.true_and] at hp
        have hnn := (named_new l i hi).2 hp
        simp only [if_true, hnn]
        exact Ev.now _)
  simpa using key

theorem calls_ok {t : S46} (h : tripB t = true) {c : S43} (hc : c ∈ t.f1) : 0 ≤ c.f0 ∧ c.f0 < 30 ∧ 0 ≤ c.f1 ∧ c.f1 ≤ c.f2 ∧ c.f2 ≤ 100000 := by
  obtain ⟨i, hi, rfl⟩ := List.mem_iff_getElem.1 hc
  simp only [tripB, callsB, Bool.and_eq_true, List.all_eq_true, List.mem_range] at h
  have := h.2 i hi
  simp only [callB, Bool.and_eq_true, inB_iff, List.getD_eq_getElem?_getD, List.getElem?_eq_getElem hi, Option.getD_some] at this
  omega
theorem trip_of {l : List S46} (h : tableB l = true) {t : S46} (ht : t ∈ l) : tripB t = true := by
  obtain ⟨i, hi, rfl⟩ := List.mem_iff_getElem.1 ht
  simp only [tableB, Bool.and_eq_true, List.all_eq_true, List.mem_range] at h
  have := (h.2 i hi).1
  simpa [List.getD_eq_getElem?_getD, List.getElem?_eq_getElem hi] using this


theorem l01In (x a b : Int) : spec_l01In.f x a b = some (inB x a b) := by unfold spec_l01In.f inB; by_cases h : a ≤ x <;> simp [h]
theorem spec_name (s : ByteArray) (h : s.size ≤ maxLen) : Ev (fun k => spec_l01Name.f k s) (nameB s) := by
  refine ev_allE s.size (fun i => nameCh (bt s (i : Int))) (fun k i => spec_l01Name.l0 k s i) _ (ev_some (fun k => by simp [spec_l01Name.l0, l01In])) ?_ ?_
  · intro i hi hp r hr
    refine ev_at hr (fun k => ?_)
    simp only [spec_l01Name.l0, w64m hi h]
    rw [if_pos (by omega), if_pos (by omega)]
    simp [nameCh] at hp
    by_cases c1 : bt s i ≥ 97 <;> by_cases c2 : bt s i ≤ 122 <;> by_cases c3 : bt s i ≥ 48 <;> by_cases c4 : bt s i ≤ 57 <;> simp [c1, c2, c3, c4] <;> omega
  · intro i hi hp
    refine ev_some (fun k => ?_)
    simp only [spec_l01Name.l0, w64m hi h]
    rw [if_pos (by omega), if_pos (by omega)]
    simp [nameCh] at hp
    by_cases c1 : bt s i ≥ 97 <;> by_cases c2 : bt s i ≤ 122 <;> by_cases c3 : bt s i ≥ 48 <;> by_cases c4 : bt s i ≤ 57 <;> simp [c1, c2, c3, c4] <;> omega
theorem spec_trip (t : S46) (h : t.f0.size ≤ maxLen) (hl : t.f1.length ≤ 1048576) : Ev (fun k => spec_TripOk.f k t.f0 t.f1) (tripB t) := by
  have hn := spec_name t.f0 h
  have key := ev_allE t.f1.length (callB t.f1) (fun k i => spec_TripOk.l0 k i t.f0 t.f1) true (ev_some (fun k => by simp [spec_TripOk.l0])) (by
    intro i hi hp r hr
    simp only [callB, Bool.and_eq_true, Bool.or_eq_true, decide_eq_true_eq] at hp
    obtain ⟨⟨⟨h0, h1⟩, h2⟩, h3⟩ := hp
    refine Ev.step (f := fun k => spec_TripOk.j2 k i false t.f0 t.f1 (t.f1.getD i z43).f0 (t.f1.getD i z43).f1 (t.f1.getD i z43).f2) (fun k => ?_) ?_
    · simp only [spec_TripOk.l0, l01In, rd_T43, Int.toNat_natCast, Option.bind_some, h0, h1, h2, if_true]
      rw [if_pos (by omega), if_pos (by omega)]; rfl
    · refine ev_at hr (fun k => ?_)
      simp only [spec_TripOk.j2]
      rw [if_neg (by simp)]
      by_cases c : (i : Int) > 0
      · have e : ((i : Int) - 1) = ((i - 1 : Nat) : Int) := by omega
        have e2 : rd_T43 t.f1 ((i - 1 : Nat) : Int) = t.f1.getD (i - 1) z43 := rfl
        rw [if_pos c, w64 (by omega) (by omega), e, if_pos (by omega), if_pos (by omega), e2]
        have h4 := h3.resolve_left (by omega)
        rw [if_neg (by omega), if_neg h4.2, w64s hi (by omega)]
      · rw [if_neg c, w64s hi (by omega)]) (by
    intro i hi hp
    by_cases h0 : inB (t.f1.getD i z43).f0 0 29 = true ∧ inB (t.f1.getD i z43).f2 0 100000 = true ∧ inB (t.f1.getD i z43).f1 0 (t.f1.getD i z43).f2 = true
    · obtain ⟨h0, h1, h2⟩ := h0
      refine Ev.step (f := fun k => spec_TripOk.j2 k i false t.f0 t.f1 (t.f1.getD i z43).f0 (t.f1.getD i z43).f1 (t.f1.getD i z43).f2) (fun k => ?_) (ev_some (fun k => ?_))
      · simp only [spec_TripOk.l0, l01In, rd_T43, Int.toNat_natCast, Option.bind_some, h0, h1, h2, if_true]
        rw [if_pos (by omega), if_pos (by omega)]; rfl
      · simp only [callB, h0, h1, h2, Bool.true_and, Bool.or_eq_false_iff, decide_eq_false_iff_not, Bool.and_eq_false_iff] at hp
        simp only [spec_TripOk.j2]
        have e : ((i : Int) - 1) = ((i - 1 : Nat) : Int) := by omega
        have e2 : rd_T43 t.f1 ((i - 1 : Nat) : Int) = t.f1.getD (i - 1) z43 := rfl
        rw [if_neg (by simp), if_pos (by omega), w64 (by omega) (by omega), e, if_pos (by omega), if_pos (by omega), e2]
        by_cases c : (t.f1.getD (i - 1) z43).f2 ≥ (t.f1.getD i z43).f1
        · rw [if_pos c]
        · rw [if_neg c, if_pos]
          rcases hp.2 with h | h
          · omega
          · exact Classical.not_not.1 h
    · refine Ev.step (f := fun k => spec_TripOk.j2 k i true t.f0 t.f1 (t.f1.getD i z43).f0 (t.f1.getD i z43).f1 (t.f1.getD i z43).f2) (fun k => ?_) (ev_some (fun k => by simp [spec_TripOk.j2]))
      simp only [spec_TripOk.l0, l01In, rd_T43, Int.toNat_natCast, Option.bind_some]
      rw [if_pos (by omega), if_pos (by omega)]
      revert h0
      cases inB (t.f1.getD i z43).f0 0 29 <;> cases inB (t.f1.getD i z43).f2 0 100000 <;> cases inB (t.f1.getD i z43).f1 0 (t.f1.getD i z43).f2 <;> simp)
  simp only [Bool.and_true] at key
  unfold tripB
  cases hb : nameB t.f0 with
  | false =>
    refine Ev.bind (hb ▸ hn) ?_
    exact ev_some (fun k => by simp [spec_TripOk.j0])
  | true =>
    refine Ev.bind (hb ▸ hn) ?_
    simp only [if_true, l01In, Option.bind_some]
    cases hi : inB t.f1.length 2 12 with
    | false => exact ev_some (fun k => by simp [spec_TripOk.j0])
    | true => exact ev_at key (fun k => by simp [spec_TripOk.j0])
theorem spec_table (l : List S46) (h : Fit l) : Ev (fun k => spec_TableOk.f k l) (tableB l) := by
  unfold tableB spec_TableOk.f
  by_cases c : (l.length : Int) > 24
  · rw [decide_eq_false (by omega)]
    simp only [c, if_true]
    exact Ev.now _
  rw [decide_eq_true (by omega)]
  simp only [c, if_false, Bool.true_and]
  have inner : ∀ i : Nat, i < l.length → (newB l i = true → ∀ r, Ev (fun k => spec_TableOk.l0 k l ((i + 1 : Nat) : Int)) r → Ev (fun k => spec_TableOk.l1 k l i 0) r) ∧ (newB l i = false → Ev (fun k => spec_TableOk.l1 k l i 0) false) := by
    intro i hi
    have e : newB l i = true ↔ ∀ j, j < i → ¬ (l.getD j z46).f0.toList = (l.getD i z46).f0.toList := by simp [newB]
    constructor
    · intro hp r hr
      have key : ∀ j, j ≤ i → Ev (fun k => spec_TableOk.l1 k l i (j : Int)) r := by
        refine down i ?_ ?_
        · refine ev_at hr (fun k => ?_)
          simp [spec_TableOk.l1, w64s hi (by omega)]
        · intro j hj ih
          refine ev_at ih (fun k => ?_)
          simp only [spec_TableOk.l1]
          rw [if_pos (by omega), if_pos (by omega), if_pos (by omega), if_pos (by omega), if_pos (by omega), rdN l j, rdN l i, if_neg (e.1 hp j hj), w64s hj (by omega)]
      exact key 0 (Nat.zero_le _)
    · intro hp
      have : ∃ j, j < i ∧ (l.getD j z46).f0.toList = (l.getD i z46).f0.toList := by
        refine Classical.byContradiction (fun hc => ?_)
        rw [e.2 (fun j hj he => hc ⟨j, hj, he⟩)] at hp
        exact absurd hp (by decide)
      have key : ∀ d j : Nat, j + d ≤ i → (∃ j', j ≤ j' ∧ j' < i ∧ (l.getD j' z46).f0.toList = (l.getD i z46).f0.toList) → j + d = i → Ev (fun k => spec_TableOk.l1 k l i (j : Int)) false := by
        intro d
        induction d with
        | zero => intro j _ ⟨j', h1, h2, _⟩ hd; omega
        | succ d ih =>
          intro j hj ⟨j', h1, h2, h3⟩ hd
          by_cases he : (l.getD j z46).f0.toList = (l.getD i z46).f0.toList
          · refine ev_some (fun k => ?_)
            simp only [spec_TableOk.l1]
            rw [if_pos (by omega), if_pos (by omega), if_pos (by omega), if_pos (by omega), if_pos (by omega), rdN l j, rdN l i, if_pos he]
          · have hne : j ≠ j' := fun e => he (e ▸ h3)
            refine ev_at (ih (j + 1) (by omega) ⟨j', by omega, h2, h3⟩ (by omega)) (fun k => ?_)
            simp only [spec_TableOk.l1]
            rw [if_pos (by omega), if_pos (by omega), if_pos (by omega), if_pos (by omega), if_pos (by omega), rdN l j, rdN l i, if_neg he, w64s (show j < i by omega) (by omega)]
      obtain ⟨j, hj, he⟩ := this
      exact key i 0 (by omega) ⟨j, by omega, hj, he⟩ (by omega)
  have key := ev_allE l.length (fun i => tripB (l.getD i z46) && newB l i) (fun k i => spec_TableOk.l0 k l i) true (ev_some (fun k => by simp [spec_TableOk.l0])) (by
    intro i hi hp r hr
    obtain ⟨h1, h2⟩ := Bool.and_eq_true_iff.1 hp
    have ht := h.2 _ (getD_mem z46 l i hi)
    refine Ev.step (f := fun k => (spec_TripOk.f k (l.getD i z46).f0 (l.getD i z46).f1).bind fun t => if t = true then spec_TableOk.l1 k l i 0 else some false) (fun k => ?_) (Ev.bind (h1 ▸ spec_trip _ ht.1 ht.2) (by simpa using (inner i hi).1 h2 r hr))
    simp only [spec_TableOk.l0, rd_T46, Int.toNat_natCast]
    rw [if_pos (by omega), if_pos (by omega)]) (by
    intro i hi hp
    have ht := h.2 _ (getD_mem z46 l i hi)
    refine Ev.step (f := fun k => (spec_TripOk.f k (l.getD i z46).f0 (l.getD i z46).f1).bind fun t => if t = true then spec_TableOk.l1 k l i 0 else some false) (fun k => ?_) (Ev.bind (spec_trip _ ht.1 ht.2) ?_)
    · simp only [spec_TableOk.l0, rd_T46, Int.toNat_natCast]
      rw [if_pos (by omega), if_pos (by omega)]
    · cases hb : tripB (l.getD i z46) with
      | false => exact Ev.now _
      | true => rw [hb, Bool.true_and] at hp; simpa using (inner i hi).2 hp)
  simpa using key


def askB (l : List S46) (a1 a2 a3 a4 a5 : Int) : Bool := tableB l && inB a1 0 29 && inB a2 0 29 && inB a3 0 100000 && inB a4 0 60 && inB a5 0 5
theorem impl_asked (l : List S46) (h : Fit l) (a1 a2 a3 a4 a5 : Int) : Ev (fun k => impl_questionOk.f k l a1 a2 a3 a4 a5) (askB l a1 a2 a3 a4 a5) := by
  refine Ev.bind (impl_table l h) ?_
  simp only [between, Option.bind_some]
  unfold askB
  cases tableB l with
  | false => exact ev_some (fun k => by simp [impl_questionOk.j0])
  | true =>
    cases inB a1 0 29 with
    | false => exact ev_some (fun k => by simp [impl_questionOk.j0])
    | true =>
      cases inB a2 0 29 with
      | false => exact ev_some (fun k => by simp [impl_questionOk.j0])
      | true =>
        refine ev_some (fun k => ?_)
        simp only [impl_questionOk.j0, isMinute, impl_changeOk.f, between, Option.bind_some]
        cases inB a3 0 100000 <;> cases inB a4 0 60 <;> rfl
theorem spec_asked (l : List S46) (h : Fit l) (a1 a2 a3 a4 a5 : Int) : Ev (fun k => spec_l12Asked.f k l a1 a2 a3 a4 a5) (askB l a1 a2 a3 a4 a5) := by
  refine Ev.bind (spec_table l h) ?_
  simp only [l01In, spec_l12Change.f, Option.bind_some]
  unfold askB
  cases tableB l <;> cases inB a1 0 29 <;> cases inB a2 0 29 <;> cases inB a3 0 100000 <;> cases inB a4 0 60 <;> exact Ev.now _


/-- A leg along calls: from a node at a minute to a node behind it at a minute. -/
def LegIn : List S43 → Int → Int → Int → Int → Prop
  | [], _, _, _, _ => False
  | c :: cs, u, v, d, a => (c.f0 = u ∧ c.f2 = d ∧ ∃ e, e ∈ cs ∧ e.f0 = v ∧ e.f1 = a) ∨ LegIn cs u v d a
def Leg (l : List S46) (u v d a : Int) : Prop := ∃ t, t ∈ l ∧ LegIn t.f1 u v d a
/-- A way of n + 1 legs: from u at the minute d to v at the minute a. -/
def Path (l : List S46) (ch : Int) : Nat → Int → Int → Int → Int → Prop
  | 0, u, d, v, a => Leg l u v d a
  | n + 1, u, d, v, a => ∃ w d' a', Leg l u w d a' ∧ a' + ch ≤ d' ∧ Path l ch n w d' v a
theorem path_snoc (l : List S46) (ch : Int) (n : Nat) (u d v a : Int) : Path l ch (n + 1) u d v a ↔ ∃ w d' a', Path l ch n u d w a' ∧ a' + ch ≤ d' ∧ Leg l w v d' a := by
  induction n generalizing u d with
  | zero => exact Iff.rfl
  | succ n ih =>
    constructor
    · rintro ⟨w, d', a', h1, h2, h3⟩
      obtain ⟨w2, d2, a2, h4, h5, h6⟩ := (ih w d').1 h3
      exact ⟨w2, d2, a2, ⟨w, d', a', h1, h2, h4⟩, h5, h6⟩
    · rintro ⟨w2, d2, a2, ⟨w, d', a', h1, h2, h4⟩, h5, h6⟩
      exact ⟨w, d', a', h1, h2, (ih w d').2 ⟨w2, d2, a2, h4, h5, h6⟩⟩
theorem legIn_idx (cs : List S43) (u v d a : Int) : LegIn cs u v d a ↔ ∃ i, i < cs.length ∧ (cs.getD i z43).f0 = u ∧ (cs.getD i z43).f2 = d ∧ ∃ e, e ∈ cs.drop (i + 1) ∧ e.f0 = v ∧ e.f1 = a := by
  induction cs with
  | nil => simp [LegIn]
  | cons c cs ih =>
    simp only [LegIn, ih]
    constructor
    · rintro (⟨h1, h2, h3⟩ | ⟨i, hi, h1, h2, h3⟩)
      · exact ⟨0, by simp, by simpa using h1, by simpa using h2, by simpa using h3⟩
      · exact ⟨i + 1, by simpa using hi, by simpa using h1, by simpa using h2, by simpa using h3⟩
    · rintro ⟨i, hi, h1, h2, h3⟩
      cases i with
      | zero => exact Or.inl ⟨by simpa using h1, by simpa using h2, by simpa using h3⟩
      | succ i => exact Or.inr ⟨i, by simpa using hi, by simpa using h1, by simpa using h2, by simpa using h3⟩

theorem callsB_step {cs : List S43} (h : callsB cs = true) {i : Nat} (hi : i + 1 < cs.length) : (cs.getD i z43).f2 < (cs.getD (i + 1) z43).f1 ∧ (cs.getD (i + 1) z43).f1 ≤ (cs.getD (i + 1) z43).f2 := by
  simp only [callsB, List.all_eq_true, List.mem_range] at h
  have := h (i + 1) hi
  simp only [callB, Bool.and_eq_true, Bool.or_eq_true, decide_eq_true_eq, inB_iff, Nat.add_sub_cancel] at this
  obtain ⟨⟨_, h2⟩, h3⟩ := this
  exact ⟨(h3.resolve_left (by omega)).1, h2.2⟩
theorem callsB_later {cs : List S43} (h : callsB cs = true) (i : Nat) : ∀ j, i < j → j < cs.length → (cs.getD i z43).f2 < (cs.getD j z43).f1 ∧ (cs.getD j z43).f1 ≤ (cs.getD j z43).f2 := by
  intro j
  induction j with
  | zero => intro hj; omega
  | succ j ih =>
    intro hj hl
    have hs := callsB_step h hl
    rcases Nat.lt_or_ge i j with c | c
    · have := ih c (by omega)
      exact ⟨by omega, hs.2⟩
    · have e : i = j := by omega
      subst e; exact hs
theorem mem_drop_getD (cs : List S43) (i : Nat) (e : S43) : e ∈ cs.drop i ↔ ∃ j, i ≤ j ∧ j < cs.length ∧ cs.getD j z43 = e := by
  rw [List.mem_iff_getElem]
  constructor
  · rintro ⟨j, hj, rfl⟩
    rw [List.length_drop] at hj
    exact ⟨i + j, by omega, by omega, by simp [List.getD_eq_getElem?_getD, List.getElem?_eq_getElem (show i + j < cs.length by omega)]⟩
  · rintro ⟨j, h1, h2, rfl⟩
    refine ⟨j - i, by rw [List.length_drop]; omega, ?_⟩
    simp [List.getD_eq_getElem?_getD, List.getElem?_eq_getElem h2, show i + (j - i) = j by omega]
/-- Legs of a right timetable: nodes and minutes are in bounds, and it takes time. -/
theorem leg_ok {l : List S46} (h : tableB l = true) {u v d a : Int} (hl : Leg l u v d a) : 0 ≤ u ∧ u < 30 ∧ 0 ≤ v ∧ v < 30 ∧ 0 ≤ d ∧ d < a ∧ a ≤ 100000 := by
  obtain ⟨t, ht, hL⟩ := hl
  have hB := trip_of h ht
  obtain ⟨i, hi, rfl, rfl, e, he, rfl, rfl⟩ := (legIn_idx _ _ _ _ _).1 hL
  have h1 := calls_ok hB (getD_mem z43 t.f1 i hi)
  have h2 := calls_ok hB (List.mem_of_mem_drop he)
  obtain ⟨j, hj1, hj2, rfl⟩ := (mem_drop_getD _ _ _).1 he
  have h3 := callsB_later (cs := t.f1) (by simp only [tripB, Bool.and_eq_true] at hB; exact hB.2) i j (by omega) hj2
  omega
theorem path_ok {l : List S46} (h : tableB l = true) {ch : Int} (hc : 0 ≤ ch) {n : Nat} {u d v a : Int} (hp : Path l ch n u d v a) : 0 ≤ u ∧ u < 30 ∧ 0 ≤ v ∧ v < 30 ∧ 0 ≤ d ∧ d < a ∧ a ≤ 100000 := by
  induction n generalizing u d with
  | zero => exact leg_ok h hp
  | succ n ih =>
    obtain ⟨w, d', a', h1, h2, h3⟩ := hp
    have h4 := leg_ok h h1
    have h5 := ih h3
    omega

/-- A fold whose steps each lay one condition more. -/
theorem fold_cond {α σ : Type} (f : σ → α → σ) (Good : σ → Prop) (C : σ → Prop) (Q : α → Prop) (l : List α)
    (h : ∀ s a, Good s → a ∈ l → Good (f s a) ∧ (C (f s a) ↔ C s ∧ Q a)) (s : σ) (hs : Good s) : Good (l.foldl f s) ∧ (C (l.foldl f s) ↔ C s ∧ ∀ a, a ∈ l → Q a) := by
  induction l generalizing s with
  | nil => exact ⟨hs, by simp⟩
  | cons a l ih =>
    have h1 := h s a hs List.mem_cons_self
    have h2 := ih (fun s b hs hb => h s b hs (List.mem_cons_of_mem _ hb)) (f s a) h1.1
    refine ⟨h2.1, ?_⟩
    rw [List.foldl_cons, h2.2, h1.2]
    simp [and_assoc]

theorem getD_rep (n i : Nat) (x : Int) (h : i < n) : (List.replicate n x).getD i 0 = x := by rw [List.getD_eq_getElem?_getD, List.getElem?_replicate, if_pos h]; rfl
def rset (nx : List Int) (c : S43) : List Int := if nx.getD c.f0.toNat 0 < 0 ∨ c.f1 < nx.getD c.f0.toNat 0 then nx.set c.f0.toNat c.f1 else nx
def rbrd (fr ch : Int) (at_ : List Int) (c : S43) : Prop := 0 ≤ at_.getD c.f0.toNat 0 ∧ at_.getD c.f0.toNat 0 + (if c.f0 = fr then 0 else ch) ≤ c.f2
instance (fr ch : Int) (at_ : List Int) (c : S43) : Decidable (rbrd fr ch at_ c) := inferInstanceAs (Decidable (_ ∧ _))
def rcall (fr ch : Int) (at_ : List Int) (cs : List S43) (nx : List Int) (i : Nat) : List Int := if rbrd fr ch at_ (cs.getD i z43) then (cs.drop (i + 1)).foldl rset nx else nx
def rtrip (fr ch : Int) (at_ : List Int) (nx : List Int) (t : S46) : List Int := (List.range t.f1.length).foldl (rcall fr ch at_ t.f1) nx
def rleg (l : List S46) (fr ch : Int) (at_ : List Int) : List Int := l.foldl (rtrip fr ch at_) at_
def reach (l : List S46) (fr r ch : Int) : Nat → List Int
  | 0 => (List.replicate 30 (-1)).set fr.toNat r
  | h + 1 => rleg l fr ch (reach l fr r ch h)

def never : Int := 2000000
def rval (s : List Int) (v : Int) : Int := if s.getD v.toNat 0 < 0 then never else s.getD v.toNat 0
def RGood (s : List Int) : Prop := s.length = 30 ∧ ∀ x, x ∈ s → -1 ≤ x ∧ x ≤ 1000000
theorem rgood_at {s : List Int} (h : RGood s) (i : Nat) (hi : i < 30) : -1 ≤ s.getD i 0 ∧ s.getD i 0 ≤ 1000000 := h.2 _ (getD_mem 0 s i (by rw [h.1]; exact hi))
theorem rgood_set {s : List Int} (h : RGood s) (i : Nat) (x : Int) (h0 : -1 ≤ x) (h1 : x ≤ 1000000) : RGood (s.set i x) := by
  refine ⟨by simpa using h.1, fun y hy => ?_⟩
  rcases List.mem_or_eq_of_mem_set hy with hy | rfl
  · exact h.2 y hy
  · exact ⟨h0, h1⟩
theorem getD_set_i (s : List Int) (i j : Nat) (x : Int) (hi : i < s.length) : (s.set i x).getD j 0 = if i = j then x else s.getD j 0 := by
  simp only [List.getD_eq_getElem?_getD, List.getElem?_set]
  by_cases c : i = j
  · rw [if_pos c, if_pos c, if_pos hi]; rfl
  · rw [if_neg c, if_neg c]
section
variable {x v : Int} (hv : 0 ≤ v ∧ v < 30) (hx : x ≤ never)
include hv hx
theorem rset_cond {nx : List Int} (hg : RGood nx) {c : S43} (hc : 0 ≤ c.f0 ∧ c.f0 < 30 ∧ 0 ≤ c.f1 ∧ c.f1 ≤ 100000) : RGood (rset nx c) ∧ (x ≤ rval (rset nx c) v ↔ x ≤ rval nx v ∧ (c.f0 = v → x ≤ c.f1)) := by
  have hl := hg.1
  unfold rset
  by_cases h : nx.getD c.f0.toNat 0 < 0 ∨ c.f1 < nx.getD c.f0.toNat 0
  · rw [if_pos h]
    refine ⟨rgood_set hg _ _ (by omega) (by omega), ?_⟩
    unfold rval
    rw [getD_set_i nx _ _ _ (by omega)]
    by_cases e : c.f0 = v
    · subst e
      rw [if_pos rfl, if_neg (by omega)]
      constructor
      · intro hh
        refine ⟨?_, fun _ => hh⟩
        split
        · exact hx
        · omega
      · rintro ⟨_, hh⟩; exact hh rfl
    · rw [if_neg (show ¬ c.f0.toNat = v.toNat by omega)]
      simp [e]
  · rw [if_neg h]
    refine ⟨hg, ?_⟩
    constructor
    · intro hh
      refine ⟨hh, fun e => ?_⟩
      subst e
      unfold rval at hh
      rw [if_neg (by omega)] at hh
      omega
    · exact fun hh => hh.1
theorem rcall_cond (fr ch : Int) (at_ : List Int) {cs : List S43} (hcs : ∀ c, c ∈ cs → 0 ≤ c.f0 ∧ c.f0 < 30 ∧ 0 ≤ c.f1 ∧ c.f1 ≤ 100000) {nx : List Int} (hg : RGood nx) (i : Nat) :
    RGood (rcall fr ch at_ cs nx i) ∧ (x ≤ rval (rcall fr ch at_ cs nx i) v ↔ x ≤ rval nx v ∧ (rbrd fr ch at_ (cs.getD i z43) → ∀ e, e ∈ cs.drop (i + 1) → e.f0 = v → x ≤ e.f1)) := by
  unfold rcall
  by_cases h : rbrd fr ch at_ (cs.getD i z43)
  · rw [if_pos h]
    have := fold_cond rset RGood (fun s => x ≤ rval s v) (fun e => e.f0 = v → x ≤ e.f1) (cs.drop (i + 1)) (fun s a hs ha => rset_cond hv hx hs (hcs a (List.mem_of_mem_drop ha))) nx hg
    exact ⟨this.1, this.2.trans ⟨fun hh => ⟨hh.1, fun _ => hh.2⟩, fun hh => ⟨hh.1, hh.2 h⟩⟩⟩
  · rw [if_neg h]
    exact ⟨hg, ⟨fun hh => ⟨hh, fun h' => absurd h' h⟩, fun hh => hh.1⟩⟩
theorem rleg_cond {l : List S46} (h : tableB l = true) (fr ch : Int) {at_ : List Int} (hg : RGood at_) :
    RGood (rleg l fr ch at_) ∧ (x ≤ rval (rleg l fr ch at_) v ↔ x ≤ rval at_ v ∧ ∀ u d a, Leg l u v d a → 0 ≤ at_.getD u.toNat 0 → at_.getD u.toNat 0 + (if u = fr then 0 else ch) ≤ d → x ≤ a) := by
  have hcs : ∀ t, t ∈ l → ∀ c, c ∈ t.f1 → 0 ≤ c.f0 ∧ c.f0 < 30 ∧ 0 ≤ c.f1 ∧ c.f1 ≤ 100000 := fun t ht c hc => by have := calls_ok (trip_of h ht) hc; omega
  have key := fold_cond (rtrip fr ch at_) RGood (fun s => x ≤ rval s v) (fun t => ∀ u d a, LegIn t.f1 u v d a → 0 ≤ at_.getD u.toNat 0 → at_.getD u.toNat 0 + (if u = fr then 0 else ch) ≤ d → x ≤ a) l
    (fun s t hs ht => by
      have k2 := fold_cond (rcall fr ch at_ t.f1) RGood (fun s => x ≤ rval s v) (fun i => rbrd fr ch at_ (t.f1.getD i z43) → ∀ e, e ∈ t.f1.drop (i + 1) → e.f0 = v → x ≤ e.f1) (List.range t.f1.length) (fun s i hs _ => rcall_cond hv hx fr ch at_ (hcs t ht) hs i) s hs
      refine ⟨k2.1, k2.2.trans (and_congr_right fun _ => ?_)⟩
      constructor
      · intro hh u d a hL h0 h1
        obtain ⟨i, hi, rfl, rfl, e, he, ev, rfl⟩ := (legIn_idx _ _ _ _ _).1 hL
        exact hh i (List.mem_range.2 hi) ⟨h0, h1⟩ e he ev
      · intro hh i hi hb e he ev
        exact hh _ _ _ ((legIn_idx _ _ _ _ _).2 ⟨i, List.mem_range.1 hi, rfl, rfl, e, he, ev, rfl⟩) hb.1 hb.2) at_ hg
  refine ⟨key.1, key.2.trans (and_congr_right fun _ => ?_)⟩
  constructor
  · rintro hh u d a ⟨t, ht, hL⟩; exact hh t ht u d a hL
  · intro hh t ht u d a hL; exact hh u d a ⟨t, ht, hL⟩
end

section
variable {l : List S46} (h : tableB l = true) {fr r ch : Int} (hfr : 0 ≤ fr ∧ fr < 30) (hr : 0 ≤ r ∧ r ≤ 1000000) (hc : 0 ≤ ch)
include h hfr hr hc
theorem reach_good (n : Nat) : RGood (reach l fr r ch n) := by
  have _u := And.intro hfr hc
  induction n with
  | zero =>
    refine rgood_set ⟨by simp, fun x hx => ?_⟩ _ _ (by omega) (by omega)
    rw [(List.mem_replicate.1 hx).2]; omega
  | succ n ih => exact (rleg_cond (x := 0) (v := 0) (by omega) (by decide) h fr ch ih).1
/-- What the reference's reach tells: a bound is below it just when it is below all arrivals. -/
theorem reach_cond (n : Nat) (x v : Int) (hv : 0 ≤ v ∧ v < 30) (hx : x ≤ never) :
    x ≤ rval (reach l fr r ch n) v ↔ (v = fr → x ≤ r) ∧ ∀ m, m < n → ∀ d a, r ≤ d → Path l ch m fr d v a → x ≤ a := by
  induction n generalizing x v with
  | zero =>
    unfold rval reach
    rw [getD_set_i _ _ _ _ (by simp; omega)]
    by_cases e : v = fr
    · subst e
      rw [if_pos rfl, if_neg (by omega)]
      simp
    · rw [if_neg (show ¬ fr.toNat = v.toNat by omega), getD_rep 30 _ _ (by omega)]
      simp [e, hx]
  | succ n ih =>
    have hg := reach_good h hfr hr hc n
    rw [reach, (rleg_cond hv hx h fr ch hg).2, ih x v hv hx]
    constructor
    · rintro ⟨⟨h1, h2⟩, h3⟩
      refine ⟨h1, fun m hm d a hd hp => ?_⟩
      rcases Nat.lt_or_ge m n with c | c
      · exact h2 m c d a hd hp
      · have e : m = n := by omega
        subst e
        cases m with
        | zero =>
          have hz : (reach l fr r ch 0).getD fr.toNat 0 = r := by
            unfold reach; rw [getD_set_i _ _ _ _ (by simp; omega), if_pos rfl]
          exact h3 fr d a hp (by rw [hz]; omega) (by rw [hz, if_pos rfl]; omega)
        | succ m =>
          obtain ⟨w, d', a', h4, h5, h6⟩ := (path_snoc l ch m fr d v a).1 hp
          have hw := path_ok h hc h4
          have h7 : rval (reach l fr r ch (m + 1)) w ≤ a' := by
            have h8 : rval (reach l fr r ch (m + 1)) w ≤ never := by
              unfold rval
              have := rgood_at hg w.toNat (by omega)
              split
              · exact Int.le_refl _
              · unfold never; omega
            exact ((ih _ w (by omega) h8).1 (Int.le_refl _)).2 m (by omega) d a' hd h4
          unfold rval at h7
          have h8 : ¬ (reach l fr r ch (m + 1)).getD w.toNat 0 < 0 := by
            intro hh; rw [if_pos hh] at h7; unfold never at h7; omega
          rw [if_neg h8] at h7
          refine h3 w d' a h6 (by omega) ?_
          split <;> omega
    · rintro ⟨h1, h2⟩
      refine ⟨⟨h1, fun m hm => h2 m (by omega)⟩, fun u d a hL h0 h3 => ?_⟩
      have hu := leg_ok h hL
      have hv2 : rval (reach l fr r ch n) u = (reach l fr r ch n).getD u.toNat 0 := by unfold rval; rw [if_neg (by omega)]
      have hb := rgood_at hg u.toNat (by omega)
      by_cases e : u = fr
      · have : r ≤ d := by
          rw [if_pos e] at h3
          refine Int.le_trans ?_ (show (reach l fr r ch n).getD u.toNat 0 ≤ d by omega)
          rw [← hv2]
          refine (ih r u (by omega) (by unfold never; omega)).2 ⟨fun _ => Int.le_refl _, fun m _ d a hd hp => ?_⟩
          have := path_ok h hc hp
          omega
        exact h2 0 (by omega) d a this (e ▸ hL)
      · rw [if_neg e] at h3
        have : ∃ m, m < n ∧ ∃ d' a', r ≤ d' ∧ Path l ch m fr d' u a' ∧ a' ≤ (reach l fr r ch n).getD u.toNat 0 := by
          refine Classical.byContradiction (fun hn => ?_)
          have := (ih ((reach l fr r ch n).getD u.toNat 0 + 1) u (by omega) (by unfold never; omega)).2 ⟨fun e' => absurd e' e, fun m hm d' a' hd hp => ?_⟩
          · rw [hv2] at this; omega
          · refine Classical.byContradiction (fun hlt => hn ⟨m, hm, d', a', hd, hp, by omega⟩)
        obtain ⟨m, hm, d', a', hd, hp, ha⟩ := this
        exact h2 (m + 1) (by omega) d' a hd ((path_snoc l ch m fr d' v a).2 ⟨u, d, a', hp, by omega, hL⟩)
end


theorem copy_ev (l : List Int) (hl : l.length ≤ 1048576) : Ev (fun k => spec_l01Copy.f k l) l := by
  have key : ∀ i, i ≤ l.length → Ev (fun k => spec_l01Copy.l0 k l (l.take i) (i : Int)) l := by
    refine down l.length ?_ ?_
    · refine ev_some (fun k => ?_)
      simp only [spec_l01Copy.l0]
      rw [if_neg (by omega), List.take_length]
    · intro i hi ih
      refine ev_at ih (fun k => ?_)
      simp only [spec_l01Copy.l0]
      rw [if_pos (by omega), if_pos (by omega), if_pos (by rw [List.length_take]; omega), w64s hi (by omega), take_getD 0 l i hi]
      rfl
  exact key 0 (Nat.zero_le _)

section
variable {l : List S46} (h : tableB l = true) {fr ch : Int} (hfr : 0 ≤ fr ∧ fr < 30) (hc : 0 ≤ ch ∧ ch ≤ 60)
include h hfr hc
theorem reach_l4 (hops : Int) (at_ : List Int) (hh : Int) (ti : Int) (cs : List S43) (hcs : ∀ c, c ∈ cs → 0 ≤ c.f0 ∧ c.f0 < 30 ∧ 0 ≤ c.f1 ∧ c.f1 ≤ 100000 ∧ 0 ≤ c.f2 ∧ c.f2 ≤ 100000) (hlen : cs.length ≤ 12) (i : Nat) (hi : i < cs.length) (r : List Int) :
    ∀ j, j ≤ cs.length → ∀ nx, RGood nx → Ev (fun k => spec_l12Reach.l3 k l fr ch hops at_ hh ((cs.drop j).foldl rset nx) ti cs ((i + 1 : Nat) : Int)) r →
      Ev (fun k => spec_l12Reach.l4 k l fr ch hops at_ hh nx ti cs i (j : Int)) r := by
  have _u := And.intro h (And.intro hfr hc)
  refine down cs.length ?_ ?_
  · intro nx hg hr
    rw [List.drop_of_length_le (Nat.le_refl _)] at hr
    refine ev_at hr (fun k => ?_)
    simp only [spec_l12Reach.l4]
    rw [if_neg (by omega), w64s hi (by omega)]
    rfl
  · intro j hj ih nx hg hr
    rw [drop_getD z43 cs j hj, List.foldl_cons] at hr
    have hc0 := hcs _ (getD_mem z43 cs j hj)
    have hlen2 := hg.1
    refine ev_at (ih (rset nx (cs.getD j z43)) (rset_cond (x := 0) (v := 0) (by omega) (by decide) hg ⟨hc0.1, hc0.2.1, hc0.2.2.1, hc0.2.2.2.1⟩).1 hr) (fun k => ?_)
    have e : rd_T43 cs (j : Int) = cs.getD j z43 := rfl
    simp only [spec_l12Reach.l4]
    rw [if_pos (by omega), if_pos (by omega), e, if_pos (by omega), if_pos (by omega), w64s hj (by omega)]
    unfold rset
    by_cases c1 : nx.getD (cs.getD j z43).f0.toNat 0 < 0
    · rw [if_pos (show rd nx (cs.getD j z43).f0 < 0 from c1), if_pos (Or.inl c1)]
    · rw [if_neg (show ¬ rd nx (cs.getD j z43).f0 < 0 from c1)]
      by_cases c2 : (cs.getD j z43).f1 < nx.getD (cs.getD j z43).f0.toNat 0
      · rw [if_pos (show (cs.getD j z43).f1 < rd nx (cs.getD j z43).f0 from c2), if_pos (Or.inr c2)]
      · rw [if_neg (show ¬ (cs.getD j z43).f1 < rd nx (cs.getD j z43).f0 from c2), if_neg (by omega)]
theorem reach_l3 (hops : Int) (at_ : List Int) (hat : RGood at_) (hh : Int) (ti : Int) (cs : List S43) (hcs : ∀ c, c ∈ cs → 0 ≤ c.f0 ∧ c.f0 < 30 ∧ 0 ≤ c.f1 ∧ c.f1 ≤ 100000 ∧ 0 ≤ c.f2 ∧ c.f2 ≤ 100000) (hlen : cs.length ≤ 12) (r : List Int) :
    ∀ i, i ≤ cs.length → ∀ nx, RGood nx → Ev (fun k => spec_l12Reach.l2 k l fr ch hops at_ hh (((List.range cs.length).drop i).foldl (rcall fr ch at_ cs) nx) (wrap64 (ti + 1))) r →
      Ev (fun k => spec_l12Reach.l3 k l fr ch hops at_ hh nx ti cs (i : Int)) r := by
  refine down cs.length ?_ ?_
  · intro nx hg hr
    rw [List.drop_of_length_le (by simp)] at hr
    refine ev_at hr (fun k => ?_)
    simp only [spec_l12Reach.l3]
    rw [if_neg (by omega)]
    rfl
  · intro i hi ih nx hg hr
    rw [List.drop_eq_getElem_cons (by simpa using hi), List.foldl_cons, List.getElem_range] at hr
    have hc0 := hcs _ (getD_mem z43 cs i hi)
    have hlen2 := hat.1
    have hb := rgood_at hat (cs.getD i z43).f0.toNat (by omega)
    have e : rd_T43 cs (i : Int) = cs.getD i z43 := rfl
    have erd : rd at_ (cs.getD i z43).f0 = at_.getD (cs.getD i z43).f0.toNat 0 := rfl
    have hnext := rcall_cond (x := 0) (v := 0) (by omega) (by decide) fr ch at_ (fun c hc => by have := hcs c hc; omega) hg i
    have hr' := ih _ hnext.1 hr
    have w0 : (if (cs.getD i z43).f0 = fr then (0 : Int) else ch) ≤ 60 ∧ 0 ≤ (if (cs.getD i z43).f0 = fr then (0 : Int) else ch) := by split <;> omega
    generalize hw : (if (cs.getD i z43).f0 = fr then (0 : Int) else ch) = wt at w0
    have hb3 : rbrd fr ch at_ (cs.getD i z43) ↔ 0 ≤ at_.getD (cs.getD i z43).f0.toNat 0 ∧ at_.getD (cs.getD i z43).f0.toNat 0 + wt ≤ (cs.getD i z43).f2 := by unfold rbrd; rw [hw]
    refine Ev.step (f := fun k => spec_l12Reach.j4 k l fr ch hops at_ hh nx ti cs i (at_.getD (cs.getD i z43).f0.toNat 0) wt) (fun k => ?_) ?_
    · simp only [spec_l12Reach.l3]
      rw [if_pos (by omega), if_pos (by omega), e, if_pos (by omega), if_pos (by omega), erd, ← hw]
      split <;> rfl
    · by_cases c1 : at_.getD (cs.getD i z43).f0.toNat 0 < 0
      · have hn : ¬ rbrd fr ch at_ (cs.getD i z43) := by rw [hb3]; omega
        rw [rcall, if_neg hn] at hr'
        refine Ev.step (f := fun k => spec_l12Reach.j5 k l fr ch hops at_ hh nx ti cs i true) (fun k => by simp only [spec_l12Reach.j4]; rw [if_pos c1]) ?_
        refine ev_at hr' (fun k => ?_)
        simp only [spec_l12Reach.j5, if_true]
        rw [w64s hi (by omega)]
      · by_cases c2 : (cs.getD i z43).f2 < at_.getD (cs.getD i z43).f0.toNat 0 + wt
        · have hn : ¬ rbrd fr ch at_ (cs.getD i z43) := by rw [hb3]; omega
          rw [rcall, if_neg hn] at hr'
          refine Ev.step (f := fun k => spec_l12Reach.j5 k l fr ch hops at_ hh nx ti cs i true) (fun k => by
            simp only [spec_l12Reach.j4]
            rw [if_neg c1, if_pos (by omega), if_pos (by omega), e, w64 (by omega) (by omega), decide_eq_true c2]) ?_
          refine ev_at hr' (fun k => ?_)
          simp only [spec_l12Reach.j5, if_true]
          rw [w64s hi (by omega)]
        · have hn : rbrd fr ch at_ (cs.getD i z43) := hb3.2 (by omega)
          rw [rcall, if_pos hn] at hr'
          refine Ev.step (f := fun k => spec_l12Reach.j5 k l fr ch hops at_ hh nx ti cs i false) (fun k => by
            simp only [spec_l12Reach.j4]
            rw [if_neg c1, if_pos (by omega), if_pos (by omega), e, w64 (by omega) (by omega), decide_eq_false c2]) ?_
          refine Ev.step (f := fun k => spec_l12Reach.l4 k l fr ch hops at_ hh nx ti cs i ((i + 1 : Nat) : Int)) (fun k => ?_) (reach_l4 h hfr hc hops at_ hh ti cs hcs hlen i hi r (i + 1) (by omega) nx hg hr')
          simp only [spec_l12Reach.j5]
          rw [if_neg (by decide), w64s hi (by omega)]
theorem rtrip_good (at_ : List Int) {nx : List Int} (hg : RGood nx) {t : S46} (ht : t ∈ l) : RGood (rtrip fr ch at_ nx t) := by
  have _u := And.intro hfr hc
  have hcs : ∀ c, c ∈ t.f1 → 0 ≤ c.f0 ∧ c.f0 < 30 ∧ 0 ≤ c.f1 ∧ c.f1 ≤ 100000 := fun c hc => by have := calls_ok (trip_of h ht) hc; omega
  exact (fold_cond (rcall fr ch at_ t.f1) RGood (fun _ => True) (fun _ => True) (List.range t.f1.length) (fun s i hs _ => ⟨(rcall_cond (x := 0) (v := 0) (by omega) (by decide) fr ch at_ hcs hs i).1, by simp⟩) nx hg).1
theorem reach_l2 (hops : Int) (at_ : List Int) (hat : RGood at_) (hh : Int) (r : List Int) :
    ∀ i, i ≤ l.length → ∀ nx, RGood nx → Ev (fun k => spec_l12Reach.l1 k l fr ch hops ((l.drop i).foldl (rtrip fr ch at_) nx) (wrap64 (hh + 1))) r →
      Ev (fun k => spec_l12Reach.l2 k l fr ch hops at_ hh nx (i : Int)) r := by
  have hl : l.length ≤ 24 := by simp only [tableB, Bool.and_eq_true, decide_eq_true_eq] at h; exact h.1
  refine down l.length ?_ ?_
  · intro nx hg hr
    rw [List.drop_of_length_le (Nat.le_refl _)] at hr
    refine ev_at hr (fun k => ?_)
    simp only [spec_l12Reach.l2]
    rw [if_neg (by omega)]
    rfl
  · intro i hi ih nx hg hr
    rw [drop_getD z46 l i hi, List.foldl_cons] at hr
    have hm := getD_mem z46 l i hi
    have hB := trip_of h hm
    have hlen : (l.getD i z46).f1.length ≤ 12 := by simp only [tripB, Bool.and_eq_true, inB_iff] at hB; omega
    have hr' := ih _ (rtrip_good h hfr hc at_ hg hm) hr
    refine Ev.step (f := fun k => spec_l12Reach.l3 k l fr ch hops at_ hh nx i (l.getD i z46).f1 0) (fun k => ?_)
      (reach_l3 h hfr hc hops at_ hat hh i (l.getD i z46).f1 (fun c hc => by have := calls_ok hB hc; omega) hlen r 0 (Nat.zero_le _) nx hg (by rw [w64s hi (by omega)]; exact hr'))
    simp only [spec_l12Reach.l2]
    rw [if_pos (by omega), if_pos (by omega)]
    rfl
theorem reach_l1 {r : Int} (hr : 0 ≤ r ∧ r ≤ 1000000) (hops : Nat) (hh : hops ≤ 1000) :
    ∀ n, n ≤ hops → Ev (fun k => spec_l12Reach.l1 k l fr ch hops (reach l fr r ch n) (n : Int)) (reach l fr r ch hops) := by
  refine down hops ?_ ?_
  · refine ev_some (fun k => ?_)
    simp only [spec_l12Reach.l1]
    rw [if_neg (by omega)]
  · intro n hn ih
    have hg := reach_good h hfr hr hc.1 n
    refine Ev.step (f := fun k => (spec_l01Copy.f k (reach l fr r ch n)).bind fun t => spec_l12Reach.l2 k l fr ch hops (reach l fr r ch n) n t 0) (fun k => ?_)
      (Ev.bind (copy_ev _ (by rw [hg.1]; decide)) (reach_l2 h hfr hc hops _ hg n _ 0 (Nat.zero_le _) _ hg (by rw [w64s hn (by omega)]; exact ih)))
    simp only [spec_l12Reach.l1]
    rw [if_pos (by omega)]
theorem reach_ev {r : Int} (hr : 0 ≤ r ∧ r ≤ 1000000) (hops : Nat) (hh : hops ≤ 1000) : Ev (fun k => spec_l12Reach.f k l fr r ch hops) (reach l fr r ch hops) := by
  have key : ∀ i, i ≤ 30 → Ev (fun k => spec_l12Reach.l0 k l fr r ch hops (List.replicate i (-1)) (i : Int)) (reach l fr r ch hops) := by
    refine down 30 ?_ ?_
    · refine ev_at (reach_l1 h hfr hc hr hops hh 0 (Nat.zero_le _)) (fun k => ?_)
      simp only [spec_l12Reach.l0]
      rw [if_neg (by omega), if_pos (by omega), if_pos (by rw [List.length_replicate]; omega)]
      rfl
    · intro i hi ih
      refine ev_at ih (fun k => ?_)
      simp only [spec_l12Reach.l0]
      rw [if_pos (by omega), if_pos (by rw [List.length_replicate]; omega), w64s hi (by omega), ← List.replicate_succ']
  exact key 0 (Nat.zero_le _)
end


section
variable {l : List S46} (h : tableB l = true) {fr r ch : Int} (hfr : 0 ≤ fr ∧ fr < 30) (hr : 0 ≤ r ∧ r ≤ 1000000) (hc : 0 ≤ ch)
include h hfr hr hc
theorem reach_att (n : Nat) {v : Int} (hv : 0 ≤ v ∧ v < 30) (h0 : 0 ≤ (reach l fr r ch n).getD v.toNat 0) :
    (v = fr ∧ (reach l fr r ch n).getD v.toNat 0 = r) ∨ ∃ m, m < n ∧ ∃ d, r ≤ d ∧ Path l ch m fr d v ((reach l fr r ch n).getD v.toNat 0) := by
  have hg := rgood_at (reach_good h hfr hr hc n) v.toNat (by omega)
  have hv2 : rval (reach l fr r ch n) v = (reach l fr r ch n).getD v.toNat 0 := by unfold rval; rw [if_neg (by omega)]
  have h1 := (reach_cond h hfr hr hc n ((reach l fr r ch n).getD v.toNat 0) v hv (by unfold never; omega)).1 (by rw [hv2]; exact Int.le_refl _)
  refine Classical.byContradiction (fun hn => ?_)
  have h2 := (reach_cond h hfr hr hc n ((reach l fr r ch n).getD v.toNat 0 + 1) v hv (by unfold never; omega)).2 ⟨fun e => ?_, fun m hm d a hd hp => ?_⟩
  · rw [hv2] at h2; omega
  · have := h1.1 e
    refine Classical.byContradiction (fun hlt => hn (Or.inl ⟨e, by omega⟩))
  · have := h1.2 m hm d a hd hp
    refine Classical.byContradiction (fun hlt => hn (Or.inr ⟨m, hm, d, hd, ?_⟩))
    have e : (reach l fr r ch n).getD v.toNat 0 = a := by omega
    rw [e]; exact hp
end



theorem table_l4 {l : List S46} (h : tableB l = true) : impl_arrivals.l4 l = true := by
  have hl : l.length ≤ 24 := by simp only [tableB, Bool.and_eq_true, decide_eq_true_eq] at h; exact h.1
  simp only [impl_arrivals.l4, Bool.and_eq_true, decide_eq_true_eq, List.all_eq_true]
  refine ⟨hl, fun t ht => ?_⟩
  have hB := trip_of h ht
  refine ⟨?_, fun c hc => ?_⟩
  · simp only [tripB, Bool.and_eq_true, inB_iff] at hB
    omega
  · have := calls_ok hB hc
    omega
section
variable {x v : Int} (hv : 0 ≤ v ∧ v < 30)
/-- All but the row behind h is as it was. -/
def RowKept (h : Nat) (o0 o : List Int) : Prop := o.length = o0.length ∧ ∀ p, (p < (h + 1) * 30 ∨ (h + 2) * 30 ≤ p) → o.getD p 0 = o0.getD p 0
include hv
theorem scan_cond (h : Nat) (wait : Int) {o0 : List Int} (hL : (h + 2) * 30 ≤ o0.length) : ∀ (cs : List S43), (∀ c, c ∈ cs → 0 ≤ c.f0 ∧ c.f0 < 30) → ∀ (o : List Int) (b : Bool), RowKept h o0 o →
    RowKept h o0 (cs.foldl (impl_arrivals.l0 h wait) (o, b)).1 ∧
    (x ≤ (cs.foldl (impl_arrivals.l0 h wait) (o, b)).1.getD ((h + 1) * 30 + v.toNat) 0 ↔ x ≤ o.getD ((h + 1) * 30 + v.toNat) 0 ∧ (b = true → ∀ c, c ∈ cs → c.f0 = v → x ≤ c.f1) ∧
      ∀ u d a, LegIn cs u v d a → o0.getD (h * 30 + u.toNat) 0 < 100001 → o0.getD (h * 30 + u.toNat) 0 + wait ≤ d → x ≤ a) := by
  intro cs
  induction cs with
  | nil => intro _ o b hk; exact ⟨hk, by simp [LegIn]⟩
  | cons c cs ih =>
    intro hcs o b hk
    have hc := hcs c List.mem_cons_self
    rw [List.foldl_cons]
    have hk1 : RowKept h o0 (impl_arrivals.l0 h wait (o, b) c).1 := by
      unfold impl_arrivals.l0
      dsimp only
      by_cases hb : b = true
      · rw [if_pos hb]
        refine ⟨by simpa using hk.1, fun p hp => ?_⟩
        rw [getD_set_i _ _ _ _ (by rw [hk.1]; omega), if_neg (by omega)]
        exact hk.2 p hp
      · rw [if_neg hb]; exact hk
    have hv1 : x ≤ (impl_arrivals.l0 h wait (o, b) c).1.getD ((h + 1) * 30 + v.toNat) 0 ↔ x ≤ o.getD ((h + 1) * 30 + v.toNat) 0 ∧ (b = true → c.f0 = v → x ≤ c.f1) := by
      unfold impl_arrivals.l0
      dsimp only
      by_cases hb : b = true
      · rw [if_pos hb, getD_set_i _ _ _ _ (by rw [hk.1]; omega)]
        by_cases e : c.f0 = v
        · subst e
          rw [if_pos rfl]
          simp [hb]
          omega
        · rw [if_neg (by omega)]
          simp [e]
      · rw [if_neg hb]
        simp [hb]
    have hb1 : (impl_arrivals.l0 h wait (o, b) c).2 = true ↔ b = true ∨ (o0.getD (h * 30 + c.f0.toNat) 0 < 100001 ∧ o0.getD (h * 30 + c.f0.toNat) 0 + wait ≤ c.f2) := by
      have e := hk1.2 (h * 30 + c.f0.toNat) (Or.inl (by omega))
      rw [← e]
      simp [impl_arrivals.l0]
    have h2 := ih (fun c hc => hcs c (List.mem_cons_of_mem _ hc)) _ (impl_arrivals.l0 h wait (o, b) c).2 hk1
    refine ⟨h2.1, h2.2.trans ?_⟩
    rw [hv1, hb1]
    constructor
    · rintro ⟨⟨a1, a2⟩, a3, a4⟩
      refine ⟨a1, fun hb e he ev => ?_, fun u d a hL h0 h1 => ?_⟩
      · rcases List.mem_cons.1 he with rfl | he
        · exact a2 hb ev
        · exact a3 (Or.inl hb) e he ev
      · rcases hL with ⟨rfl, rfl, e, he, ev, rfl⟩ | hL
        · exact a3 (Or.inr ⟨h0, h1⟩) e he ev
        · exact a4 u d a hL h0 h1
    · rintro ⟨a1, a2, a3⟩
      refine ⟨⟨a1, fun hb => a2 hb c List.mem_cons_self⟩, ?_, fun u d a hL => a3 u d a (Or.inr hL)⟩
      rintro (hb | ⟨h0, h1⟩) e he ev
      · exact a2 hb e (List.mem_cons_of_mem _ he) ev
      · exact a3 c.f0 c.f2 e.f1 (Or.inl ⟨rfl, rfl, e, he, ev, rfl⟩) h0 h1
theorem row_cond {l : List S46} (ht : tableB l = true) (h : Nat) (wait : Int) {o0 : List Int} (hL : (h + 2) * 30 ≤ o0.length) :
    RowKept h o0 (l.foldl (impl_arrivals.l1 h wait) o0) ∧
    (x ≤ (l.foldl (impl_arrivals.l1 h wait) o0).getD ((h + 1) * 30 + v.toNat) 0 ↔ x ≤ o0.getD ((h + 1) * 30 + v.toNat) 0 ∧
      ∀ u d a, Leg l u v d a → o0.getD (h * 30 + u.toNat) 0 < 100001 → o0.getD (h * 30 + u.toNat) 0 + wait ≤ d → x ≤ a) := by
  have key := fold_cond (impl_arrivals.l1 h wait) (RowKept h o0) (fun o => x ≤ o.getD ((h + 1) * 30 + v.toNat) 0) (fun t => ∀ u d a, LegIn t.f1 u v d a → o0.getD (h * 30 + u.toNat) 0 < 100001 → o0.getD (h * 30 + u.toNat) 0 + wait ≤ d → x ≤ a) l
    (fun s t hs hm => by
      have := scan_cond (x := x) hv h wait hL t.f1 (fun c hc => by have := calls_ok (trip_of ht hm) hc; omega) s false hs
      refine ⟨this.1, this.2.trans ?_⟩
      simp) o0 ⟨rfl, fun _ _ => rfl⟩
  refine ⟨key.1, key.2.trans (and_congr_right fun _ => ?_)⟩
  constructor
  · rintro hh u d a ⟨t, hm, hL⟩; exact hh t hm u d a hL
  · intro hh t hm u d a hL; exact hh u d a ⟨t, hm, hL⟩
end

/-- A bound of all arrivals by just so many legs. -/
def acond (l : List S46) (fr mi ch : Int) : Nat → Int → Int → Prop
  | 0, v, x => v = fr → x ≤ mi
  | m + 1, v, x => ∀ d a, mi ≤ d → Path l ch m fr d v a → x ≤ a
section
variable {l : List S46} (h : tableB l = true) {fr mi ch : Int} (hfr : 0 ≤ fr ∧ fr < 30) (hr : 0 ≤ mi ∧ mi ≤ 100000) (hc : 0 ≤ ch)
include h hfr hr hc
theorem arr_rows (hops : Nat) : ∀ k, k ≤ hops → (impl_arrivals.l2 l ch k ((List.replicate ((hops + 1) * 30) 100001).set fr.toNat mi)).length = (hops + 1) * 30 ∧
    (∀ m, m ≤ k → ∀ x v : Int, 0 ≤ v → v < 30 → (x ≤ (impl_arrivals.l2 l ch k ((List.replicate ((hops + 1) * 30) 100001).set fr.toNat mi)).getD (m * 30 + v.toNat) 0 ↔ x ≤ 100001 ∧ acond l fr mi ch m v x)) ∧
    (∀ m, k < m → m ≤ hops → ∀ v : Int, 0 ≤ v → v < 30 → (impl_arrivals.l2 l ch k ((List.replicate ((hops + 1) * 30) 100001).set fr.toNat mi)).getD (m * 30 + v.toNat) 0 = 100001) := by
  intro k
  induction k with
  | zero =>
    intro _
    simp only [impl_arrivals.l2]
    refine ⟨by simp, fun m hm x v h0 h1 => ?_, fun m hm hm2 v h0 h1 => ?_⟩
    · obtain rfl : m = 0 := by omega
      rw [getD_set_i _ _ _ _ (by rw [List.length_replicate]; omega), acond]
      by_cases e : v = fr
      · subst e
        rw [if_pos (by omega)]
        simp
        omega
      · rw [if_neg (by omega), getD_rep _ _ _ (by omega)]
        simp [e]
    · rw [getD_set_i _ _ _ _ (by rw [List.length_replicate]; omega), if_neg (by omega), getD_rep _ _ _ (by omega)]
  | succ k ih =>
    intro hk
    obtain ⟨hL, hA, hN⟩ := ih (by omega)
    simp only [impl_arrivals.l2]
    generalize impl_arrivals.l2 l ch k ((List.replicate ((hops + 1) * 30) 100001).set fr.toNat mi) = o at hL hA hN
    have hrow := fun (x v : Int) (hv : 0 ≤ v ∧ v < 30) => row_cond (x := x) (v := v) hv h k (if k = 0 then 0 else ch) (o0 := o) (by omega)
    have hkept := (hrow 0 0 (by omega)).1
    refine ⟨by rw [hkept.1]; exact hL, fun m hm x v h0 h1 => ?_, fun m hm hm2 v h0 h1 => ?_⟩
    · rcases Nat.lt_or_ge m (k + 1) with c | c
      · rw [hkept.2 _ (Or.inl (by omega))]
        exact hA m (by omega) x v h0 h1
      · obtain rfl : m = k + 1 := by omega
        rw [(hrow x v ⟨h0, h1⟩).2, hN (k + 1) (by omega) (by omega) v h0 h1]
        refine and_congr_right fun hx => ?_
        simp only [acond]
        constructor
        · intro hh d a hd hp
          cases k with
          | zero =>
            have hz : o.getD (0 * 30 + fr.toNat) 0 ≤ mi := ((hA 0 (by omega) _ fr hfr.1 hfr.2).1 (Int.le_refl _)).2 rfl
            exact hh fr d a hp (by omega) (by rw [if_pos rfl]; omega)
          | succ k =>
            obtain ⟨w, d', a', h4, h5, h6⟩ := (path_snoc l ch k fr d v a).1 hp
            have hw := path_ok h hc h4
            have h7 : o.getD ((k + 1) * 30 + w.toNat) 0 ≤ a' := ((hA (k + 1) (by omega) _ w hw.2.2.1 hw.2.2.2.1).1 (Int.le_refl _)).2 d a' hd h4
            exact hh w d' a h6 (by omega) (by rw [if_neg (by omega)]; omega)
        · intro hh u d a hLg h0' h1'
          have hu := leg_ok h hLg
          cases k with
          | zero =>
            have : u = fr := by
              refine Classical.byContradiction (fun e => ?_)
              have := (hA 0 (by omega) 100001 u hu.1 hu.2.1).2 ⟨by omega, fun e' => absurd e' e⟩
              omega
            subst this
            have hz := (hA 0 (by omega) mi u hu.1 hu.2.1).2 ⟨by omega, fun _ => Int.le_refl _⟩
            rw [if_pos rfl] at h1'
            exact hh d a (by omega) hLg
          | succ k =>
            have : ∃ d' a', mi ≤ d' ∧ Path l ch k fr d' u a' ∧ a' ≤ o.getD ((k + 1) * 30 + u.toNat) 0 := by
              refine Classical.byContradiction (fun hn => ?_)
              have := (hA (k + 1) (by omega) (o.getD ((k + 1) * 30 + u.toNat) 0 + 1) u hu.1 hu.2.1).2 ⟨by omega, fun d' a' hd hp => ?_⟩
              · omega
              · refine Classical.byContradiction (fun hlt => hn ⟨d', a', hd, hp, by omega⟩)
            obtain ⟨d', a', hd, hp, ha⟩ := this
            rw [if_neg (by omega)] at h1'
            exact hh d' a hd ((path_snoc l ch k fr d' v a).2 ⟨u, d, a', hp, by omega, hLg⟩)
    · rw [hkept.2 _ (Or.inr (by omega))]
      exact hN m (by omega) hm2 v h0 h1
theorem arr_cond (hops m : Nat) (hm : m ≤ hops) (x v : Int) (hv : 0 ≤ v ∧ v < 30) : x ≤ (impl_arrivals.l3 l fr mi ch hops).getD (m * 30 + v.toNat) 0 ↔ x ≤ 100001 ∧ acond l fr mi ch m v x :=
  (arr_rows h hfr hr hc hops hops (Nat.le_refl _)).2.1 m hm x v hv.1 hv.2
end


theorem soon_at (o : List Int) (tg : Nat) (H : Nat) : (impl_soonest.l0 o tg H).1 ≤ 100001 ∧ (∀ m, m < H → (impl_soonest.l0 o tg H).1 ≤ o.getD (m * 30 + tg) 0) ∧
    (((impl_soonest.l0 o tg H).2 = -1 ∧ (impl_soonest.l0 o tg H).1 = 100001) ∨
      ∃ m : Nat, m < H ∧ (impl_soonest.l0 o tg H).2 = m ∧ (impl_soonest.l0 o tg H).1 = o.getD (m * 30 + tg) 0 ∧ (impl_soonest.l0 o tg H).1 < 100001 ∧ ∀ m', m' < m → (impl_soonest.l0 o tg H).1 < o.getD (m' * 30 + tg) 0) := by
  induction H with
  | zero => exact ⟨by simp [impl_soonest.l0], fun m hm => absurd hm (by omega), Or.inl ⟨rfl, rfl⟩⟩
  | succ H ih =>
    obtain ⟨i1, i2, i3⟩ := ih
    simp only [impl_soonest.l0]
    by_cases c : o.getD (H * 30 + tg) 0 < (impl_soonest.l0 o tg H).1
    · rw [if_pos c]
      refine ⟨by omega, fun m hm => ?_, Or.inr ⟨H, by omega, rfl, rfl, by omega, fun m' hm => ?_⟩⟩
      · rcases Nat.lt_or_ge m H with c2 | c2
        · have := i2 m c2
          exact Int.le_trans (Int.le_of_lt c) this
        · have e : m = H := by omega
          rw [e]; exact Int.le_refl _
      · exact Int.lt_of_lt_of_le c (i2 m' hm)
    · rw [if_neg c]
      refine ⟨i1, fun m hm => ?_, ?_⟩
      · rcases Nat.lt_or_ge m H with c2 | c2
        · exact i2 m c2
        · have e : m = H := by omega
          rw [e]; omega
      · rcases i3 with i3 | ⟨m, hm, i4, i5, i6, i7⟩
        · exact Or.inl i3
        · exact Or.inr ⟨m, by omega, i4, i5, i6, i7⟩
section
variable {l : List S46} (h : tableB l = true) {fr mi ch : Int} (hfr : 0 ≤ fr ∧ fr < 30) (hr : 0 ≤ mi ∧ mi ≤ 100000) (hc : 0 ≤ ch)
include h hfr hr hc
/-- The program's soonest arrival is the reference's. -/
theorem soonest_same (hops : Nat) {tg : Int} (htg : 0 ≤ tg ∧ tg < 30) : (impl_soonest.l2 l fr tg mi ch hops).1 = (reach l fr mi ch hops).getD tg.toNat 0 := by
  have hr' : 0 ≤ mi ∧ mi ≤ 1000000 := by omega
  obtain ⟨s1, s2, s3⟩ := soon_at (impl_arrivals.l3 l fr mi ch hops) tg.toNat (hops + 1)
  have hg := rgood_at (reach_good h hfr hr' hc hops) tg.toNat (by omega)
  have hrow := fun m (hm : m ≤ hops) x => arr_cond h hfr hr hc hops m hm x tg htg
  unfold impl_soonest.l2 impl_soonest.l1
  generalize impl_soonest.l0 (impl_arrivals.l3 l fr mi ch hops) tg.toNat (hops + 1) = s at s1 s2 s3
  have hlow : ∀ m, m ≤ hops → acond l fr mi ch m tg s.1 := fun m hm => ((hrow m hm s.1).1 (s2 m (by omega))).2
  have hle : s.1 ≤ rval (reach l fr mi ch hops) tg := (reach_cond h hfr hr' hc hops s.1 tg htg (by unfold never; omega)).2 ⟨hlow 0 (by omega), fun m hm => hlow (m + 1) (by omega)⟩
  have hatt : 0 ≤ (reach l fr mi ch hops).getD tg.toNat 0 → ∃ m, m ≤ hops ∧ (impl_arrivals.l3 l fr mi ch hops).getD (m * 30 + tg.toNat) 0 ≤ (reach l fr mi ch hops).getD tg.toNat 0 ∧ (reach l fr mi ch hops).getD tg.toNat 0 ≤ 100000 := by
    intro h0
    rcases reach_att h hfr hr' hc hops htg h0 with ⟨e, he⟩ | ⟨m, hm, d, hd, hp⟩
    · refine ⟨0, by omega, ?_, by omega⟩
      rw [he]
      exact ((hrow 0 (by omega) _).1 (Int.le_refl _)).2 e
    · refine ⟨m + 1, by omega, ?_, (path_ok h hc hp).2.2.2.2.2.2⟩
      exact ((hrow (m + 1) (by omega) _).1 (Int.le_refl _)).2 d _ hd hp
  rcases s3 with ⟨e1, e2⟩ | ⟨m, hm, e1, e2, e3, _⟩
  · rw [if_pos (by omega)]
    refine Classical.byContradiction (fun hne => ?_)
    have hn : 0 ≤ (reach l fr mi ch hops).getD tg.toNat 0 := by
      have : (-1 : Int) ≠ (reach l fr mi ch hops).getD tg.toNat 0 := hne
      omega
    obtain ⟨m, hm, ha, hb⟩ := hatt hn
    have := s2 m (by omega)
    omega
  · rw [if_neg (by omega)]
    have h0 : 0 ≤ (reach l fr mi ch hops).getD tg.toNat 0 := by
      refine Classical.byContradiction (fun hneg => ?_)
      have hv : rval (reach l fr mi ch hops) tg = never := by unfold rval; rw [if_pos (by omega)]
      have hcd := (reach_cond h hfr hr' hc hops (s.1 + 1) tg htg (by unfold never; omega)).1 (by rw [hv]; unfold never; omega)
      have : s.1 + 1 ≤ (impl_arrivals.l3 l fr mi ch hops).getD (m * 30 + tg.toNat) 0 := by
        refine (hrow m (by omega) _).2 ⟨by omega, ?_⟩
        cases m with
        | zero => exact hcd.1
        | succ m => exact hcd.2 m (by omega)
      omega
    obtain ⟨m', hm', ha, hb⟩ := hatt h0
    have h1 := s2 m' (by omega)
    have hv : rval (reach l fr mi ch hops) tg = (reach l fr mi ch hops).getD tg.toNat 0 := by unfold rval; rw [if_neg (by omega)]
    have hcd := (reach_cond h hfr hr' hc hops ((reach l fr mi ch hops).getD tg.toNat 0) tg htg (by unfold never; omega)).1 (by rw [hv]; exact Int.le_refl _)
    have : (reach l fr mi ch hops).getD tg.toNat 0 ≤ (impl_arrivals.l3 l fr mi ch hops).getD (m * 30 + tg.toNat) 0 := by
      refine (hrow m (by omega) _).2 ⟨by omega, ?_⟩
      cases m with
      | zero => exact hcd.1
      | succ m => exact hcd.2 m (by omega)
    omega
end


theorem ask_iff {l : List S46} {a1 a2 a3 a4 a5 : Int} (h : askB l a1 a2 a3 a4 a5 = true) : tableB l = true ∧ (0 ≤ a1 ∧ a1 < 30) ∧ (0 ≤ a2 ∧ a2 < 30) ∧ (0 ≤ a3 ∧ a3 ≤ 100000) ∧ (0 ≤ a4 ∧ a4 ≤ 60) ∧ 0 ≤ a5 ∧ a5 ≤ 5 := by
  simp only [askB, Bool.and_eq_true, inB_iff] at h
  exact ⟨h.1.1.1.1.1, by omega, by omega, by omega, by omega, by omega⟩


/-- What Soonest answers. -/
def soonB (l : List S46) (a1 a2 a3 a4 a5 : Int) : Int := if askB l a1 a2 a3 a4 a5 = true then (reach l a1 a3 a4 a5.toNat).getD a2.toNat 0 else -1
theorem spec_soonest (l : List S46) (h : Fit l) (a1 a2 a3 a4 a5 : Int) : Ev (fun k => spec_Soonest.f k l a1 a2 a3 a4 a5) (soonB l a1 a2 a3 a4 a5) := by
  refine Ev.bind (spec_asked l h a1 a2 a3 a4 a5) ?_
  unfold soonB
  cases hb : askB l a1 a2 a3 a4 a5 with
  | false => simpa using Ev.now (-1 : Int)
  | true =>
    obtain ⟨h0, h1, h2, h3, h4, h5⟩ := ask_iff hb
    simp only [if_true]
    have e : (a5.toNat : Int) = a5 := by omega
    have hr := reach_ev h0 h1 h4 (r := a3) (by omega) a5.toNat (by omega)
    rw [e] at hr
    have hg := reach_good h0 h1 (r := a3) (by omega) h4.1 a5.toNat
    refine Ev.bind hr ?_
    simp only [h2.1, hg.1, show a2 < ((30 : Nat) : Int) by omega, if_true]
    exact Ev.now _


theorem table_l8 {l : List S46} (h : tableB l = true) : impl_departures.l8 l = true := by
  have hl : l.length ≤ 24 := by simp only [tableB, Bool.and_eq_true, decide_eq_true_eq] at h; exact h.1
  simp only [impl_departures.l8, Bool.and_eq_true, decide_eq_true_eq, List.all_eq_true]
  refine ⟨hl, fun t ht => ?_⟩
  have hB := trip_of h ht
  refine ⟨?_, fun c hc => ?_⟩
  · simp only [tripB, Bool.and_eq_true, inB_iff] at hB
    omega
  · have := calls_ok hB hc
    omega
theorem getD_at {α : Type} (z : α) (l : List α) (i : Nat) (h : i < l.length) : l[i] = l.getD i z := by simp [List.getD_eq_getElem?_getD, List.getElem?_eq_getElem h]
theorem mem_getD {α : Type} (z : α) {l : List α} {a : α} (h : a ∈ l) : ∃ i, i < l.length ∧ l.getD i z = a := by
  obtain ⟨i, hi, rfl⟩ := List.mem_iff_getElem.1 h
  exact ⟨i, hi, (getD_at z l i hi).symm⟩
/-- The program's legs from a node are the ways of one leg. -/
theorem legs_leg (l : List S46) (u v d a : Int) : Leg l u v d a ↔ ∃ x, x ∈ impl_departures.l0 l u ∧ (impl_departures.l1 l x).f2 = d ∧ (impl_departures.l2 l x).f0 = v ∧ (impl_departures.l2 l x).f1 = a := by
  constructor
  · rintro ⟨t, ht, hL⟩
    obtain ⟨i, hi, rfl⟩ := mem_getD z46 ht
    obtain ⟨on, hon, hu, hd, e, he, hv, ha⟩ := (legIn_idx _ _ _ _ _).1 hL
    obtain ⟨off, h1, h2, rfl⟩ := (mem_drop_getD _ _ _).1 he
    refine ⟨⟨(i : Int), (on : Int), (off : Int)⟩, ?_, hd, hv, ha⟩
    unfold impl_departures.l0
    refine List.mem_flatMap.2 ⟨i, List.mem_range.2 hi, List.mem_flatMap.2 ⟨on, List.mem_range.2 hon, ?_⟩⟩
    rw [if_pos hu]
    refine List.mem_map.2 ⟨off - (on + 1), List.mem_range.2 (by omega), ?_⟩
    congr 1
    omega
  · rintro ⟨x, hx, rfl, rfl, rfl⟩
    unfold impl_departures.l0 at hx
    obtain ⟨i, hi, hx⟩ := List.mem_flatMap.1 hx
    obtain ⟨on, hon, hx⟩ := List.mem_flatMap.1 hx
    rw [List.mem_range] at hi hon
    split at hx
    · rename_i hn
      obtain ⟨m, hm, rfl⟩ := List.mem_map.1 hx
      rw [List.mem_range] at hm
      refine ⟨l.getD i z46, getD_mem z46 l i hi, (legIn_idx _ _ _ _ _).2 ⟨on, hon, hn, rfl, (l.getD i z46).f1.getD (on + 1 + m) z43, (mem_drop_getD _ _ _).2 ⟨on + 1 + m, by omega, by omega, rfl⟩, ?_, ?_⟩⟩
      · show _ = (rd_T43 (rd_T46 l ((i : Nat) : Int)).f1 ((on + 1 + m : Nat) : Int)).f0
        rfl
      · show _ = (rd_T43 (rd_T46 l ((i : Nat) : Int)).f1 ((on + 1 + m : Nat) : Int)).f1
        rfl
    · simp at hx

def DKept (h : Nat) (o0 o : List Int) : Prop := o.length = o0.length ∧ ∀ p, (p < (h + 1) * 30 ∨ (h + 2) * 30 ≤ p) → o.getD p 0 = o0.getD p 0
/-- Whether a leg is in time for the row. -/
def dgo (tg by_ ch : Int) (h : Nat) (o : List Int) (v a : Int) : Prop := if h = 0 then v = tg ∧ a ≤ by_ else a + ch ≤ o.getD (h * 30 + v.toNat) 0
theorem dgo_iff (l : List S46) (tg by_ ch : Int) (h : Nat) (o : List Int) (x : S48) : impl_departures.l3 l tg by_ ch (decide (h = 0)) (fun i => o.getD (h * 30 + i) 0) x = true ↔ dgo tg by_ ch h o (impl_departures.l2 l x).f0 (impl_departures.l2 l x).f1 := by
  unfold impl_departures.l3 dgo
  by_cases e : h = 0
  · simp [e]
  · simp [e]
section
variable (l : List S46) (tg by_ ch : Int) (ht : tableB l = true) (hc : 0 ≤ ch)
include ht hc
theorem dnode (h : Nat) {o0 : List Int} (hL : (h + 2) * 30 ≤ o0.length) (n : Nat) (hn : n < 30) (z : Int) (v : Nat) (hv : v < 30) : ∀ (L : List S48), (∀ x, x ∈ L → x ∈ impl_departures.l0 l (n : Int)) → ∀ o, DKept h o0 o →
    DKept h o0 (L.foldl (impl_departures.l4 l tg by_ ch h n) o) ∧
    ((L.foldl (impl_departures.l4 l tg by_ ch h n) o).getD ((h + 1) * 30 + v) 0 ≤ z ↔ o.getD ((h + 1) * 30 + v) 0 ≤ z ∧ (v = n → ∀ x, x ∈ L → dgo tg by_ ch h o0 (impl_departures.l2 l x).f0 (impl_departures.l2 l x).f1 → (impl_departures.l1 l x).f2 ≤ z)) := by
  have _u := And.intro hc hv
  intro L
  induction L with
  | nil => intro _ o hk; exact ⟨hk, by simp⟩
  | cons x L ih =>
    intro hm o hk
    have hx := hm x List.mem_cons_self
    have hleg := leg_ok ht ((legs_leg l (n : Int) _ _ _).2 ⟨x, hx, rfl, rfl, rfl⟩)
    rw [List.foldl_cons]
    have hgo : impl_departures.l3 l tg by_ ch (decide (h = 0)) (fun i => o.getD (h * 30 + i) 0) x = true ↔ dgo tg by_ ch h o0 (impl_departures.l2 l x).f0 (impl_departures.l2 l x).f1 := by
      rw [dgo_iff]
      unfold dgo
      rw [hk.2 (h * 30 + (impl_departures.l2 l x).f0.toNat) (Or.inl (by omega))]
    have step : DKept h o0 (impl_departures.l4 l tg by_ ch h n o x) ∧ ((impl_departures.l4 l tg by_ ch h n o x).getD ((h + 1) * 30 + v) 0 ≤ z ↔ o.getD ((h + 1) * 30 + v) 0 ≤ z ∧ (v = n → dgo tg by_ ch h o0 (impl_departures.l2 l x).f0 (impl_departures.l2 l x).f1 → (impl_departures.l1 l x).f2 ≤ z)) := by
      unfold impl_departures.l4
      by_cases hg : impl_departures.l3 l tg by_ ch (decide (h = 0)) (fun i => o.getD (h * 30 + i) 0) x = true
      · rw [if_pos hg]
        refine ⟨⟨by simpa using hk.1, fun p hp => ?_⟩, ?_⟩
        · rw [getD_set_i _ _ _ _ (by rw [hk.1]; omega), if_neg (by omega)]
          exact hk.2 p hp
        · rw [getD_set_i _ _ _ _ (by rw [hk.1]; omega)]
          by_cases e : v = n
          · subst e
            rw [if_pos rfl]
            have := hgo.1 hg
            simp only [this, true_implies]
            omega
          · rw [if_neg (by omega)]
            simp [e]
      · rw [if_neg hg]
        refine ⟨hk, ?_⟩
        have : ¬ dgo tg by_ ch h o0 (impl_departures.l2 l x).f0 (impl_departures.l2 l x).f1 := fun hh => hg (hgo.2 hh)
        simp [this]
    have h2 := ih (fun y hy => hm y (List.mem_cons_of_mem _ hy)) _ step.1
    refine ⟨h2.1, h2.2.trans ?_⟩
    rw [step.2]
    constructor
    · rintro ⟨⟨a1, a2⟩, a3⟩
      refine ⟨a1, fun e y hy => ?_⟩
      rcases List.mem_cons.1 hy with rfl | hy
      · exact a2 e
      · exact a3 e y hy
    · rintro ⟨a1, a2⟩
      exact ⟨⟨a1, fun e => a2 e x List.mem_cons_self⟩, fun e y hy => a2 e y (List.mem_cons_of_mem _ hy)⟩
theorem drow (h : Nat) {o0 : List Int} (hL : (h + 2) * 30 ≤ o0.length) (z : Int) (v : Nat) (hv : v < 30) : ∀ n, n ≤ 30 → DKept h o0 (impl_departures.l5 l tg by_ ch h n o0) ∧
    ((impl_departures.l5 l tg by_ ch h n o0).getD ((h + 1) * 30 + v) 0 ≤ z ↔ o0.getD ((h + 1) * 30 + v) 0 ≤ z ∧ (v < n → ∀ x, x ∈ impl_departures.l0 l (v : Int) → dgo tg by_ ch h o0 (impl_departures.l2 l x).f0 (impl_departures.l2 l x).f1 → (impl_departures.l1 l x).f2 ≤ z)) := by
  intro n
  induction n with
  | zero => intro _; exact ⟨⟨rfl, fun _ _ => rfl⟩, by simp [impl_departures.l5]⟩
  | succ n ih =>
    intro hn
    obtain ⟨k1, k2⟩ := ih (by omega)
    have k3 := dnode l tg by_ ch ht hc h hL n (by omega) z v hv (impl_departures.l0 l (n : Int)) (fun _ hx => hx) _ k1
    simp only [impl_departures.l5]
    refine ⟨k3.1, k3.2.trans ?_⟩
    rw [k2]
    by_cases e : v = n
    · subst e
      constructor
      · rintro ⟨⟨a1, _⟩, a3⟩; exact ⟨a1, fun _ => a3 rfl⟩
      · rintro ⟨a1, a2⟩; exact ⟨⟨a1, fun hh => absurd hh (by omega)⟩, fun _ => a2 (by omega)⟩
    · constructor
      · rintro ⟨⟨a1, a2⟩, _⟩; exact ⟨a1, fun hh => a2 (by omega)⟩
      · rintro ⟨a1, a2⟩; exact ⟨⟨a1, fun hh => a2 (by omega)⟩, fun hh => absurd hh e⟩
/-- A row of departures: a bound is above it just when it is above all departures of ways with so many legs that arrive in time. -/
theorem dep_rows (hops : Nat) : ∀ k, k ≤ hops → (impl_departures.l6 l tg by_ ch k (List.replicate ((hops + 1) * 30) (-1))).length = (hops + 1) * 30 ∧
    (∀ v : Int, 0 ≤ v → v < 30 → (impl_departures.l6 l tg by_ ch k (List.replicate ((hops + 1) * 30) (-1))).getD v.toNat 0 = -1) ∧
    (∀ m, m < k → ∀ z v : Int, 0 ≤ v → v < 30 → ((impl_departures.l6 l tg by_ ch k (List.replicate ((hops + 1) * 30) (-1))).getD ((m + 1) * 30 + v.toNat) 0 ≤ z ↔ -1 ≤ z ∧ ∀ d a, a ≤ by_ → Path l ch m v d tg a → d ≤ z)) ∧
    (∀ m, k < m → m ≤ hops → ∀ v : Int, 0 ≤ v → v < 30 → (impl_departures.l6 l tg by_ ch k (List.replicate ((hops + 1) * 30) (-1))).getD (m * 30 + v.toNat) 0 = -1) := by
  intro k
  induction k with
  | zero =>
    intro _
    simp only [impl_departures.l6]
    refine ⟨by simp, fun v h0 h1 => getD_rep _ _ _ (by omega), fun m hm => absurd hm (by omega), fun m hm hm2 v h0 h1 => getD_rep _ _ _ (by omega)⟩
  | succ k ih =>
    intro hk
    obtain ⟨hL, hZ, hA, hN⟩ := ih (by omega)
    simp only [impl_departures.l6]
    generalize impl_departures.l6 l tg by_ ch k (List.replicate ((hops + 1) * 30) (-1)) = o at hL hZ hA hN
    have hrow := fun (z : Int) (v : Nat) (hv : v < 30) => drow l tg by_ ch ht hc k (o0 := o) (by omega) z v hv 30 (Nat.le_refl _)
    have hkept := (hrow 0 0 (by omega)).1
    refine ⟨by rw [hkept.1]; exact hL, fun v h0 h1 => ?_, fun m hm z v h0 h1 => ?_, fun m hm hm2 v h0 h1 => ?_⟩
    · rw [hkept.2 _ (Or.inl (by omega))]; exact hZ v h0 h1
    · rcases Nat.lt_or_ge m k with c | c
      · rw [hkept.2 _ (Or.inl (by omega))]
        exact hA m c z v h0 h1
      · obtain rfl : m = k := by omega
        rw [(hrow z v.toNat (by omega)).2, hN (m + 1) (by omega) (by omega) v h0 h1]
        refine and_congr_right fun hz => ?_
        have ev : ((v.toNat : Nat) : Int) = v := by omega
        rw [ev]
        constructor
        · intro hh d a ha hp
          have hh' := hh (by omega)
          cases m with
          | zero =>
            obtain ⟨x, hx, rfl, hv', rfl⟩ := (legs_leg l _ _ _ _).1 hp
            exact hh' x hx (by unfold dgo; rw [if_pos rfl]; exact ⟨hv', ha⟩)
          | succ m =>
            obtain ⟨w, d', a', h4, h5, h6⟩ := hp
            have hw := leg_ok ht h4
            obtain ⟨x, hx, rfl, rfl, rfl⟩ := (legs_leg l _ _ _ _).1 h4
            refine hh' x hx ?_
            unfold dgo
            rw [if_neg (by omega)]
            have := ((hA m (by omega) _ _ hw.2.2.1 hw.2.2.2.1).1 (Int.le_refl _)).2 d' a ha h6
            omega
        · intro hh _ x hx hgo
          have hleg := (legs_leg l v _ _ _).2 ⟨x, hx, rfl, rfl, rfl⟩
          have hw := leg_ok ht hleg
          cases m with
          | zero =>
            unfold dgo at hgo
            rw [if_pos rfl] at hgo
            exact hh _ _ hgo.2 (hgo.1 ▸ hleg)
          | succ m =>
            unfold dgo at hgo
            rw [if_neg (by omega)] at hgo
            have : ∃ d' a', a' ≤ by_ ∧ Path l ch m (impl_departures.l2 l x).f0 d' tg a' ∧ o.getD ((m + 1) * 30 + (impl_departures.l2 l x).f0.toNat) 0 ≤ d' := by
              refine Classical.byContradiction (fun hn => ?_)
              have := (hA m (by omega) (o.getD ((m + 1) * 30 + (impl_departures.l2 l x).f0.toNat) 0 - 1) _ hw.2.2.1 hw.2.2.2.1).2 ⟨by omega, fun d' a' ha' hp => ?_⟩
              · omega
              · refine Classical.byContradiction (fun hlt => hn ⟨d', a', ha', hp, by omega⟩)
            obtain ⟨d', a', ha', hp, hd'⟩ := this
            exact hh _ a' ha' ⟨_, d', _, hleg, by omega, hp⟩
    · rw [hkept.2 _ (Or.inr (by omega))]
      exact hN m (by omega) hm2 v h0 h1
end


/-- What is left of a journey: n legs arrive at the soonest, and fewer do not. -/
def JInv (l : List S46) (ch tg en : Int) (n : Nat) (at_ ready : Int) : Prop :=
  (∀ m, m < n + 1 → ∀ d a, ready ≤ d → Path l ch m at_ d tg a → en ≤ a) ∧ (∀ m, m < n → ∀ d a, ready ≤ d → Path l ch m at_ d tg a → ¬ a ≤ en) ∧ ∃ d a, ready ≤ d ∧ a ≤ en ∧ Path l ch n at_ d tg a
section
variable {l : List S46} (ht : tableB l = true) {tg en ch : Int} (htg : 0 ≤ tg ∧ tg < 30) (hc : 0 ≤ ch ∧ ch ≤ 60) (hen : 0 ≤ en ∧ en ≤ 100000)
include ht htg hc hen
theorem dep_at (cnt m : Nat) (hm : m < cnt) (v : Int) (hv : 0 ≤ v ∧ v < 30) (z : Int) (hz : 0 ≤ z) : z ≤ (impl_departures.l7 l tg en ch cnt).getD ((m + 1) * 30 + v.toNat) 0 ↔ ∃ d a, z ≤ d ∧ a ≤ en ∧ Path l ch m v d tg a := by
  have _u := And.intro htg hen
  have hA := (dep_rows l tg en ch ht hc.1 cnt cnt (Nat.le_refl _)).2.2.1 m hm
  unfold impl_departures.l7
  constructor
  · intro h
    refine Classical.byContradiction (fun hn => ?_)
    have := (hA (z - 1) v hv.1 hv.2).2 ⟨by omega, fun d a ha hp => ?_⟩
    · omega
    · refine Classical.byContradiction (fun hlt => hn ⟨d, a, by omega, ha, hp⟩)
  · rintro ⟨d, a, h1, h2, h3⟩
    have := ((hA _ v hv.1 hv.2).1 (Int.le_refl _)).2 d a h2 h3
    omega
end


section
variable {l : List S46} (ht : tableB l = true) {tg en ch : Int} (htg : 0 ≤ tg ∧ tg < 30) (hc : 0 ≤ ch ∧ ch ≤ 60) (hen : 0 ≤ en ∧ en ≤ 100000)
include ht htg hc hen
theorem jnext (cnt n : Nat) (hn : n + 1 < cnt) (at_ ready : Int) (hJ : JInv l ch tg en (n + 1) at_ ready) (x : S48) (hx : x ∈ impl_departures.l0 l at_)
    (hp : impl_Journey.l0 l tg en ch ready (n + 1) (impl_departures.l7 l tg en ch cnt) x = true) : JInv l ch tg en n (impl_departures.l2 l x).f0 ((impl_departures.l2 l x).f1 + ch) := by
  have hleg : Leg l at_ (impl_departures.l2 l x).f0 (impl_departures.l1 l x).f2 (impl_departures.l2 l x).f1 := (legs_leg l _ _ _ _).2 ⟨x, hx, rfl, rfl, rfl⟩
  have hok := leg_ok ht hleg
  unfold impl_Journey.l0 at hp
  rw [Bool.and_eq_true, decide_eq_true_eq, dgo_iff] at hp
  obtain ⟨hd, hg⟩ := hp
  unfold dgo at hg
  rw [if_neg (by omega)] at hg
  obtain ⟨d', a', h1, h2, h3⟩ := (dep_at ht htg hc hen cnt n (by omega) _ ⟨hok.2.2.1, hok.2.2.2.1⟩ _ (by omega)).1 hg
  obtain ⟨hA, hB, _⟩ := hJ
  refine ⟨fun m hm d a hda hp => ?_, fun m hm d a hda hp => ?_, d', a', h1, h2, h3⟩
  · exact hA (m + 1) (by omega) _ a hd ⟨_, d, _, hleg, hda, hp⟩
  · exact hB (m + 1) (by omega) _ a hd ⟨_, d, _, hleg, hda, hp⟩
theorem jsome (cnt n : Nat) (hn : n < cnt) (at_ ready : Int) (hJ : JInv l ch tg en n at_ ready) : ∃ x, (impl_departures.l0 l at_).find? (impl_Journey.l0 l tg en ch ready n (impl_departures.l7 l tg en ch cnt)) = some x := by
  cases hf : (impl_departures.l0 l at_).find? (impl_Journey.l0 l tg en ch ready n (impl_departures.l7 l tg en ch cnt)) with
  | some x => exact ⟨x, rfl⟩
  | none =>
    exfalso
    rw [List.find?_eq_none] at hf
    obtain ⟨_, _, d, a, hd, ha, hp⟩ := hJ
    cases n with
    | zero =>
      obtain ⟨x, hx, rfl, hv, rfl⟩ := (legs_leg l _ _ _ _).1 hp
      refine hf x hx ?_
      unfold impl_Journey.l0
      rw [Bool.and_eq_true, decide_eq_true_eq, dgo_iff]
      refine ⟨hd, ?_⟩
      unfold dgo
      rw [if_pos rfl]
      exact ⟨hv, ha⟩
    | succ n =>
      obtain ⟨w, d', a', h4, h5, h6⟩ := hp
      have hok := leg_ok ht h4
      obtain ⟨x, hx, rfl, rfl, rfl⟩ := (legs_leg l _ _ _ _).1 h4
      refine hf x hx ?_
      unfold impl_Journey.l0
      rw [Bool.and_eq_true, decide_eq_true_eq, dgo_iff]
      refine ⟨hd, ?_⟩
      unfold dgo
      rw [if_neg (by omega)]
      exact (dep_at ht htg hc hen cnt n (by omega) _ ⟨hok.2.2.1, hok.2.2.2.1⟩ _ (by omega)).2 ⟨d', a, h5, ha, h6⟩
end
/-- What Journey answers. -/
def jourB (l : List S46) (a1 a2 a3 a4 a5 : Int) : List S48 := if askB l a1 a2 a3 a4 a5 = true then (if (impl_soonest.l2 l a1 a2 a3 a4 a5.toNat).1 < 0 then [] else impl_Journey.l1 l a2 (impl_soonest.l2 l a1 a2 a3 a4 a5.toNat).1 a4 (impl_departures.l7 l a2 (impl_soonest.l2 l a1 a2 a3 a4 a5.toNat).1 a4 (impl_soonest.l2 l a1 a2 a3 a4 a5.toNat).2.toNat) (impl_soonest.l2 l a1 a2 a3 a4 a5.toNat).2.toNat [] a1 a3) else []
theorem soon_facts {l : List S46} (ht : tableB l = true) {fr mi ch tg : Int} (hfr : 0 ≤ fr ∧ fr < 30) (hr : 0 ≤ mi ∧ mi ≤ 100000) (hc : 0 ≤ ch) (htg : 0 ≤ tg ∧ tg < 30) (hops : Nat) (hpos : ¬ (impl_soonest.l2 l fr tg mi ch hops).1 < 0) :
    ∃ c : Nat, c ≤ hops ∧ (impl_soonest.l2 l fr tg mi ch hops).2 = (c : Int) ∧ (impl_soonest.l2 l fr tg mi ch hops).1 ≤ 100000 ∧ (∀ m, m ≤ hops → acond l fr mi ch m tg (impl_soonest.l2 l fr tg mi ch hops).1) ∧ (∀ m, m < c → acond l fr mi ch m tg ((impl_soonest.l2 l fr tg mi ch hops).1 + 1)) ∧ ¬ acond l fr mi ch c tg ((impl_soonest.l2 l fr tg mi ch hops).1 + 1) := by
  obtain ⟨s1, s2, s3⟩ := soon_at (impl_arrivals.l3 l fr mi ch hops) tg.toNat (hops + 1)
  have hrow := fun m (hm : m ≤ hops) x => arr_cond ht hfr hr hc hops m hm x tg htg
  unfold impl_soonest.l2 impl_soonest.l1 at *
  generalize impl_soonest.l0 (impl_arrivals.l3 l fr mi ch hops) tg.toNat (hops + 1) = s at *
  rcases s3 with ⟨e1, e2⟩ | ⟨m, hm, e1, e2, e3, e4⟩
  · rw [if_pos (by omega)] at hpos
    exact absurd (show ((-1 : Int), (-1 : Int)).1 < 0 by decide) hpos
  · have hne : ¬ s.2 < 0 := by omega
    rw [if_neg hne] at hpos ⊢
    refine ⟨m, by omega, e1, by omega, fun m' hm' => ((hrow m' hm' _).1 (s2 m' (by omega))).2, fun m' hm' => ?_, fun hcon => ?_⟩
    · have := e4 m' hm'
      exact ((hrow m' (by omega) (s.1 + 1)).1 (by omega)).2
    · have := (hrow m (by omega) (s.1 + 1)).2 ⟨by omega, hcon⟩
      omega


theorem impl_journey (l : List S46) (h : Fit l) (a1 a2 a3 a4 a5 : Int) : Ev (fun k => impl_Journey.f k l a1 a2 a3 a4 a5) (jourB l a1 a2 a3 a4 a5) := by
  refine Ev.bind (impl_asked l h a1 a2 a3 a4 a5) ?_
  unfold jourB
  cases hb : askB l a1 a2 a3 a4 a5 with
  | false => simpa using Ev.now ([] : List S48)
  | true =>
    obtain ⟨h0, h1, h2, h3, h4, h5⟩ := ask_iff hb
    simp only [if_true, impl_soonest.f]
    rw [if_pos ⟨table_l4 h0, h1.1, h1.2, h2.1, h2.2, h3.1, h3.2, h4.1, h4.2, h5.1, h5.2⟩]
    simp only [Option.bind_some, impl_Journey.l2]
    by_cases hneg : (impl_soonest.l2 l a1 a2 a3 a4 a5.toNat).1 < 0
    · simp only [hneg, if_true]; exact Ev.now _
    · simp only [hneg, if_false]
      obtain ⟨c, hc, ec, hE, _, _, _⟩ := soon_facts h0 h1 h3 h4.1 h2 a5.toNat hneg
      rw [if_pos ⟨table_l8 h0, h1.1, h1.2, h3.1, h3.2, h4.1, h4.2, by omega, by omega⟩]
      exact Ev.now _
/-- A loop that tests all, where a place's test leans on those ahead of it. -/
theorem ev_pre (n : Nat) (p : Nat → Bool) (g : Nat → Int → Option Bool) (h0 : Ev (fun k => g k n) true)
    (h1 : ∀ i : Nat, i < n → (∀ j, j < i → p j = true) → p i = true → ∀ r, Ev (fun k => g k ((i + 1 : Nat) : Int)) r → Ev (fun k => g k i) r)
    (h2 : ∀ i : Nat, i < n → (∀ j, j < i → p j = true) → p i = false → Ev (fun k => g k i) false) :
    Ev (fun k => g k 0) ((List.range n).all p) := by
  have key : ∀ d i, i + d = n → (∀ j, j < i → p j = true) → ∃ r, Ev (fun k => g k (i : Int)) r ∧ (r = true ↔ ∀ j, j < n → p j = true) := by
    intro d
    induction d with
    | zero =>
      intro i hi hp
      obtain rfl : i = n := by omega
      exact ⟨true, h0, fun _ => hp, fun _ => rfl⟩
    | succ d ih =>
      intro i hi hp
      cases c : p i with
      | false => exact ⟨false, h2 i (by omega) hp c, fun h => absurd h (by decide), fun h => by rw [h i (by omega)] at c; cases c⟩
      | true =>
        obtain ⟨r, hr, he⟩ := ih (i + 1) (by omega) (fun j hj => by
          by_cases e : j = i
          · rw [e]; exact c
          · exact hp j (by omega))
        exact ⟨r, h1 i (by omega) hp c r hr, he⟩
  obtain ⟨r, hr, he⟩ := key n 0 (by omega) (fun j hj => by omega)
  have : r = (List.range n).all p := by
    rw [Bool.eq_iff_iff, he, List.all_eq_true]
    exact ⟨fun h j hj => h j (List.mem_range.1 hj), fun h j hj => h j (List.mem_range.2 hj)⟩
  rw [← this]
  exact hr

/-- The call of a trip. -/
def cl (l : List S46) (t j : Int) : S43 := rd_T43 (rd_T46 l t).f1 j
/-- A leg's places are in the table. -/
def legIn (l : List S46) (x : S48) : Bool := inB x.f0 0 ((l.length : Int) - 1) && (decide (0 ≤ x.f1) && (decide (x.f1 < x.f2) && decide (x.f2 < ((rd_T46 l x.f0).f1.length : Int))))
def legJoin (l : List S46) (b x : S48) (ch : Int) : Bool := decide ((cl l b.f0 b.f2).f0 = (cl l x.f0 x.f1).f0) && !decide ((cl l x.f0 x.f1).f2 < (cl l b.f0 b.f2).f1 + ch)
def legB (l : List S46) (ls : List S48) (ch : Int) (i : Nat) : Bool := legIn l (ls.getD i z48) && (decide (i = 0) || legJoin l (ls.getD (i - 1) z48) (ls.getD i z48) ch)
def legsB (l : List S46) (ls : List S48) (ch : Int) : Bool := tableB l && (inB ch 0 60 && (decide (ls.length ≤ 5) && (List.range ls.length).all (legB l ls ch)))
theorem legIn_iff {l : List S46} {x : S48} : legIn l x = true ↔ (0 ≤ x.f0 ∧ x.f0 < l.length) ∧ 0 ≤ x.f1 ∧ x.f1 < x.f2 ∧ x.f2 < ((rd_T46 l x.f0).f1.length : Int) := by
  simp only [legIn, Bool.and_eq_true, inB_iff, decide_eq_true_eq]
  omega
theorem rd48 (ls : List S48) (i : Nat) : rd_T48 ls (i : Int) = ls.getD i z48 := rfl
theorem rd46_mem {l : List S46} {t : Int} (h0 : 0 ≤ t) (h1 : t < l.length) : rd_T46 l t ∈ l := getD_mem z46 l t.toNat (by omega)
theorem rd43_mem {l : List S43} {t : Int} (h0 : 0 ≤ t) (h1 : t < l.length) : rd_T43 l t ∈ l := getD_mem z43 l t.toNat (by omega)
theorem cl_ok {l : List S46} (h : tableB l = true) {t j : Int} (h0 : 0 ≤ t ∧ t < l.length) (h1 : 0 ≤ j ∧ j < ((rd_T46 l t).f1.length : Int)) : 0 ≤ (cl l t j).f0 ∧ (cl l t j).f0 < 30 ∧ 0 ≤ (cl l t j).f1 ∧ (cl l t j).f1 ≤ (cl l t j).f2 ∧ (cl l t j).f2 ≤ 100000 :=
  calls_ok (trip_of h (rd46_mem h0.1 h0.2)) (rd43_mem h1.1 h1.2)
theorem ends_at (l : List S46) (b : S48) (h : legIn l b = true) : impl_ends.f l b.f0 b.f1 b.f2 = some (cl l b.f0 b.f2).f0 := by
  rw [legIn_iff] at h
  unfold impl_ends.f
  rw [if_pos (by omega), if_pos (by omega), if_pos (by omega), if_pos (by omega)]; rfl
theorem arrives_at (l : List S46) (b : S48) (h : legIn l b = true) : impl_arrives.f l b.f0 b.f1 b.f2 = some (cl l b.f0 b.f2).f1 := by
  rw [legIn_iff] at h
  unfold impl_arrives.f
  rw [if_pos (by omega), if_pos (by omega), if_pos (by omega), if_pos (by omega)]; rfl
theorem leaves_at (l : List S46) (b : S48) (h : legIn l b = true) : impl_leaves.f l b.f0 b.f1 b.f2 = some (cl l b.f0 b.f1).f2 := by
  rw [legIn_iff] at h
  unfold impl_leaves.f
  rw [if_pos (by omega), if_pos (by omega), if_pos (by omega), if_pos (by omega)]; rfl

section
variable {l : List S46} {ls : List S48} {ch : Int}
theorem sum_w (hT : tableB l = true) (hc : 0 ≤ ch ∧ ch ≤ 60) {b : S48} (hb : legIn l b = true) : wrap64 ((cl l b.f0 b.f2).f1 + ch) = (cl l b.f0 b.f2).f1 + ch := by
  rw [legIn_iff] at hb
  have := cl_ok hT (t := b.f0) (j := b.f2) (by omega) (by omega)
  rw [w64 (by omega) (by omega)]
theorem impl_leg (hF : Fit l) (i : Nat) (hi : i < ls.length) (k : Nat) :
    impl_LegsOk.l0 (k + 1) l ls ch ls ls.length i = impl_LegsOk.j2 k l ls ch i ls ls.length i (!legIn l (ls.getD i z48)) (ls.getD i z48).f0 (ls.getD i z48).f1 (ls.getD i z48).f2 := by
  have h1 := hF.1
  simp only [impl_LegsOk.l0, between, Option.bind_some]
  rw [rd48]
  rw [if_pos (by omega), if_pos (by omega), if_pos (by omega), w64 (by omega) (by omega)]
  unfold legIn
  cases c : inB (ls.getD i z48).f0 0 ((l.length : Int) - 1) with
  | false => simp
  | true =>
    have := inB_iff.1 c
    by_cases c1 : (ls.getD i z48).f1 < 0
    · rw [if_pos rfl, if_pos c1, decide_eq_false (show ¬ 0 ≤ (ls.getD i z48).f1 by omega)]; simp
    · by_cases c2 : (ls.getD i z48).f1 ≥ (ls.getD i z48).f2
      · rw [if_pos rfl, if_neg c1, if_pos c2, decide_eq_false (show ¬ (ls.getD i z48).f1 < (ls.getD i z48).f2 by omega)]; simp
      · rw [if_pos rfl, if_neg c1, if_neg c2, if_pos (by omega), if_pos (by omega), decide_eq_true (show 0 ≤ (ls.getD i z48).f1 by omega), decide_eq_true (show (ls.getD i z48).f1 < (ls.getD i z48).f2 by omega)]
        congr 1
        by_cases c3 : (ls.getD i z48).f2 < ((rd_T46 l (ls.getD i z48).f0).f1.length : Int)
        · rw [decide_eq_true c3, decide_eq_false (by omega)]; rfl
        · rw [decide_eq_false c3, decide_eq_true (by omega)]; rfl
theorem spec_leg (hF : Fit l) (i : Nat) (hi : i < ls.length) (k : Nat) :
    spec_LegsOk.l0 (k + 1) l ls ch i = spec_LegsOk.j2 k l ls ch i (!legIn l (ls.getD i z48)) (ls.getD i z48).f0 (ls.getD i z48).f1 (ls.getD i z48).f2 := by
  have h1 := hF.1
  simp only [spec_LegsOk.l0, l01In, Option.bind_some]
  rw [rd48]
  rw [if_pos (by omega), if_pos (by omega), w64 (by omega) (by omega)]
  unfold legIn
  cases c : inB (ls.getD i z48).f0 0 ((l.length : Int) - 1) with
  | false => simp
  | true =>
    have := inB_iff.1 c
    have hm := (hF.2 _ (rd46_mem (t := (ls.getD i z48).f0) (by omega) (by omega))).2
    rw [if_pos rfl, if_pos (by omega), if_pos (by omega), w64 (x := ((rd_T46 l (ls.getD i z48).f0).f1.length : Int) - 1) (by omega) (by omega)]
    cases c2 : inB (ls.getD i z48).f2 0 (((rd_T46 l (ls.getD i z48).f0).f1.length : Int) - 1) with
    | false =>
      rw [if_neg (by decide)]
      congr 1
      by_cases c3 : (ls.getD i z48).f2 < ((rd_T46 l (ls.getD i z48).f0).f1.length : Int)
      · have : ¬ (0 ≤ (ls.getD i z48).f2 ∧ (ls.getD i z48).f2 ≤ ((rd_T46 l (ls.getD i z48).f0).f1.length : Int) - 1) := fun h => by rw [inB_iff.2 h] at c2; cases c2
        by_cases c4 : 0 ≤ (ls.getD i z48).f1
        · rw [decide_eq_true c4, decide_eq_false (show ¬ (ls.getD i z48).f1 < (ls.getD i z48).f2 by omega)]; rfl
        · rw [decide_eq_false c4]; rfl
      · rw [decide_eq_false c3]; simp
    | true =>
      have := inB_iff.1 c2
      rw [if_pos rfl, w64 (by omega) (by omega), decide_eq_true (show (ls.getD i z48).f2 < ((rd_T46 l (ls.getD i z48).f0).f1.length : Int) by omega)]
      congr 1
      unfold inB
      by_cases c4 : 0 ≤ (ls.getD i z48).f1
      · by_cases c5 : (ls.getD i z48).f1 < (ls.getD i z48).f2
        · rw [decide_eq_true c4, decide_eq_true c5, decide_eq_true (show (ls.getD i z48).f1 ≤ (ls.getD i z48).f2 - 1 by omega)]; rfl
        · rw [decide_eq_true c4, decide_eq_false c5, decide_eq_false (show ¬ (ls.getD i z48).f1 ≤ (ls.getD i z48).f2 - 1 by omega)]; rfl
      · rw [decide_eq_false c4]; rfl
theorem impl_join (hT : tableB l = true) (hc : 0 ≤ ch ∧ ch ≤ 60) (hn : ls.length ≤ 5) (i : Nat) (hi : i < ls.length) (hx : legIn l (ls.getD i z48) = true) (hb : i ≠ 0 → legIn l (ls.getD (i - 1) z48) = true) (k : Nat) :
    impl_LegsOk.j2 (k + 1) l ls ch i ls ls.length i false (ls.getD i z48).f0 (ls.getD i z48).f1 (ls.getD i z48).f2 = if (decide (i = 0) || legJoin l (ls.getD (i - 1) z48) (ls.getD i z48) ch) = true then impl_LegsOk.l0 k l ls ch ls ls.length ((i + 1 : Nat) : Int) else some false := by
  simp only [impl_LegsOk.j2]
  rw [if_neg (by decide)]
  by_cases c : i = 0
  · subst c
    rw [if_pos (show ((0 : Nat) : Int) = 0 by rfl), w64s hi (by omega), if_pos (by simp)]
  · have hb := hb c
    have e : wrap64 ((i : Int) - 1) = ((i - 1 : Nat) : Int) := by rw [w64 (by omega) (by omega)]; omega
    rw [if_neg (by omega), e, rd48]
    have hx' := legIn_iff.1 hx
    rw [if_pos (by omega), if_pos (by omega), if_pos (by omega), if_pos (by omega), if_pos (by omega), if_pos (by omega), ends_at _ _ hb, arrives_at _ _ hb, leaves_at _ _ hx, Option.bind_some, Option.bind_some, Option.bind_some, sum_w hT hc hb, decide_eq_false c, Bool.false_or, w64s hi (by omega)]
    unfold legJoin
    show (if (cl l (ls.getD i z48).f0 (ls.getD i z48).f1).f0 = _ then _ else _) = _
    by_cases c1 : (cl l (ls.getD (i - 1) z48).f0 (ls.getD (i - 1) z48).f2).f0 = (cl l (ls.getD i z48).f0 (ls.getD i z48).f1).f0
    · rw [if_pos c1.symm, decide_eq_true c1]
      by_cases c2 : (cl l (ls.getD i z48).f0 (ls.getD i z48).f1).f2 < (cl l (ls.getD (i - 1) z48).f0 (ls.getD (i - 1) z48).f2).f1 + ch
      · rw [if_pos c2, decide_eq_true c2]; rfl
      · rw [if_neg c2, decide_eq_false c2]; rfl
    · rw [if_neg (fun h => c1 h.symm), decide_eq_false c1]; rfl
theorem spec_join (hT : tableB l = true) (hc : 0 ≤ ch ∧ ch ≤ 60) (hn : ls.length ≤ 5) (i : Nat) (hi : i < ls.length) (hx : legIn l (ls.getD i z48) = true) (hb : i ≠ 0 → legIn l (ls.getD (i - 1) z48) = true) (k : Nat) :
    spec_LegsOk.j2 (k + 1) l ls ch i false (ls.getD i z48).f0 (ls.getD i z48).f1 (ls.getD i z48).f2 = if (decide (i = 0) || legJoin l (ls.getD (i - 1) z48) (ls.getD i z48) ch) = true then spec_LegsOk.l0 k l ls ch ((i + 1 : Nat) : Int) else some false := by
  simp only [spec_LegsOk.j2]
  rw [if_neg (by decide)]
  by_cases c : i = 0
  · subst c
    rw [if_neg (show ¬ ((0 : Nat) : Int) > 0 by decide), w64s hi (by omega), if_pos (by simp)]
  · have hb := hb c
    have e : wrap64 ((i : Int) - 1) = ((i - 1 : Nat) : Int) := by rw [w64 (by omega) (by omega)]; omega
    rw [if_pos (by omega), e, rd48]
    have hx' := legIn_iff.1 hx
    have hb' := legIn_iff.1 hb
    have hs := sum_w hT hc hb
    unfold cl at hs
    rw [if_pos (by omega), if_pos (by omega), if_pos (by omega), if_pos (by omega), if_pos (by omega), if_pos (by omega), if_pos (by omega), if_pos (by omega), if_pos (by omega), if_pos (by omega), hs, decide_eq_false c, Bool.false_or, w64s hi (by omega)]
    unfold legJoin
    show (if (cl l (ls.getD (i - 1) z48).f0 (ls.getD (i - 1) z48).f2).f0 = (cl l (ls.getD i z48).f0 (ls.getD i z48).f1).f0 then (if (cl l (ls.getD i z48).f0 (ls.getD i z48).f1).f2 < (cl l (ls.getD (i - 1) z48).f0 (ls.getD (i - 1) z48).f2).f1 + ch then _ else _) else _) = _
    by_cases c1 : (cl l (ls.getD (i - 1) z48).f0 (ls.getD (i - 1) z48).f2).f0 = (cl l (ls.getD i z48).f0 (ls.getD i z48).f1).f0
    · rw [if_pos c1, decide_eq_true c1]
      by_cases c2 : (cl l (ls.getD i z48).f0 (ls.getD i z48).f1).f2 < (cl l (ls.getD (i - 1) z48).f0 (ls.getD (i - 1) z48).f2).f1 + ch
      · rw [if_pos c2, decide_eq_true c2]; rfl
      · rw [if_neg c2, decide_eq_false c2]; rfl
    · rw [if_neg c1, decide_eq_false c1]; rfl
end
theorem legB_in {l : List S46} {ls : List S48} {ch : Int} {i : Nat} (h : legB l ls ch i = true) : legIn l (ls.getD i z48) = true := (Bool.and_eq_true_iff.1 h).1
theorem impl_legs (l : List S46) (hF : Fit l) (ls : List S48) (ch : Int) : Ev (fun k => impl_LegsOk.f k l ls ch) (legsB l ls ch) := by
  refine Ev.bind (impl_table l hF) ?_
  unfold legsB
  cases hT : tableB l with
  | false => exact ev_some (fun k => by simp [impl_LegsOk.j0])
  | true =>
    simp only [impl_changeOk.f, between, Option.bind_some, if_true, Bool.true_and]
    cases hc : inB ch 0 60 with
    | false => exact ev_some (fun k => by simp [impl_LegsOk.j0])
    | true =>
      simp only [if_true, Bool.true_and]
      by_cases hn : (ls.length : Int) > 5
      · rw [decide_eq_true hn, decide_eq_false (show ¬ ls.length ≤ 5 by omega)]
        exact ev_some (fun k => by simp [impl_LegsOk.j0])
      · rw [decide_eq_false hn, decide_eq_true (show ls.length ≤ 5 by omega), Bool.true_and]
        refine ev_at (f := fun k => impl_LegsOk.l0 k l ls ch ls ls.length 0) ?_ (fun k => by simp [impl_LegsOk.j0])
        have hc' := inB_iff.1 hc
        refine ev_pre ls.length (legB l ls ch) (fun k i => impl_LegsOk.l0 k l ls ch ls ls.length i) (ev_some (fun k => by simp [impl_LegsOk.l0])) ?_ ?_
        · intro i hi hp hpi r hr
          have h1 := legB_in hpi
          have h2 : (decide (i = 0) || legJoin l (ls.getD (i - 1) z48) (ls.getD i z48) ch) = true := (Bool.and_eq_true_iff.1 hpi).2
          refine ev_at (f := fun k => impl_LegsOk.j2 k l ls ch i ls ls.length i false (ls.getD i z48).f0 (ls.getD i z48).f1 (ls.getD i z48).f2) ?_ (fun k => by rw [impl_leg hF i hi k, h1]; rfl)
          refine ev_at hr (fun k => ?_)
          rw [impl_join hT hc' (by omega) i hi h1 (fun c => legB_in (hp (i - 1) (by omega))) k, if_pos h2]
        · intro i hi hp hpi
          cases h1 : legIn l (ls.getD i z48) with
          | false =>
            refine ev_at (f := fun k => impl_LegsOk.j2 k l ls ch i ls ls.length i true (ls.getD i z48).f0 (ls.getD i z48).f1 (ls.getD i z48).f2) ?_ (fun k => by rw [impl_leg hF i hi k, h1]; rfl)
            exact ev_some (fun k => by simp [impl_LegsOk.j2])
          | true =>
            have h2 : ¬ (decide (i = 0) || legJoin l (ls.getD (i - 1) z48) (ls.getD i z48) ch) = true := fun h => by
              unfold legB at hpi; rw [h1, h] at hpi; cases hpi
            refine ev_at (f := fun k => impl_LegsOk.j2 k l ls ch i ls ls.length i false (ls.getD i z48).f0 (ls.getD i z48).f1 (ls.getD i z48).f2) ?_ (fun k => by rw [impl_leg hF i hi k, h1]; rfl)
            refine ev_some (fun k => ?_)
            rw [impl_join hT hc' (by omega) i hi h1 (fun c => legB_in (hp (i - 1) (by omega))) k, if_neg h2]
theorem spec_legs (l : List S46) (hF : Fit l) (ls : List S48) (ch : Int) : Ev (fun k => spec_LegsOk.f k l ls ch) (legsB l ls ch) := by
  refine Ev.bind (spec_table l hF) ?_
  unfold legsB
  cases hT : tableB l with
  | false => exact ev_some (fun k => by simp [spec_LegsOk.j0])
  | true =>
    simp only [spec_l12Change.f, l01In, Option.bind_some, if_true, Bool.true_and]
    cases hc : inB ch 0 60 with
    | false => exact ev_some (fun k => by simp [spec_LegsOk.j0])
    | true =>
      simp only [if_true, Bool.true_and]
      by_cases hn : (ls.length : Int) > 5
      · rw [decide_eq_true hn, decide_eq_false (show ¬ ls.length ≤ 5 by omega)]
        exact ev_some (fun k => by simp [spec_LegsOk.j0])
      · rw [decide_eq_false hn, decide_eq_true (show ls.length ≤ 5 by omega), Bool.true_and]
        refine ev_at (f := fun k => spec_LegsOk.l0 k l ls ch 0) ?_ (fun k => by simp [spec_LegsOk.j0])
        have hc' := inB_iff.1 hc
        refine ev_pre ls.length (legB l ls ch) (fun k i => spec_LegsOk.l0 k l ls ch i) (ev_some (fun k => by simp [spec_LegsOk.l0])) ?_ ?_
        · intro i hi hp hpi r hr
          have h1 := legB_in hpi
          have h2 : (decide (i = 0) || legJoin l (ls.getD (i - 1) z48) (ls.getD i z48) ch) = true := (Bool.and_eq_true_iff.1 hpi).2
          refine ev_at (f := fun k => spec_LegsOk.j2 k l ls ch i false (ls.getD i z48).f0 (ls.getD i z48).f1 (ls.getD i z48).f2) ?_ (fun k => by rw [spec_leg hF i hi k, h1]; rfl)
          refine ev_at hr (fun k => ?_)
          rw [spec_join hT hc' (by omega) i hi h1 (fun c => legB_in (hp (i - 1) (by omega))) k, if_pos h2]
        · intro i hi hp hpi
          cases h1 : legIn l (ls.getD i z48) with
          | false =>
            refine ev_at (f := fun k => spec_LegsOk.j2 k l ls ch i true (ls.getD i z48).f0 (ls.getD i z48).f1 (ls.getD i z48).f2) ?_ (fun k => by rw [spec_leg hF i hi k, h1]; rfl)
            exact ev_some (fun k => by simp [spec_LegsOk.j2])
          | true =>
            have h2 : ¬ (decide (i = 0) || legJoin l (ls.getD (i - 1) z48) (ls.getD i z48) ch) = true := fun h => by
              unfold legB at hpi; rw [h1, h] at hpi; cases hpi
            refine ev_at (f := fun k => spec_LegsOk.j2 k l ls ch i false (ls.getD i z48).f0 (ls.getD i z48).f1 (ls.getD i z48).f2) ?_ (fun k => by rw [spec_leg hF i hi k, h1]; rfl)
            refine ev_some (fun k => ?_)
            rw [spec_join hT hc' (by omega) i hi h1 (fun c => legB_in (hp (i - 1) (by omega))) k, if_neg h2]


/-- A leg that can be taken from a node at a minute. -/
def LegFrom (l : List S46) (at_ ready : Int) (x : S48) : Prop := legIn l x = true ∧ (cl l x.f0 x.f1).f0 = at_ ∧ ready ≤ (cl l x.f0 x.f1).f2
/-- Legs one behind the other, to a node at a minute. -/
def Chain (l : List S46) (ch tg en : Int) : Int → Int → List S48 → Prop
  | _, _, [] => False
  | at_, ready, [x] => LegFrom l at_ ready x ∧ (cl l x.f0 x.f2).f0 = tg ∧ (cl l x.f0 x.f2).f1 = en
  | at_, ready, x :: y :: r => LegFrom l at_ ready x ∧ Chain l ch tg en (cl l x.f0 x.f2).f0 ((cl l x.f0 x.f2).f1 + ch) (y :: r)
theorem legs_from {l : List S46} {node : Int} {x : S48} (h : x ∈ impl_departures.l0 l node) : legIn l x = true ∧ (cl l x.f0 x.f1).f0 = node := by
  unfold impl_departures.l0 at h
  obtain ⟨i, hi, h⟩ := List.mem_flatMap.1 h
  obtain ⟨on, hon, h⟩ := List.mem_flatMap.1 h
  rw [List.mem_range] at hi hon
  split at h
  · rename_i hn
    obtain ⟨m, hm, rfl⟩ := List.mem_map.1 h
    rw [List.mem_range] at hm
    have e : rd_T46 l ((i : Nat) : Int) = l.getD i z46 := rfl
    refine ⟨legIn_iff.2 ?_, hn⟩
    dsimp only
    rw [e]
    omega
  · simp at h
section
variable {l : List S46} (ht : tableB l = true) {tg en ch : Int} (htg : 0 ≤ tg ∧ tg < 30) (hc : 0 ≤ ch ∧ ch ≤ 60) (hen : 0 ≤ en ∧ en ≤ 100000)
include ht htg hc hen
theorem told (cnt : Nat) : ∀ n, n < cnt → ∀ (at_ ready : Int), JInv l ch tg en n at_ ready → ∃ L : List S48, L.length = n + 1 ∧ Chain l ch tg en at_ ready L ∧ ∀ out, impl_Journey.l1 l tg en ch (impl_departures.l7 l tg en ch cnt) (n + 1) out at_ ready = out ++ L := by
  intro n
  induction n with
  | zero =>
    intro hn at_ ready hJ
    obtain ⟨x, hx⟩ := jsome ht htg hc hen cnt 0 hn at_ ready hJ
    have hmem := List.mem_of_find?_eq_some hx
    have hpx := List.find?_some hx
    unfold impl_Journey.l0 at hpx
    rw [Bool.and_eq_true, decide_eq_true_eq, dgo_iff] at hpx
    obtain ⟨hd, hg⟩ := hpx
    unfold dgo at hg
    rw [if_pos rfl] at hg
    obtain ⟨h1, h2⟩ := legs_from hmem
    have hleg : Leg l at_ (impl_departures.l2 l x).f0 (impl_departures.l1 l x).f2 (impl_departures.l2 l x).f1 := (legs_leg l _ _ _ _).2 ⟨x, hmem, rfl, rfl, rfl⟩
    have hlo := hJ.1 0 (by omega) (impl_departures.l1 l x).f2 (impl_departures.l2 l x).f1 hd (show Leg l at_ tg _ _ from hg.1 ▸ hleg)
    refine ⟨[x], rfl, ⟨⟨h1, h2, hd⟩, hg.1, ?_⟩, fun out => ?_⟩
    · show (impl_departures.l2 l x).f1 = en
      omega
    · rw [impl_Journey.l1, hx]; rfl
  | succ n ih =>
    intro hn at_ ready hJ
    obtain ⟨x, hx⟩ := jsome ht htg hc hen cnt (n + 1) hn at_ ready hJ
    have hmem := List.mem_of_find?_eq_some hx
    have hpx := List.find?_some hx
    have hnx := jnext ht htg hc hen cnt n hn at_ ready hJ x hmem hpx
    obtain ⟨L, hL, hC, hE⟩ := ih (by omega) _ _ hnx
    unfold impl_Journey.l0 at hpx
    rw [Bool.and_eq_true, decide_eq_true_eq] at hpx
    obtain ⟨h1, h2⟩ := legs_from hmem
    refine ⟨x :: L, by rw [List.length_cons, hL], ?_, fun out => ?_⟩
    · cases L with
      | nil => exact absurd hC (fun h => h)
      | cons y r => exact ⟨⟨h1, h2, hpx.1⟩, hC⟩
    · rw [impl_Journey.l1, hx]
      show impl_Journey.l1 l tg en ch (impl_departures.l7 l tg en ch cnt) (n + 1) (out ++ [x]) (impl_departures.l2 l x).f0 ((impl_departures.l2 l x).f1 + ch) = _
      rw [hE, List.append_assoc]; rfl
end
theorem chain_pos {l : List S46} {ch tg en at_ ready : Int} {L : List S48} (h : Chain l ch tg en at_ ready L) : 1 ≤ L.length := by
  cases L with
  | nil => exact absurd h (fun h => h)
  | cons x r => rw [List.length_cons]; omega
theorem chain_head {l : List S46} {ch tg en at_ ready : Int} {L : List S48} (h : Chain l ch tg en at_ ready L) : LegFrom l at_ ready (L.getD 0 z48) := by
  match L, h with
  | [x], h => exact h.1
  | x :: y :: r, h => exact h.1
theorem chain_last {l : List S46} {ch tg en : Int} : ∀ (L : List S48) (at_ ready : Int), Chain l ch tg en at_ ready L → legIn l (L.getD (L.length - 1) z48) = true ∧ (cl l (L.getD (L.length - 1) z48).f0 (L.getD (L.length - 1) z48).f2).f0 = tg ∧ (cl l (L.getD (L.length - 1) z48).f0 (L.getD (L.length - 1) z48).f2).f1 = en
  | [], _, _, h => absurd h (fun h => h)
  | [_], _, _, h => ⟨h.1.1, h.2⟩
  | _ :: y :: r, _, _, h => chain_last (y :: r) _ _ h.2
theorem chain_legs {l : List S46} {ch tg en : Int} : ∀ (L : List S48) (at_ ready : Int), Chain l ch tg en at_ ready L → ∀ i, i < L.length → legB l L ch i = true
  | [], _, _, h, _, _ => absurd h (fun h => h)
  | [x], _, _, h, i, hi => by
    have : i = 0 := by simp at hi; omega
    subst this
    have h1 : legIn l x = true := h.1.1
    simp [legB, h1]
  | x :: y :: r, _, _, h, i, hi => by
    have hx : legIn l x = true := h.1.1
    cases i with
    | zero => simp [legB, hx]
    | succ i =>
      have ih := chain_legs (y :: r) _ _ h.2 i (by simp at hi ⊢; omega)
      have hin := legB_in ih
      unfold legB
      show (legIn l ((y :: r).getD i z48) && (decide (i + 1 = 0) || legJoin l ((x :: y :: r).getD i z48) ((y :: r).getD i z48) ch)) = true
      rw [hin, Bool.true_and, decide_eq_false (by omega), Bool.false_or]
      cases i with
      | zero =>
        obtain ⟨_, h2, h3⟩ := chain_head h.2
        show legJoin l x y ch = true
        have h2 : (cl l y.f0 y.f1).f0 = (cl l x.f0 x.f2).f0 := h2
        have h3 : (cl l x.f0 x.f2).f1 + ch ≤ (cl l y.f0 y.f1).f2 := h3
        unfold legJoin
        rw [decide_eq_true h2.symm, decide_eq_false (by omega)]
        rfl
      | succ i =>
        unfold legB at ih
        rw [Bool.and_eq_true, decide_eq_false (by omega), Bool.false_or] at ih
        exact ih.2
theorem chain_ok {l : List S46} {ch tg en at_ ready : Int} {L : List S48} (h : Chain l ch tg en at_ ready L) (ht : tableB l = true) (hc : 0 ≤ ch ∧ ch ≤ 60) (hL : L.length ≤ 5) : legsB l L ch = true := by
  unfold legsB
  rw [ht, Bool.true_and, inB_iff.2 hc, Bool.true_and, decide_eq_true hL, Bool.true_and, List.all_eq_true]
  exact fun i hi => chain_legs L _ _ h i (List.mem_range.1 hi)

theorem ask_true {l : List S46} (h : tableB l = true) {a1 a2 a3 a4 a5 : Int} (h1 : 0 ≤ a1 ∧ a1 < 30) (h2 : 0 ≤ a2 ∧ a2 < 30) (h3 : 0 ≤ a3 ∧ a3 ≤ 100000) (h4 : 0 ≤ a4 ∧ a4 ≤ 60) (h5 : 0 ≤ a5 ∧ a5 ≤ 5) : askB l a1 a2 a3 a4 a5 = true := by
  simp only [askB, Bool.and_eq_true, inB_iff]
  exact ⟨⟨⟨⟨⟨h, by omega⟩, by omega⟩, by omega⟩, by omega⟩, by omega⟩
/-- The soonest arrival with at most so many legs. -/
def soonE (l : List S46) (fr tg mi ch : Int) (n : Nat) : Int := (reach l fr mi ch n).getD tg.toNat 0
theorem soon_ev {l : List S46} (h : tableB l = true) (hf : Fit l) {a1 a2 a3 a4 : Int} (h1 : 0 ≤ a1 ∧ a1 < 30) (h2 : 0 ≤ a2 ∧ a2 < 30) (h3 : 0 ≤ a3 ∧ a3 ≤ 100000) (h4 : 0 ≤ a4 ∧ a4 ≤ 60) (n : Nat) (hn : n ≤ 5) : Ev (fun k => impl_Soonest.f k l a1 a2 a3 a4 (n : Int)) (soonE l a1 a2 a3 a4 n) := by
  have ha := impl_asked l hf a1 a2 a3 a4 (n : Int)
  rw [ask_true h h1 h2 h3 h4 (by omega)] at ha
  refine Ev.bind ha ?_
  simp only [if_true, impl_soonest.f]
  rw [if_pos ⟨table_l4 h, h1.1, h1.2, h2.1, h2.2, h3.1, h3.2, h4.1, h4.2, by omega, by omega⟩, Int.toNat_natCast]
  simp only [Option.bind_some, soonest_same h h1 h3 h4.1 n h2]
  exact Ev.now _
section
variable {l : List S46} (ht : tableB l = true) {fr tg mi ch : Int} (hfr : 0 ≤ fr ∧ fr < 30) (htg : 0 ≤ tg ∧ tg < 30) (hmi : 0 ≤ mi ∧ mi ≤ 100000) (hc : 0 ≤ ch ∧ ch ≤ 60)
include ht hfr htg hmi hc
theorem soon_lo (n : Nat) (x : Int) (hx : x ≤ never) (h0 : tg = fr → x ≤ mi) (h1 : ∀ m, m < n → ∀ d a, mi ≤ d → Path l ch m fr d tg a → x ≤ a) : soonE l fr tg mi ch n < 0 ∨ x ≤ soonE l fr tg mi ch n := by
  have := (reach_cond ht hfr (r := mi) (ch := ch) (by omega) hc.1 n x tg htg hx).2 ⟨h0, h1⟩
  unfold rval at this
  unfold soonE
  by_cases c : (reach l fr mi ch n).getD tg.toNat 0 < 0
  · exact .inl c
  · rw [if_neg c] at this; exact .inr this
/-- Where one is there already. -/
theorem at_home (he : fr = tg) (n : Nat) : soonE l fr tg mi ch n = mi := by
  have hg := rgood_at (reach_good ht hfr (r := mi) (ch := ch) (by omega) hc.1 n) tg.toNat (by omega)
  have hcond := fun x hx => reach_cond ht hfr (r := mi) (ch := ch) (by omega) hc.1 n x tg htg hx
  have hlo : mi ≤ rval (reach l fr mi ch n) tg := (hcond mi (by unfold never; omega)).2 ⟨fun _ => Int.le_refl _, fun m hm d a hd hp => by have := path_ok ht hc.1 hp; omega⟩
  have hle : rval (reach l fr mi ch n) tg ≤ never := by
    unfold rval
    split
    · exact Int.le_refl _
    · unfold never; omega
  have hup := ((hcond _ hle).1 (Int.le_refl _)).1 he.symm
  unfold soonE
  unfold rval at hlo hup
  by_cases c : (reach l fr mi ch n).getD tg.toNat 0 < 0
  · rw [if_pos c] at hup; unfold never at hup; omega
  · rw [if_neg c] at hlo hup; omega
/-- What is told: nothing, where one is there already or there is no way; else legs to the soonest arrival, as few as may be. -/
theorem journey_facts (n : Nat) (hn : n ≤ 5) :
    (fr = tg ∨ soonE l fr tg mi ch n < 0 → jourB l fr tg mi ch (n : Int) = []) ∧
    (fr ≠ tg → ¬ soonE l fr tg mi ch n < 0 → ∃ L : List S48, jourB l fr tg mi ch (n : Int) = L ∧ L.length ≤ n ∧ soonE l fr tg mi ch n ≤ 100000 ∧ Chain l ch tg (soonE l fr tg mi ch n) fr mi L ∧ soonE l fr tg mi ch (L.length - 1) ≠ soonE l fr tg mi ch n ∧ (1 ≤ n → ∀ d a, mi ≤ d → Leg l fr tg d a → soonE l fr tg mi ch n ≤ a)) := by
  have hask := ask_true (l := l) ht hfr htg hmi hc (a5 := (n : Int)) (by omega)
  have hE : (impl_soonest.l2 l fr tg mi ch n).1 = soonE l fr tg mi ch n := soonest_same ht hfr hmi hc.1 n htg
  have hcond := fun m x hx => reach_cond ht hfr (r := mi) (ch := ch) (by omega) hc.1 m x tg htg hx
  unfold jourB
  rw [if_pos hask, Int.toNat_natCast, hE]
  by_cases hneg : soonE l fr tg mi ch n < 0
  · rw [if_pos hneg]
    exact ⟨fun _ => rfl, fun _ h => absurd hneg h⟩
  · rw [if_neg hneg]
    obtain ⟨c, hcn, ec, hEle, f1, f2, f3⟩ := soon_facts ht hfr hmi hc.1 htg n (by rw [hE]; exact hneg)
    rw [hE] at hEle f1 f2 f3
    rw [ec, Int.toNat_natCast]
    generalize hEE : soonE l fr tg mi ch n = E at *
    have hatt : ∀ m, c = m + 1 → ∃ d a, mi ≤ d ∧ a ≤ E ∧ Path l ch m fr d tg a := by
      intro m hm
      subst hm
      refine Classical.byContradiction (fun hn => f3 (fun d a hd hp => ?_))
      exact Classical.byContradiction (fun hlt => hn ⟨d, a, hd, by omega, hp⟩)
    refine ⟨fun h => ?_, fun hne _ => ?_⟩
    · have he : fr = tg := h.resolve_right hneg
      have hc0 : c = 0 := by
        cases c with
        | zero => rfl
        | succ m =>
          obtain ⟨d, a, hd, ha, hp⟩ := hatt m rfl
          have := path_ok ht hc.1 hp
          have h2 : E + 1 ≤ mi := f2 0 (by omega) he.symm
          omega
      rw [hc0]; rfl
    · cases c with
      | zero => exact absurd (fun he => absurd he.symm hne) f3
      | succ m =>
        have hJ : JInv l ch tg E m fr mi := by
          refine ⟨fun j hj d a hd hp => f1 (j + 1) (by omega) d a hd hp, fun j hj d a hd hp hle => ?_, hatt m rfl⟩
          have := f2 (j + 1) (by omega) d a hd hp
          omega
        obtain ⟨L, hL, hC, hl1⟩ := told ht htg hc (en := E) (by omega) (m + 1) m (by omega) fr mi hJ
        refine ⟨L, by rw [hl1, List.nil_append], by omega, hEle, hC, ?_, fun h1 d a hd hp => f1 1 (by omega) d a hd hp⟩
        have := soon_lo ht hfr htg hmi hc (L.length - 1) (E + 1) (by unfold never; omega) (fun he => absurd he.symm hne) (fun j hj d a hd hp => f2 (j + 1) (by omega) d a hd hp)
        omega
end


/-- From some round on it tells something that meets Q. -/
def EvP {α : Type} (g : Nat → Option α) (Q : α → Prop) : Prop := ∃ r, Ev g r ∧ Q r
theorem evp_of {α : Type} {g : Nat → Option α} {Q : α → Prop} {r : α} (h : Ev g r) (q : Q r) : EvP g Q := ⟨r, h, q⟩
theorem evp_now {α : Type} {Q : α → Prop} (r : α) (q : Q r) : EvP (fun _ => some r) Q := ⟨r, Ev.now r, q⟩
theorem evp_bind {α β : Type} {g : Nat → Option α} {f : Nat → α → Option β} {Q1 : α → Prop} {Q : β → Prop} (h : EvP g Q1) (k : ∀ a, Q1 a → EvP (fun n => f n a) Q) : EvP (fun n => (g n).bind (f n)) Q := by
  obtain ⟨a, ha, qa⟩ := h
  obtain ⟨r, hr, qr⟩ := k a qa
  exact ⟨r, Ev.bind ha hr, qr⟩
theorem evp_at {α : Type} {g f : Nat → Option α} {Q : α → Prop} (k : EvP f Q) (h : ∀ k, g (k + 1) = f k) : EvP g Q := by
  obtain ⟨r, hr, q⟩ := k
  exact ⟨r, ev_at hr h, q⟩
theorem evp_mono {α : Type} {g : Nat → Option α} {Q Q' : α → Prop} (h : EvP g Q) (k : ∀ a, Q a → Q' a) : EvP g Q' := by
  obtain ⟨r, hr, q⟩ := h
  exact ⟨r, hr, k r q⟩
theorem evp_true {g : Nat → Option Bool} (h : EvP g (fun b => b = true)) : Ev g true := by
  obtain ⟨r, hr, rfl⟩ := h
  exact hr

theorem and255 (x : Int) : 0 ≤ Go.bits .and .i64 x 255 ∧ Go.bits .and .i64 x 255 ≤ 255 := by
  have e : Go.bits .and .i64 x 255 = IntKind.i64.wrap (((BitVec.ofInt IntKind.i64.bits x &&& BitVec.ofInt IntKind.i64.bits 255).toNat : Nat) : Int) := rfl
  rw [e]
  have h : (BitVec.ofInt IntKind.i64.bits x &&& BitVec.ofInt IntKind.i64.bits 255).toNat ≤ 255 := by
    rw [BitVec.toNat_and]
    exact Nat.le_trans Nat.and_le_right (by decide)
  generalize (BitVec.ofInt IntKind.i64.bits x &&& BitVec.ofInt IntKind.i64.bits 255).toNat = n at h
  have e2 : IntKind.i64.wrap ((n : Nat) : Int) = wrap64 (n : Int) := by simp only [IntKind.wrap_i64, wrap64]
  rw [e2, w64 (by omega) (by omega)]
  omega

/-- The cursor stands within its bytes. -/
def At (b : List Int) (i : Int) : Prop := 0 ≤ i ∧ i ≤ b.length

theorem l01New (l : List Int) (hl : l.length ≤ 1048576) : EvP (fun k => spec_l01New.f k l) (fun r => r.1 = l ∧ At r.1 r.2.1) := by
  have key : ∀ i, i ≤ l.length → ∀ h : Int, EvP (fun k => spec_l01New.l0 k l h i) (fun r => r.1 = l ∧ At r.1 r.2.1) := by
    have fin : ∀ h : Int, At l 0 := fun h => ⟨Int.le_refl _, by omega⟩
    refine down l.length (fun h => ?_) (fun i hi ih h => ?_)
    · exact evp_of (ev_some (r := (l, 0, h)) (fun k => by simp [spec_l01New.l0])) ⟨rfl, fin h⟩
    · by_cases h4 : (i : Int) < 4000
      · exact evp_at (ih _) (fun k => by simp [spec_l01New.l0, hi, h4, w64s hi (by omega)]; rfl)
      · exact evp_of (ev_some (r := (l, 0, h)) (fun k => by simp [spec_l01New.l0, hi, h4])) ⟨rfl, fin h⟩
  exact key 0 (Nat.zero_le _) _

theorem l01Byte (b : List Int) (i h : Int) (hb : b.length ≤ 1048576) (hi : At b i) : ∃ v i' h', spec_l01Byte.f b i h = some (v, i', h') ∧ (0 ≤ v ∧ v ≤ 255) ∧ At b i' := by
  unfold spec_l01Byte.f
  unfold At at *
  by_cases hlt : i < (b.length : Int)
  · simp only [hlt, if_true, hi.1]
    exact ⟨_, _, _, rfl, and255 _, by rw [w64 (by omega) (by omega)]; omega⟩
  · simp only [hlt, if_false]
    exact ⟨_, _, _, rfl, and255 _, hi⟩

theorem l01Below (b : List Int) (i h n : Int) (hb : b.length ≤ 1048576) (hi : At b i) (hn : 1 ≤ n) (hn2 : n ≤ 1000000) : ∃ v i' h', spec_l01Below.f b i h n = some (v, i', h') ∧ (0 ≤ v ∧ v < n) ∧ At b i' := by
  unfold spec_l01Below.f
  simp only [show ¬ n ≤ 0 by omega, if_false, show ¬ n = 0 by omega]
  obtain ⟨v, i1, h1, e1, hv, hi1⟩ := l01Byte b i h hb hi
  obtain ⟨v2, i2, h2, e2, hv2, hi2⟩ := l01Byte b i1 h1 hb hi1
  obtain ⟨v3, i3, h3, e3, hv3, hi3⟩ := l01Byte b i2 h2 hb hi2
  by_cases h256 : n ≤ 256
  · simp only [h256, if_true, e1, Option.bind_some]
    refine ⟨_, _, _, rfl, ?_, hi1⟩
    rw [Int.tmod_eq_emod_of_nonneg hv.1]
    exact ⟨Int.emod_nonneg _ (by omega), Int.emod_lt_of_pos _ (by omega)⟩
  · simp only [h256, if_false, e1, e2, e3, Option.bind_some]
    refine ⟨_, _, _, rfl, ?_, hi3⟩
    rw [w64 (x := v * 65536) (by omega) (by omega), w64 (x := v2 * 256) (by omega) (by omega), w64 (x := v * 65536 + v2 * 256) (by omega) (by omega), w64 (x := v * 65536 + v2 * 256 + v3) (by omega) (by omega)]
    rw [Int.tmod_eq_emod_of_nonneg (by omega)]
    exact ⟨Int.emod_nonneg _ (by omega), Int.emod_lt_of_pos _ (by omega)⟩

/-- The same, as a step of a chain. -/
theorem below_then {α : Type} {Q : α → Prop} (b : List Int) (i h n : Int) (hb : b.length ≤ 1048576) (hi : At b i) (hn : 1 ≤ n) (hn2 : n ≤ 1000000) {f : Nat → Int × Int × Int → Option α}
    (k : ∀ v i' h', 0 ≤ v → v < n → At b i' → EvP (fun m => f m (v, i', h')) Q) : EvP (fun m => (spec_l01Below.f b i h n).bind (f m)) Q := by
  obtain ⟨v, i', h', e, hv, hi'⟩ := l01Below b i h n hb hi hn hn2
  rw [e]
  exact k v i' h' hv.1 hv.2 hi'

/-- A byte at a place, or what stands for it. -/
theorem at_byte (l : List Int) (hl : l.length ≤ 1048576) (hw : ∀ x, x ∈ l → (Lit.int .u8 x).wf = true) (i : Int) (h0 : 0 ≤ i) (h1 : i ≤ 1000) : ∃ v, laws_at.f l i = some v ∧ 0 ≤ v ∧ v ≤ 255 := by
  unfold laws_at.f
  by_cases h : i < (l.length : Int)
  · simp only [h, if_true, h0]
    refine ⟨_, rfl, ?_⟩
    have hm : rd l i ∈ l := getD_mem 0 l i.toNat (by omega)
    have := wf_u8 (hw _ hm)
    rw [w64 (by omega) (by omega)]
    exact this
  · simp only [h, if_false]
    refine ⟨_, rfl, ?_⟩
    rw [w64 (x := i * 11) (by omega) (by omega), w64 (x := (l.length : Int) * 3) (by omega) (by omega), w64 (x := i * 11 + (l.length : Int) * 3) (by omega) (by omega), Int.tmod_eq_emod_of_nonneg (by omega)]
    omega
theorem big_false {l : List Int} (h : ¬ (l.length : Int) > 1048576) : laws_big.f l = some false := by simp [laws_big.f]; omega
theorem big_true {l : List Int} (h : (l.length : Int) > 1048576) : laws_big.f l = some true := by simp [laws_big.f]; omega


def chOk (s : ByteArray) : Prop := ∀ c, c ∈ s.data.toList → nameCh (c.toNat : Int) = true
theorem ch_append {a b : ByteArray} (ha : chOk a) (hb : chOk b) : chOk (a ++ b) := by
  intro c hc
  rw [ByteArray.data_append, Array.toList_append] at hc
  rcases List.mem_append.1 hc with h | h
  · exact ha c h
  · exact hb c h
theorem ch_name {s : ByteArray} (h : chOk s) (h1 : 1 ≤ s.size) (h2 : s.size ≤ 12) : nameB s = true := by
  unfold nameB
  rw [Bool.and_eq_true, List.all_eq_true]
  refine ⟨fun i hi => ?_, inB_iff.2 (by omega)⟩
  rw [List.mem_range] at hi
  unfold bt
  rw [Int.toNat_natCast, dif_pos hi]
  refine h _ ?_
  have : s[i]'hi = s.data[i]'hi := rfl
  rw [this]
  exact Array.mem_toList_iff.2 (Array.getElem_mem _)
theorem ch_digit (d : Int) (h0 : 0 ≤ d) (h1 : d ≤ 9) : chOk (strOfNums [wrap64 (48 + d) % 256]) := by
  have hw : wrap64 (48 + d) % 256 = 48 + d := by rw [w64 (by omega) (by omega)]; omega
  rw [hw]
  intro c hc
  rw [strOfNums_data] at hc
  simp only [List.map_cons, List.map_nil, List.mem_singleton] at hc
  subst hc
  have e : (UInt8.ofNat (48 + d).toNat).toNat = (48 + d).toNat % 256 := by simp [UInt8.toNat_ofNat]
  rw [e]
  simp only [nameCh, Bool.or_eq_true, Bool.and_eq_true, decide_eq_true_eq]
  omega
theorem num0 (d : Nat) (hd : d ≤ 3) : ∀ (x : Int) (s : ByteArray), 0 ≤ x → x < (10 : Int) ^ d → chOk s → s.size + d ≤ 100 → ∃ r, Ev (fun k => spec_l01Num.l0 k x s false) r ∧ chOk r ∧ s.size ≤ r.size ∧ r.size ≤ s.size + d := by
  induction d with
  | zero =>
    intro x s h0 hx hs hs2
    have hx0 : x = 0 := by simp at hx; omega
    subst hx0
    exact ⟨s, ev_some (fun k => by simp [spec_l01Num.l0]), hs, by omega, by omega⟩
  | succ d ih =>
    intro x s h0 hx hs hs2
    by_cases c : x = 0
    · subst c
      exact ⟨s, ev_some (fun k => by simp [spec_l01Num.l0]), hs, by omega, by omega⟩
    · have hp : (10 : Int) ^ (d + 1) = 10 * 10 ^ d := by rw [Int.pow_succ]; omega
      have ht : Int.tdiv x 10 = x / 10 := Int.tdiv_eq_ediv_of_nonneg h0
      have hm : Int.tmod x 10 = x % 10 := Int.tmod_eq_emod_of_nonneg h0
      have hx3 : x < 1000 := by
        rcases (show d = 0 ∨ d = 1 ∨ d = 2 by omega) with rfl | rfl | rfl <;> simp at hx <;> omega
      have hsz : (strOfNums [wrap64 (48 + Int.tmod x 10) % 256]).size = 1 := rfl
      have hz2 : (strOfNums [wrap64 (48 + Int.tmod x 10) % 256] ++ s).size = 1 + s.size := by rw [ByteArray.size_append, hsz]
      obtain ⟨r, hr, h1, h2, h3⟩ := ih (by omega) (x / 10) (strOfNums [wrap64 (48 + Int.tmod x 10) % 256] ++ s) (by omega) (by omega) (ch_append (ch_digit _ (by omega) (by omega)) hs) (by omega)
      refine ⟨r, ev_at hr (fun k => ?_), h1, by omega, by omega⟩
      simp only [spec_l01Num.l0, Option.bind_some]
      rw [if_neg c, if_neg (by omega), if_pos (by rw [hsz]; omega), ht, w64 (by omega) (by omega)]
theorem num_ok (x : Int) (h0 : 0 ≤ x) (h1 : x < 90) : ∃ r, Ev (fun k => spec_l01Num.f k x) r ∧ chOk r ∧ r.size ≤ 3 := by
  by_cases c : x = 0
  · subst c
    refine ⟨⟨#[48]⟩, ?_, ?_, by decide⟩
    · simp only [spec_l01Num.f, if_true]; exact Ev.now _
    · intro c hc
      have : c = 48 := by simpa using hc
      subst this
      decide
  · obtain ⟨r, hr, h2, _, h3⟩ := num0 3 (by decide) x ⟨#[]⟩ h0 (by omega) (fun c hc => by simp at hc) (by decide)
    refine ⟨r, ?_, h2, (by have : (⟨#[]⟩ : ByteArray).size = 0 := rfl; omega)⟩
    simp only [spec_l01Num.f, c, if_false, show decide (x < 0) = false from decide_eq_false (by omega)]
    exact hr
def drawn5 : List ByteArray := [(⟨#[97]⟩ : ByteArray), (⟨#[105, 99]⟩ : ByteArray), (⟨#[114, 101]⟩ : ByteArray), (⟨#[115]⟩ : ByteArray), (⟨#[120]⟩ : ByteArray)]
theorem drawn5_ok : ∀ s, s ∈ drawn5 → chOk s ∧ 1 ≤ s.size ∧ s.size ≤ 2 := by
  intro s hs
  simp only [drawn5, List.mem_cons, List.not_mem_nil, or_false] at hs
  rcases hs with rfl | rfl | rfl | rfl | rfl
  all_goals
    refine ⟨?_, by decide, by decide⟩
    intro c hc
    simp only [List.mem_cons, List.not_mem_nil, or_false] at hc
    rcases hc with rfl | rfl <;> decide
theorem draw_name (b : List Int) (i h : Int) (hb : b.length ≤ 1048576) (hi : At b i) : EvP (fun k => spec_l08DrawName.f k b i h) (fun r => nameB r.1 = true ∧ r.1.size ≤ 12 ∧ At b r.2.1) := by
  unfold spec_l08DrawName.f
  have hpick : ∃ s i' h', spec_l01PickText.f b i h drawn5 = some (s, i', h') ∧ s ∈ drawn5 ∧ At b i' := by
    obtain ⟨v, i', h', e, hv, hi'⟩ := l01Below b i h 5 hb hi (by omega) (by omega)
    have hl : ((drawn5.length : Nat) : Int) = 5 := rfl
    refine ⟨rdOf ByteArray.empty drawn5 v, i', h', ?_, getD_mem _ _ _ (by rw [show drawn5.length = 5 from rfl]; omega), hi'⟩
    unfold spec_l01PickText.f
    rw [hl, e, Option.bind_some, if_pos hv.1, if_pos hv.2]
  obtain ⟨s, i1, h1, e, hs, hi1⟩ := hpick
  have e' : spec_l01PickText.f b i h [(⟨#[97]⟩ : ByteArray), (⟨#[105, 99]⟩ : ByteArray), (⟨#[114, 101]⟩ : ByteArray), (⟨#[115]⟩ : ByteArray), (⟨#[120]⟩ : ByteArray)] = some (s, i1, h1) := e
  obtain ⟨c1, c2, c3⟩ := drawn5_ok s hs
  simp only [e', Option.bind_some]
  refine below_then b i1 h1 90 hb hi1 (by omega) (by omega) (fun v i2 h2 v0 v1 hi2 => ?_)
  obtain ⟨r, hr, hc, hsz⟩ := num_ok v v0 v1
  refine evp_bind (evp_of hr (Q := fun t => t = r) rfl) (fun t ht => ?_)
  subst ht
  have hz : (s ++ t).size = s.size + t.size := ByteArray.size_append
  rw [if_pos (by omega)]
  have hN : nameB (s ++ t) = true := ch_name (ch_append c1 hc) (by rw [hz]; omega) (by rw [hz]; omega)
  have hN2 : (s ++ t).size ≤ 12 := by rw [hz]; omega
  exact evp_now _ ⟨hN, hN2, hi2⟩

theorem calls_snoc {cs : List S43} (h : callsB cs = true) (c : S43) (hc : 0 ≤ c.f0 ∧ c.f0 ≤ 29 ∧ 0 ≤ c.f1 ∧ c.f1 ≤ c.f2 ∧ c.f2 ≤ 100000) (hlast : cs = [] ∨ ((cs.getD (cs.length - 1) z43).f2 < c.f1 ∧ (cs.getD (cs.length - 1) z43).f0 ≠ c.f0)) : callsB (cs ++ [c]) = true := by
  simp only [callsB, List.all_eq_true, List.mem_range, List.length_append, List.length_singleton] at *
  intro i hi
  have g1 : ∀ j, j < cs.length → (cs ++ [c]).getD j z43 = cs.getD j z43 := fun j hj => by simp [List.getD_eq_getElem?_getD, List.getElem?_append_left hj]
  have g2 : (cs ++ [c]).getD cs.length z43 = c := by simp [List.getD_eq_getElem?_getD]
  rcases Nat.lt_or_ge i cs.length with hlt | hge
  · have := h i hlt
    unfold callB at *
    rw [g1 i hlt, g1 (i - 1) (by omega)]
    exact this
  · obtain rfl : i = cs.length := by omega
    unfold callB
    rw [g2]
    simp only [Bool.and_eq_true, Bool.or_eq_true, decide_eq_true_eq, inB_iff]
    refine ⟨⟨⟨by omega, by omega⟩, by omega⟩, ?_⟩
    rcases hlast with rfl | ⟨a, b⟩
    · exact Or.inl rfl
    · by_cases h0 : cs.length = 0
      · exact Or.inl h0
      · rw [g1 (cs.length - 1) (by omega)]
        exact Or.inr ⟨a, b⟩
theorem way_ev (b : List Int) (i h N node : Int) : Ev (fun k => spec_l02DrawWay.f k b i h N ([] : List S98) node 1) (([] : List Int), i, h) := by
  unfold spec_l02DrawWay.f
  refine Ev.step (f := fun k => spec_l02DrawWay.l1 k 1 [] node 0 0 0 b i h N []) (fun k => ?_) (Ev.step (f := fun k => spec_l02DrawWay.l0 k 1 [] node 1 b i h N []) (fun k => ?_) (ev_some (fun k => ?_)))
  · simp [spec_l02DrawWay.l0, spec_l01Below.f]
  · simp only [spec_l02DrawWay.l1]
    rw [if_neg (by simp), w64 (by omega) (by omega)]
    rfl
  · simp [spec_l02DrawWay.l0]
theorem draw_trip0 (b : List Int) (hb : b.length ≤ 1048576) (N : Int) (hN : N = 4 ∨ N = 5) (nm : ByteArray) (n : Nat) : ∀ (node m : Int) (cs : List S43) (i h : Int), At b i → n + cs.length ≤ 4 → 2 ≤ n + cs.length → 0 ≤ node → node < N → 0 ≤ m → m + 20 * n ≤ 300 → callsB cs = true →
    (cs = [] ∨ ((cs.getD (cs.length - 1) z43).f2 < m ∧ (cs.getD (cs.length - 1) z43).f0 ≠ node)) →
    EvP (fun k => spec_l08DrawTrip.l0 k node m n b i h N ([] : List S98) nm cs) (fun r => r.1 = nm ∧ callsB r.2.1 = true ∧ 2 ≤ r.2.1.length ∧ r.2.1.length ≤ 4 ∧ At b r.2.2.1) := by
  induction n with
  | zero =>
    intro node m cs i h hi h4 h2 _ _ _ _ hcs _
    exact evp_of (ev_some (r := (nm, cs, i, h)) (fun k => by simp [spec_l08DrawTrip.l0])) ⟨rfl, hcs, by dsimp only; omega, by dsimp only; omega, hi⟩
  | succ n ih =>
    intro node m cs i h hi h4 h2 n0 n1 m0 m1 hcs hlast
    refine evp_at (f := fun k => (spec_l01Below.f b i h 4).bind fun bt194 => (spec_l01Below.f b bt194.2.1 bt194.2.2 14).bind fun bt200 => (spec_l01Below.f b bt200.2.1 bt200.2.2 (N - 1)).bind fun bt203 => (spec_l02DrawWay.f k b bt203.2.1 bt203.2.2 N ([] : List S98) node 1).bind fun bt206 =>
      if (bt206.1.length : Int) = 1 then (if 0 < (bt206.1.length : Int) then (if 0 ≤ (rd bt206.1 0) then (if (rd bt206.1 0) < (([] : List S98).length : Int) then ((spec_l02Other.f ((rd_T98 [] (rd bt206.1 0)).f0) ((rd_T98 [] (rd bt206.1 0)).f1) ((rd_T98 [] (rd bt206.1 0)).f2) ((rd_T98 [] (rd bt206.1 0)).f3) node).bind fun t213 => (spec_l08DrawTrip.l0 k t213 (wrap64 ((wrap64 ((wrap64 (m + bt194.1)) + 2)) + bt200.1)) (n : Int) b bt206.2.1 bt206.2.2 N [] nm (cs ++ [(⟨node, m, wrap64 (m + bt194.1)⟩ : S43)]))) else none) else none) else none) else (spec_l08DrawTrip.l0 k (Int.tmod (wrap64 ((wrap64 (node + 1)) + bt203.1)) N) (wrap64 ((wrap64 ((wrap64 (m + bt194.1)) + 2)) + bt200.1)) (n : Int) b bt206.2.1 bt206.2.2 N [] nm (cs ++ [(⟨node, m, wrap64 (m + bt194.1)⟩ : S43)]))) ?_ (fun k => ?_)
    · refine below_then b i h 4 hb hi (by omega) (by omega) (fun v1 i1 h1 a1 a2 hi1 => ?_)
      refine below_then b i1 h1 14 hb hi1 (by omega) (by omega) (fun v2 i2 h2' a3 a4 hi2 => ?_)
      refine below_then b i2 h2' (N - 1) hb hi2 (by omega) (by omega) (fun v3 i3 h3 a5 a6 hi3 => ?_)
      refine evp_bind (evp_of (way_ev b i3 h3 N node) (Q := fun t => t = (([] : List Int), i3, h3)) rfl) (fun t ht => ?_)
      subst ht
      simp only [List.length_nil, show ¬ (((0 : Nat) : Int) = 1) by decide, if_false]
      rw [w64 (x := m + v1) (by omega) (by omega), w64 (x := m + v1 + 2) (by omega) (by omega), w64 (x := m + v1 + 2 + v2) (by omega) (by omega), w64 (x := node + 1) (by omega) (by omega), w64 (x := node + 1 + v3) (by omega) (by omega), Int.tmod_eq_emod_of_nonneg (by omega)]
      have hnode : 0 ≤ (node + 1 + v3) % N ∧ (node + 1 + v3) % N < N ∧ (node + 1 + v3) % N ≠ node := by rcases hN with rfl | rfl <;> omega
      refine ih _ _ _ i3 h3 hi3 (by simp; omega) (by simp; omega) hnode.1 hnode.2.1 (by omega) (by omega) (calls_snoc hcs _ (by dsimp only; omega) hlast) (Or.inr ?_)
      have g2 : (cs ++ [(⟨node, m, m + v1⟩ : S43)]).getD ((cs ++ [(⟨node, m, m + v1⟩ : S43)]).length - 1) z43 = ⟨node, m, m + v1⟩ := by simp [List.getD_eq_getElem?_getD]
      rw [g2]
      exact ⟨by dsimp only; omega, fun e => hnode.2.2 e.symm⟩
    · simp only [spec_l08DrawTrip.l0, Option.bind_some]
      rw [if_pos (by omega)]
      simp only [show cs.length < 5864062014805 by omega, if_true, show ¬ N = 0 by omega, if_false]
      rw [w64 (x := N - 1) (by omega) (by omega), w64 (x := ((n + 1 : Nat) : Int) - 1) (by omega) (by omega), show ((n + 1 : Nat) : Int) - 1 = (n : Int) by omega]
theorem draw_trip (b : List Int) (i h N : Int) (hb : b.length ≤ 1048576) (hi : At b i) (hN : N = 4 ∨ N = 5) : EvP (fun k => spec_l08DrawTrip.f k b i h N ([] : List S98) 4) (fun r => tripB ⟨r.1, r.2.1⟩ = true ∧ r.1.size ≤ 12 ∧ r.2.1.length ≤ 4 ∧ At b r.2.2.1) := by
  unfold spec_l08DrawTrip.f
  refine evp_bind (draw_name b i h hb hi) (fun r hr => ?_)
  obtain ⟨hn, hz, hi1⟩ := hr
  refine below_then b _ _ N hb hi1 (by omega) (by omega) (fun v1 i1 h1 a1 a2 hi1 => ?_)
  refine below_then b i1 h1 120 hb hi1 (by omega) (by omega) (fun v2 i2 h2 a3 a4 hi2 => ?_)
  rw [w64 (x := 4 - 1) (by omega) (by omega)]
  refine below_then b i2 h2 (4 - 1) hb hi2 (by omega) (by omega) (fun v3 i3 h3 a5 a6 hi3 => ?_)
  rw [w64 (x := 2 + v3) (by omega) (by omega)]
  have e : 2 + v3 = ((2 + v3.toNat : Nat) : Int) := by omega
  dsimp only
  rw [e]
  refine evp_mono (draw_trip0 b hb N hN r.1 (2 + v3.toNat) v1 v2 [] i3 h3 hi3 (by simp; omega) (by simp) a1 a2 a3 (by omega) rfl (Or.inl rfl)) (fun q hq => ?_)
  obtain ⟨q1, q2, q3, q4, q5⟩ := hq
  refine ⟨?_, by rw [q1]; exact hz, q4, q5⟩
  unfold tripB
  rw [Bool.and_eq_true, Bool.and_eq_true, inB_iff]
  exact ⟨⟨by rw [q1]; exact hn, by dsimp only; omega⟩, q2⟩
theorem taken_ev (l : List S46) (nm : ByteArray) (hl : l.length ≤ 1000) : Ev (fun k => spec_l08Taken.f k l nm) (l.any (fun t => decide (t.f0.toList = nm.toList))) := by
  refine ev_any l (fun t => decide (t.f0.toList = nm.toList)) (fun k i => spec_l08Taken.l0 k l nm i) (fun k => by simp [spec_l08Taken.l0]) (fun k i hi hp => ?_) (fun k i hi hp => ?_)
  · have e : rd_T46 l (i : Int) = l[i] := by unfold rd_T46; simp [List.getD_eq_getElem?_getD, List.getElem?_eq_getElem hi]
    simp only [spec_l08Taken.l0]
    rw [if_pos (by omega), if_pos (by omega), e, if_pos (by simpa using hp)]
  · have e : rd_T46 l (i : Int) = l[i] := by unfold rd_T46; simp [List.getD_eq_getElem?_getD, List.getElem?_eq_getElem hi]
    simp only [spec_l08Taken.l0]
    rw [if_pos (by omega), if_pos (by omega), e, if_neg (by simpa using hp), w64s hi (by omega)]
def TabOk (l : List S46) : Prop := (∀ i, i < l.length → tripB (l.getD i z46) = true ∧ newB l i = true) ∧ ∀ t, t ∈ l → t.f0.size ≤ 12 ∧ t.f1.length ≤ 4
theorem tab_snoc {l : List S46} (h : TabOk l) (t : S46) (ht : tripB t = true) (hz : t.f0.size ≤ 12 ∧ t.f1.length ≤ 4) (hn : l.any (fun x => decide (x.f0.toList = t.f0.toList)) = false) : TabOk (l ++ [t]) := by
  have g1 : ∀ j, j < l.length → (l ++ [t]).getD j z46 = l.getD j z46 := fun j hj => by simp [List.getD_eq_getElem?_getD, List.getElem?_append_left hj]
  have g2 : (l ++ [t]).getD l.length z46 = t := by simp [List.getD_eq_getElem?_getD]
  refine ⟨fun i hi => ?_, fun x hx => ?_⟩
  · rw [List.length_append, List.length_singleton] at hi
    rcases Nat.lt_or_ge i l.length with hlt | hge
    · have h1 := h.1 i hlt
      refine ⟨by rw [g1 i hlt]; exact h1.1, ?_⟩
      have h2 := h1.2
      simp only [newB, List.all_eq_true, List.mem_range, decide_eq_true_eq] at *
      intro j hj
      rw [g1 i hlt, g1 j (by omega)]
      exact h2 j hj
    · obtain rfl : i = l.length := by omega
      refine ⟨by rw [g2]; exact ht, ?_⟩
      simp only [newB, List.all_eq_true, List.mem_range, decide_eq_true_eq]
      intro j hj
      rw [g2, g1 j hj]
      rw [List.any_eq_false] at hn
      have := hn _ (getD_mem z46 l j hj)
      simpa using this
  · rcases List.mem_append.1 hx with hx | hx
    · exact h.2 x hx
    · rw [List.mem_singleton.1 hx]; exact hz
theorem draw_table0 (b : List Int) (hb : b.length ≤ 1048576) (N : Int) (hN : N = 4 ∨ N = 5) (n : Nat) : ∀ (l : List S46) (i h : Int), At b i → n + l.length ≤ 24 → TabOk l →
    EvP (fun k => spec_l08DrawTable.l0 k l n b i h N ([] : List S98)) (fun r => TabOk r.1 ∧ r.1.length ≤ 24 ∧ At b r.2.1) := by
  induction n with
  | zero =>
    intro l i h hi hl hT
    exact evp_of (ev_some (r := (l, i, h)) (fun k => by simp [spec_l08DrawTable.l0])) ⟨hT, by dsimp only; omega, hi⟩
  | succ n ih =>
    intro l i h hi hl hT
    refine evp_at (f := fun k => (spec_l08DrawTrip.f k b i h N ([] : List S98) 4).bind fun bt222 => ((spec_l08Taken.f k l bt222.1).bind fun t229 => (if t229 = true then (spec_l08DrawTable.l0 k l n b bt222.2.2.1 bt222.2.2.2 N []) else (spec_l08DrawTable.l0 k (l ++ [(⟨bt222.1, bt222.2.1⟩ : S46)]) n b bt222.2.2.1 bt222.2.2.2 N [])))) ?_ (fun k => ?_)
    · refine evp_bind (draw_trip b i h N hb hi hN) (fun r hr => ?_)
      obtain ⟨h1, h2, h3, h4⟩ := hr
      refine evp_bind (evp_of (taken_ev l r.1 (by omega)) (Q := fun t => t = l.any (fun t => decide (t.f0.toList = r.1.toList))) rfl) (fun t ht => ?_)
      cases t with
      | true =>
        simp only [if_true]
        exact ih l _ _ h4 (by omega) hT
      | false =>
        simp only [Bool.false_eq_true, if_false]
        exact ih _ _ _ h4 (by simp; omega) (tab_snoc hT ⟨r.1, r.2.1⟩ h1 ⟨h2, h3⟩ ht.symm)
    · simp only [spec_l08DrawTable.l0]
      rw [if_pos (by omega), w64 (x := ((n + 1 : Nat) : Int) - 1) (by omega) (by omega), show ((n + 1 : Nat) : Int) - 1 = (n : Int) by omega]
      simp only [show l.length < 3518437208883 by omega, if_true]
theorem draw_question (code : List Int) (hl : code.length ≤ 1048576) : EvP (fun k => spec_DrawRightQuestion.f k code) (fun r => tableB r.1 = true ∧ Fit r.1 ∧ (0 ≤ r.2.1 ∧ r.2.1 < 5) ∧ (0 ≤ r.2.2.1 ∧ r.2.2.1 < 5) ∧ (0 ≤ r.2.2.2.1 ∧ r.2.2.2.1 < 60) ∧ (0 ≤ r.2.2.2.2 ∧ r.2.2.2.2 < 8)) := by
  unfold spec_DrawRightQuestion.f
  refine evp_bind (l01New code hl) (fun c hc => ?_)
  obtain ⟨b, i, h⟩ := c
  obtain ⟨rfl, hi⟩ := hc
  dsimp only at hl hi ⊢
  refine below_then b i h 2 hl hi (by omega) (by omega) (fun v1 i1 h1 a1 a2 hi1 => ?_)
  have hsz : ∃ s, spec_l01Size.f b 8 = some s ∧ 0 ≤ s ∧ s ≤ 8 := by
    unfold spec_l01Size.f
    have e : wrap64 ((b.length : Int) / 16) = (b.length : Int) / 16 := w64 (by omega) (by omega)
    rw [e, w64 (x := 2 + (b.length : Int) / 16) (by omega) (by omega)]
    by_cases c : 2 + (b.length : Int) / 16 > 8
    · exact ⟨8, by rw [if_pos c], by omega, by omega⟩
    · exact ⟨2 + (b.length : Int) / 16, by rw [if_neg c], by omega, by omega⟩
  obtain ⟨s, es, s0, s1⟩ := hsz
  simp only [es, Option.bind_some]
  rw [w64 (x := 4 + v1) (by omega) (by omega), w64 (x := 3 + s) (by omega) (by omega)]
  have htab : EvP (fun k => spec_l08DrawTable.f k b i1 h1 (4 + v1) ([] : List S98) (3 + s)) (fun r => TabOk r.1 ∧ r.1.length ≤ 24 ∧ At b r.2.1) := by
    unfold spec_l08DrawTable.f
    refine below_then b i1 h1 (3 + s) hl hi1 (by omega) (by omega) (fun v2 i2 h2 a3 a4 hi2 => ?_)
    dsimp only
    rw [w64 (x := 1 + v2) (by omega) (by omega), show 1 + v2 = ((1 + v2.toNat : Nat) : Int) by omega]
    exact draw_table0 b hl (4 + v1) (by omega) (1 + v2.toNat) [] i2 h2 hi2 (by simp; omega) ⟨fun i hi => absurd hi (by simp), fun t ht => by simp at ht⟩
  refine evp_bind htab (fun r hr => ?_)
  obtain ⟨hT, hlen, hi2⟩ := hr
  refine below_then b _ _ 5 hl hi2 (by omega) (by omega) (fun v3 i3 h3 a5 a6 hi3 => ?_)
  refine below_then b i3 h3 5 hl hi3 (by omega) (by omega) (fun v4 i4 h4 a7 a8 hi4 => ?_)
  refine below_then b i4 h4 60 hl hi4 (by omega) (by omega) (fun v5 i5 h5 a9 aa hi5 => ?_)
  refine below_then b i5 h5 8 hl hi5 (by omega) (by omega) (fun v6 i6 h6 ab ac hi6 => ?_)
  refine evp_now _ ⟨?_, ⟨by dsimp only; omega, fun t ht => ?_⟩, ⟨a5, a6⟩, ⟨a7, a8⟩, ⟨a9, aa⟩, ⟨ab, ac⟩⟩
  · unfold tableB
    rw [Bool.and_eq_true, List.all_eq_true]
    refine ⟨decide_eq_true hlen, fun j hj => ?_⟩
    rw [List.mem_range] at hj
    rw [Bool.and_eq_true]
    exact hT.1 j hj
  · have := hT.2 t ht
    refine ⟨by unfold maxLen; omega, by omega⟩


theorem dec_le (u : Nat) : (Lib.decDigits u).length ≤ u + 1 := by
  induction u using Nat.strongRecOn with
  | _ u ih =>
    rw [Lib.decDigits]
    split
    · simp
    · have := ih (u / 10) (by omega)
      rw [List.length_append, List.length_singleton]; omega
/-- A number as its digits. -/
def dec (u : Nat) : ByteArray := ⟨(Lib.decDigits u).toArray⟩
theorem dec_size (u : Nat) : (dec u).size ≤ u + 1 := by
  have : (dec u).size = (Lib.decDigits u).length := by simp [dec, ByteArray.size]
  rw [this]; exact dec_le u
/-- Two digits at least. -/
def two (u : Nat) : ByteArray := if u < 10 then (⟨#[48]⟩ : ByteArray) ++ dec u else dec u
theorem one48 : (⟨#[48]⟩ : ByteArray).size = 1 := rfl
theorem one58 : (⟨#[58]⟩ : ByteArray).size = 1 := rfl
theorem two_size (u : Nat) : (two u).size ≤ u + 2 := by
  have := dec_size u
  unfold two
  split
  · rw [ByteArray.size_append, one48]; omega
  · omega
/-- The text of a minute. -/
def tt (m : Int) : ByteArray := (two (m / 60).toNat ++ ⟨#[58]⟩) ++ two (m % 60).toNat
theorem tt_size {m : Int} (h0 : 0 ≤ m) (h1 : m ≤ 100000) : (tt m).size ≤ 2000 := by
  have a := two_size (m / 60).toNat
  have b := two_size (m % 60).toNat
  unfold tt
  rw [ByteArray.size_append, ByteArray.size_append, one58]
  omega
theorem two_digits {a : Int} (h0 : 0 ≤ a) (h1 : a < 1000000) : impl_twoDigits.f a = some (two a.toNat) := by
  have e : strconv_Itoa_63.f a = some (dec a.toNat) := by unfold strconv_Itoa_63.f; rw [if_pos ⟨h0, h1⟩]; rfl
  have s := dec_size a.toNat
  unfold impl_twoDigits.f two
  rw [e]
  by_cases c : a < 10
  · rw [if_pos c, if_pos (by omega), Option.bind_some, if_pos (by omega)]
  · rw [if_neg c, if_neg (by omega), Option.bind_some]
theorem impl_time {m : Int} (h0 : 0 ≤ m) (h1 : m ≤ 100000) : impl_TimeText.f m = some (tt m) := by
  have a := two_size (m / 60).toNat
  have b := two_size (m % 60).toNat
  have hd : Int.tdiv m 60 = m / 60 := Int.tdiv_eq_ediv_of_nonneg h0
  have hm : Int.tmod m 60 = m % 60 := Int.tmod_eq_emod_of_nonneg h0
  unfold impl_TimeText.f
  rw [isMinute, Option.bind_some, if_pos (inB_iff.2 ⟨h0, h1⟩), hd, hm, w64 (by omega) (by omega), two_digits (by omega) (by omega), two_digits (by omega) (by omega), Option.bind_some, Option.bind_some, if_pos (by omega), if_pos (by rw [ByteArray.size_append, one58]; omega)]
  rfl
/-- A leg's text; the text of the first legs. -/
def legT (l : List S46) (x : S48) : ByteArray := ((((rd_T46 l x.f0).f0 ++ (⟨#[32]⟩ : ByteArray)) ++ tt (cl l x.f0 x.f1).f2) ++ (⟨#[45]⟩ : ByteArray)) ++ tt (cl l x.f0 x.f2).f1
def textTo (l : List S46) (ls : List S48) : Nat → ByteArray
  | 0 => ⟨#[]⟩
  | i + 1 => (if i = 0 then textTo l ls i else textTo l ls i ++ (⟨#[32, 47, 32]⟩ : ByteArray)) ++ legT l (ls.getD i z48)
def jText (l : List S46) (ls : List S48) (ch : Int) : ByteArray := if legsB l ls ch = true then textTo l ls ls.length else ⟨#[]⟩
theorem one32 : (⟨#[32]⟩ : ByteArray).size = 1 := rfl
theorem one45 : (⟨#[45]⟩ : ByteArray).size = 1 := rfl
theorem three : (⟨#[32, 47, 32]⟩ : ByteArray).size = 3 := rfl
theorem legs_all {l : List S46} {ls : List S48} {ch : Int} (h : legsB l ls ch = true) : tableB l = true ∧ (0 ≤ ch ∧ ch ≤ 60) ∧ ls.length ≤ 5 ∧ ∀ i, i < ls.length → legB l ls ch i = true := by
  unfold legsB at h
  rw [Bool.and_eq_true, Bool.and_eq_true, Bool.and_eq_true, inB_iff, decide_eq_true_eq, List.all_eq_true] at h
  exact ⟨h.1, h.2.1, h.2.2.1, fun i hi => h.2.2.2 i (List.mem_range.2 hi)⟩
section
variable {l : List S46}
theorem name_12 (hT : tableB l = true) {x : S48} (hx : legIn l x = true) : (rd_T46 l x.f0).f0.size ≤ 12 := by
  rw [legIn_iff] at hx
  have := trip_of hT (rd46_mem (l := l) (t := x.f0) (by omega) (by omega))
  simp only [tripB, nameB, Bool.and_eq_true] at this
  exact_mod_cast (inB_iff.1 this.1.1.2).2
theorem dep_ok (hT : tableB l = true) {x : S48} (hx : legIn l x = true) : (0 ≤ (cl l x.f0 x.f1).f2 ∧ (cl l x.f0 x.f1).f2 ≤ 100000) ∧ 0 ≤ (cl l x.f0 x.f2).f1 ∧ (cl l x.f0 x.f2).f1 ≤ 100000 := by
  rw [legIn_iff] at hx
  have a := cl_ok hT (t := x.f0) (j := x.f1) (by omega) (by omega)
  have b := cl_ok hT (t := x.f0) (j := x.f2) (by omega) (by omega)
  omega
theorem legT_size (hT : tableB l = true) {x : S48} (hx : legIn l x = true) : (legT l x).size ≤ 4100 := by
  have a := name_12 hT hx
  obtain ⟨⟨b1, b2⟩, c1, c2⟩ := dep_ok hT hx
  have b := tt_size b1 b2
  have c := tt_size c1 c2
  simp only [legT, ByteArray.size_append, one32, one45]
  omega
variable {ls : List S48} {ch : Int}
theorem text_size (h : legsB l ls ch = true) : ∀ i, i ≤ ls.length → (textTo l ls i).size ≤ i * 5000
  | 0, _ => by show (⟨#[]⟩ : ByteArray).size ≤ 0; exact Nat.le_refl 0
  | i + 1, hi => by
    have ih := text_size h i (by omega)
    have hl := legT_size (legs_all h).1 (legB_in ((legs_all h).2.2.2 i (by omega)))
    unfold textTo
    split <;> simp only [ByteArray.size_append, three] <;> omega
theorem impl_text (hF : Fit l) (ls : List S48) (ch : Int) : Ev (fun k => impl_JourneyText.f k l ls ch) (jText l ls ch) := by
  refine Ev.bind (impl_legs l hF ls ch) ?_
  unfold jText
  cases hL : legsB l ls ch with
  | false => exact Ev.now _
  | true =>
    simp only [if_true]
    obtain ⟨hT, hc, hn, hall⟩ := legs_all hL
    have key : ∀ i, i ≤ ls.length → Ev (fun k => impl_JourneyText.l0 k l (textTo l ls i) ls ls.length i) (textTo l ls ls.length) := by
      refine down ls.length ?_ ?_
      · exact ev_some (fun k => by simp [impl_JourneyText.l0])
      · intro i hi ih
        have hx := legB_in (hall i hi)
        have sz := text_size hL i (by omega)
        have nm := name_12 hT hx
        obtain ⟨⟨b1, b2⟩, c1, c2⟩ := dep_ok hT hx
        have sb := tt_size b1 b2
        have sc := tt_size c1 c2
        have hx' := legIn_iff.1 hx
        have go : ∀ acc : ByteArray, acc.size ≤ 100000 → acc ++ legT l (ls.getD i z48) = textTo l ls (i + 1) → Ev (fun k => impl_JourneyText.j1 k l acc ls ls.length i (ls.getD i z48).f0 (ls.getD i z48).f1 (ls.getD i z48).f2) (textTo l ls ls.length) := by
          intro acc ha he
          refine ev_at ih (fun k => ?_)
          simp only [impl_JourneyText.j1]
          rw [leaves_at _ _ hx, arrives_at _ _ hx, Option.bind_some, impl_time b1 b2, Option.bind_some, Option.bind_some, impl_time c1 c2, Option.bind_some]
          rw [if_pos (by omega), if_pos (by omega), if_pos (by omega), if_pos (by simp only [ByteArray.size_append, one32]; omega), if_pos (by simp only [ByteArray.size_append, one32]; omega), if_pos (by simp only [ByteArray.size_append, one32, one45]; omega), if_pos (by simp only [ByteArray.size_append, one32, one45]; omega), w64s hi (by omega)]
          show impl_JourneyText.l0 k l (acc ++ legT l (ls.getD i z48)) ls ls.length ((i + 1 : Nat) : Int) = _
          rw [he]
        by_cases c : i = 0
        · subst c
          refine ev_at (go (textTo l ls 0) (by omega) rfl) (fun k => ?_)
          simp only [impl_JourneyText.l0]
          rw [if_pos (by omega), if_pos (by omega), if_pos (by omega), if_neg (by omega)]
          rfl
        · refine ev_at (go (textTo l ls i ++ (⟨#[32, 47, 32]⟩ : ByteArray)) (by rw [ByteArray.size_append, three]; omega) (by rw [textTo, if_neg c])) (fun k => ?_)
          simp only [impl_JourneyText.l0]
          rw [if_pos (by omega), if_pos (by omega), if_pos (by omega), if_pos (by omega), if_pos (by omega)]
          rfl
    exact key 0 (Nat.zero_le _)
end
end Go.Proofs.YtdpjoblnjjkbfaaDoor.Pure
