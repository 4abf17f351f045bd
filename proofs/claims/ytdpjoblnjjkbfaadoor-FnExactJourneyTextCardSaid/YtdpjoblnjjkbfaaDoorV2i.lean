/- The tests of tables and questions: the program's. -/
import Derived.Test.YtdpjoblnjjkbfaaDoorBi
namespace Go.Proofs.YtdpjoblnjjkbfaaDoor.Pure
open Go.RowKit Go.Proofs.YtdpjoblnjjkbfaaDoor.P Go.Proofs.YtdpjoblnjjkbfaaDoorW.PrintWords Go.Proofs.YtdpjoblnjjkbfaaDoorW.PrintLast

theorem ev_allE (n : Nat) (p : Nat → Bool) (g : Nat → Int → Option Bool) (fin : Bool) (h0 : Ev (fun k => g k n) fin)
    (h1 : ∀ i : Nat, i < n → p i = true → ∀ r, Ev (fun k => g k ((i + 1 : Nat) : Int)) r → Ev (fun k => g k i) r) (h2 : ∀ i : Nat, i < n → p i = false → Ev (fun k => g k i) false) :
    Ev (fun k => g k 0) ((List.range n).all p && fin) := by
  have key : ∀ i, i ≤ n → Ev (fun k => g k (i : Int)) (((List.range n).drop i).all p && fin) := by
    refine down n ?_ ?_
    · rw [List.drop_of_length_le (by simp)]
      simpa using h0
    · intro i hi ih
      rw [List.drop_eq_getElem_cons (by simpa using hi), List.all_cons, List.getElem_range]
      cases hp : p i with
      | true => rw [Bool.true_and]; exact h1 i hi hp _ ih
      | false => simp only [Bool.false_and]; exact h2 i hi hp
  have := key 0 (Nat.zero_le _)
  simpa using this
theorem w64m {i n : Nat} (h : i < n) (hn : n ≤ maxLen) : wrap64 ((i : Int) + 1) = ((i + 1 : Nat) : Int) := by unfold maxLen at hn; rw [w64 (by omega) (by omega)]; omega

def nameCh (b : Int) : Bool := (decide (97 ≤ b) && decide (b ≤ 122)) || (decide (48 ≤ b) && decide (b ≤ 57))
def nameB (s : ByteArray) : Bool := (List.range s.size).all (fun i => nameCh (bt s (i : Int))) && inB s.size 1 12
theorem impl_name (s : ByteArray) (h : s.size ≤ maxLen) : Ev (fun k => impl_nameOk.f k s) (nameB s) := by
  unfold nameB
  by_cases c1 : (s.size : Int) < 1
  · have e : inB s.size 1 12 = false := by unfold inB; rw [decide_eq_false (by omega)]; rfl
    simp only [impl_nameOk.f, c1, if_true, e, Bool.and_false]
    exact ev_some (fun k => by simp [impl_nameOk.j0])
  · simp only [impl_nameOk.f, c1, if_false]
    by_cases c2 : (s.size : Int) > 12
    · have e : inB s.size 1 12 = false := by unfold inB; rw [decide_eq_false (p := (s.size : Int) ≤ 12) (by omega), Bool.and_false]
      simp only [e, Bool.and_false]
      exact ev_some (fun k => by simp [impl_nameOk.j0, c2])
    · have e : inB s.size 1 12 = true := by simp [inB]; omega
      rw [e]
      have key := ev_allE s.size (fun i => nameCh (bt s (i : Int))) (fun k i => impl_nameOk.l0 k s i) true (ev_some (fun k => by simp [impl_nameOk.l0])) (by
        intro i hi hp r hr
        refine ev_at hr (fun k => ?_)
        simp only [impl_nameOk.l0, w64m hi h]
        rw [if_pos (by omega), if_pos (by omega)]
        simp [nameCh] at hp
        by_cases c1 : bt s i < 97 <;> by_cases c2 : bt s i > 122 <;> by_cases c3 : bt s i < 48 <;> by_cases c4 : bt s i > 57 <;> simp [c1, c2, c3, c4] <;> omega) (by
        intro i hi hp
        refine ev_some (fun k => ?_)
        simp only [impl_nameOk.l0, w64m hi h]
        rw [if_pos (by omega), if_pos (by omega)]
        simp [nameCh] at hp
        by_cases c1 : bt s i < 97 <;> by_cases c2 : bt s i > 122 <;> by_cases c3 : bt s i < 48 <;> by_cases c4 : bt s i > 57 <;> simp [c1, c2, c3, c4] <;> omega)
      exact ev_at key (fun k => by simp [impl_nameOk.j0, c2])

def callB (cs : List S43) (i : Nat) : Bool := inB (cs.getD i z43).f0 0 29 && inB (cs.getD i z43).f2 0 100000 && inB (cs.getD i z43).f1 0 (cs.getD i z43).f2 && (decide (i = 0) || (decide ((cs.getD (i - 1) z43).f2 < (cs.getD i z43).f1) && decide ((cs.getD (i - 1) z43).f0 ≠ (cs.getD i z43).f0)))
def callsB (cs : List S43) : Bool := (List.range cs.length).all (callB cs)
def tripB (t : S46) : Bool := nameB t.f0 && inB t.f1.length 2 12 && callsB t.f1
theorem isMinute (x : Int) : impl_isMinute.f x = some (inB x 0 100000) := by simp [impl_isMinute.f, between]
theorem impl_trip (t : S46) (h : t.f0.size ≤ maxLen) (hl : t.f1.length ≤ 1048576) : Ev (fun k => impl_TripOk.f k t.f0 t.f1) (tripB t) := by
  have hn := impl_name t.f0 h
  have key := ev_allE t.f1.length (callB t.f1) (fun k i => impl_TripOk.l0 k t.f1 t.f1.length i t.f0 t.f1) true (ev_some (fun k => by simp [impl_TripOk.l0])) (by
    intro i hi hp r hr
    simp only [callB, Bool.and_eq_true, Bool.or_eq_true, decide_eq_true_eq] at hp
    obtain ⟨⟨⟨h0, h1⟩, h2⟩, h3⟩ := hp
    have h2' := inB_iff.1 h2
    have h1' := inB_iff.1 h1
    have h5 : inB (t.f1.getD i z43).f1 0 100000 = true := inB_iff.2 (by omega)
    refine Ev.step (f := fun k => impl_TripOk.j2 k i t.f1 t.f1.length i false t.f0 t.f1 (t.f1.getD i z43).f0 (t.f1.getD i z43).f1 (t.f1.getD i z43).f2) (fun k => ?_) ?_
    · simp only [impl_TripOk.l0, between, isMinute, rd_T43, Int.toNat_natCast, Option.bind_some, h0, h1, h5, if_true]
      rw [if_pos (by omega), if_pos (by omega), if_pos (by omega)]
      exact congrArg (fun b => impl_TripOk.j2 k i t.f1 t.f1.length i b t.f0 t.f1 (t.f1.getD i z43).f0 (t.f1.getD i z43).f1 (t.f1.getD i z43).f2) (decide_eq_false (show ¬ (t.f1.getD i z43).f1 > (t.f1.getD i z43).f2 by omega))
    · refine ev_at hr (fun k => ?_)
      simp only [impl_TripOk.j2]
      rw [if_neg (by simp)]
      by_cases c : (i : Int) > 0
      · have e : ((i : Int) - 1) = ((i - 1 : Nat) : Int) := by omega
        have e2 : rd_T43 t.f1 ((i - 1 : Nat) : Int) = t.f1.getD (i - 1) z43 := rfl
        rw [if_pos c, w64 (by omega) (by omega), e, if_pos (by omega), if_pos (by omega), e2]
        have h4 := h3.resolve_left (by omega)
        rw [if_neg (by omega), if_neg (Ne.symm h4.2), w64s hi (by omega)]
      · rw [if_neg c, w64s hi (by omega)]) (by
    intro i hi hp
    by_cases h0 : inB (t.f1.getD i z43).f0 0 29 = true ∧ inB (t.f1.getD i z43).f2 0 100000 = true ∧ inB (t.f1.getD i z43).f1 0 (t.f1.getD i z43).f2 = true
    · obtain ⟨h0, h1, h2⟩ := h0
      have h2' := inB_iff.1 h2
      have h1' := inB_iff.1 h1
      have h5 : inB (t.f1.getD i z43).f1 0 100000 = true := inB_iff.2 (by omega)
      refine Ev.step (f := fun k => impl_TripOk.j2 k i t.f1 t.f1.length i false t.f0 t.f1 (t.f1.getD i z43).f0 (t.f1.getD i z43).f1 (t.f1.getD i z43).f2) (fun k => ?_) (ev_some (fun k => ?_))
      · simp only [impl_TripOk.l0, between, isMinute, rd_T43, Int.toNat_natCast, Option.bind_some, h0, h1, h5, if_true]
        rw [if_pos (by omega), if_pos (by omega), if_pos (by omega)]
        exact congrArg (fun b => impl_TripOk.j2 k i t.f1 t.f1.length i b t.f0 t.f1 (t.f1.getD i z43).f0 (t.f1.getD i z43).f1 (t.f1.getD i z43).f2) (decide_eq_false (show ¬ (t.f1.getD i z43).f1 > (t.f1.getD i z43).f2 by omega))
      · simp only [callB, h0, h1, h2, Bool.true_and, Bool.or_eq_false_iff, decide_eq_false_iff_not, Bool.and_eq_false_iff] at hp
        simp only [impl_TripOk.j2]
        have e : ((i : Int) - 1) = ((i - 1 : Nat) : Int) := by omega
        have e2 : rd_T43 t.f1 ((i - 1 : Nat) : Int) = t.f1.getD (i - 1) z43 := rfl
        rw [if_neg (by simp), if_pos (by omega), w64 (by omega) (by omega), e, if_pos (by omega), if_pos (by omega), e2]
        by_cases c : (t.f1.getD i z43).f1 ≤ (t.f1.getD (i - 1) z43).f2
        · rw [if_pos c]
        · rw [if_neg c, if_pos]
          rcases hp.2 with h | h
          · omega
          · exact (Classical.not_not.1 h).symm
    · refine Ev.step (f := fun k => impl_TripOk.j2 k i t.f1 t.f1.length i true t.f0 t.f1 (t.f1.getD i z43).f0 (t.f1.getD i z43).f1 (t.f1.getD i z43).f2) (fun k => ?_) (ev_some (fun k => by simp [impl_TripOk.j2]))
      simp only [impl_TripOk.l0, between, isMinute, rd_T43, Int.toNat_natCast, Option.bind_some]
      rw [if_pos (by omega), if_pos (by omega), if_pos (by omega)]
      by_cases a0 : inB (t.f1.getD i z43).f0 0 29 = true
      · rw [if_pos a0]
        by_cases a1 : inB (t.f1.getD i z43).f1 0 100000 = true
        · rw [if_pos a1]
          by_cases a2 : inB (t.f1.getD i z43).f2 0 100000 = true
          · rw [if_pos a2]
            have a1' := inB_iff.1 a1
            refine congrArg (fun b => impl_TripOk.j2 k i t.f1 t.f1.length i b t.f0 t.f1 (t.f1.getD i z43).f0 (t.f1.getD i z43).f1 (t.f1.getD i z43).f2) (decide_eq_true (show (t.f1.getD i z43).f1 > (t.f1.getD i z43).f2 from ?_))
            exact Classical.not_not.1 (fun hc => h0 ⟨a0, a2, inB_iff.2 (by omega)⟩)
          · rw [if_neg a2]
        · rw [if_neg a1]
      · rw [if_neg a0])
  simp only [Bool.and_true] at key
  unfold tripB
  cases hb : nameB t.f0 with
  | false =>
    refine Ev.bind (hb ▸ hn) ?_
    exact ev_some (fun k => by simp [impl_TripOk.j0])
  | true =>
    refine Ev.bind (hb ▸ hn) ?_
    simp only [if_true, between, Option.bind_some]
    cases hi : inB t.f1.length 2 12 with
    | false => exact ev_some (fun k => by simp [impl_TripOk.j0])
    | true => exact ev_at key (fun k => by simp [impl_TripOk.j0])

/-- The place's name is none of those ahead of it. -/
def newB (l : List S46) (i : Nat) : Bool := (List.range i).all (fun j => decide ((l.getD j z46).f0.toList ≠ (l.getD i z46).f0.toList))
def tableB (l : List S46) : Bool := decide (l.length ≤ 24) && (List.range l.length).all (fun i => tripB (l.getD i z46) && newB l i)
def Fit (l : List S46) : Prop := l.length ≤ 1048576 ∧ ∀ t, t ∈ l → t.f0.size ≤ maxLen ∧ t.f1.length ≤ 1048576
theorem rdN (l : List S46) (i : Nat) : rd_T46 l (i : Int) = l.getD i z46 := rfl
theorem named_new (l : List S46) (i : Nat) (hi : i < l.length) : impl_tripNamed.l0 (l.take i) (l.getD i z46).f0 ≥ 0 ↔ newB l i = false := by
  have e : newB l i = true ↔ ∀ j, j < i → ¬ (l.getD j z46).f0.toList = (l.getD i z46).f0.toList := by simp [newB]
  have e2 : (l.take i).findIdx (fun x => x.f0.toList == (l.getD i z46).f0.toList) < (l.take i).length ↔ ∃ x, x ∈ l.take i ∧ x.f0.toList = (l.getD i z46).f0.toList := by
    rw [List.findIdx_lt_length]; simp
  have e3 : (∃ x, x ∈ l.take i ∧ x.f0.toList = (l.getD i z46).f0.toList) ↔ ∃ j, j < i ∧ (l.getD j z46).f0.toList = (l.getD i z46).f0.toList := by
    constructor
    · rintro ⟨x, hx, he⟩
      obtain ⟨j, hj, rfl⟩ := List.mem_iff_getElem.1 hx
      have hj' : j < i := by rw [List.length_take] at hj; omega
      refine ⟨j, hj', ?_⟩
      rw [List.getElem_take] at he
      simpa [List.getD_eq_getElem?_getD, List.getElem?_eq_getElem (show j < l.length by omega)] using he
    · rintro ⟨j, hj, he⟩
      refine ⟨l.getD j z46, ?_, he⟩
      refine List.mem_iff_getElem.2 ⟨j, by rw [List.length_take]; omega, ?_⟩
      rw [List.getElem_take]
      simp [List.getD_eq_getElem?_getD, List.getElem?_eq_getElem (show j < l.length by omega)]
  rw [e3] at e2
  unfold impl_tripNamed.l0
  by_cases c : (l.take i).findIdx (fun x => x.f0.toList == (l.getD i z46).f0.toList) < (l.take i).length
  · rw [if_pos c]
    refine ⟨fun _ => ?_, fun _ => by omega⟩
    obtain ⟨j, hj, he⟩ := e2.1 c
    cases hb : newB l i with
    | false => rfl
    | true => exact absurd he (e.1 hb j hj)
  · rw [if_neg c]
    refine ⟨fun hh => absurd hh (by decide), fun hb => absurd (e.2 (fun j hj he => c (e2.2 ⟨j, hj, he⟩))) (by rw [hb]; decide)⟩
theorem impl_table (l : List S46) (h : Fit l) : Ev (fun k => impl_TableOk.f k l) (tableB l) := by
  unfold tableB impl_TableOk.f
  by_cases c : (l.length : Int) > 24
  · rw [decide_eq_false (by omega)]
    simp only [c, if_true]
    exact Ev.now _
  rw [decide_eq_true (by omega)]
  simp only [c, if_false, Bool.true_and]
  have key := ev_allE l.length (fun i => tripB (l.getD i z46) && newB l i) (fun k i => impl_TableOk.l0 k l l l.length i) true (ev_some (fun k => by simp [impl_TableOk.l0])) (by
    intro i hi hp r hr
    obtain ⟨h1, h2⟩ := Bool.and_eq_true_iff.1 hp
    have ht := h.2 _ (getD_mem z46 l i hi)
    refine Ev.step (f := fun k => (impl_TripOk.f k (l.getD i z46).f0 (l.getD i z46).f1).bind fun t => if t = true then impl_TableOk.l0 k l l l.length ((i + 1 : Nat) : Int) else some false) (fun k => ?_) (Ev.bind (h1 ▸ impl_trip _ ht.1 ht.2) (by simpa using hr))
    simp only [impl_TableOk.l0, rd_T46, Int.toNat_natCast]
    rw [if_pos (by omega), if_pos (by omega), if_pos (by omega), if_pos (by omega)]
    have hnn := named_new l i hi
    simp only [impl_tripNamed.f]
    rw [if_pos (by rw [List.length_take]; omega), Option.bind_some, if_neg (fun hh => by rw [hnn.1 hh] at h2; exact absurd h2 (by decide)), w64s hi (by omega)]) (by
    intro i hi hp
    have ht := h.2 _ (getD_mem z46 l i hi)
    refine Ev.step (f := fun k => (impl_TripOk.f k (l.getD i z46).f0 (l.getD i z46).f1).bind fun t => if t = true then (if impl_tripNamed.l0 (l.take i) (l.getD i z46).f0 ≥ 0 then some false else impl_TableOk.l0 k l l l.length ((i + 1 : Nat) : Int)) else some false) (fun k => ?_) (Ev.bind (impl_trip _ ht.1 ht.2) ?_)
    · simp only [impl_TableOk.l0, rd_T46, Int.toNat_natCast]
      rw [if_pos (by omega), if_pos (by omega), if_pos (by omega), if_pos (by omega)]
      simp only [impl_tripNamed.f]
      rw [if_pos (by rw [List.length_take]; omega), Option.bind_some, w64s hi (by omega)]
    · cases hb : tripB (l.getD i z46) with
      | false => exact Ev.now _
      | true =>
        rw [hb, Bool.true_and] at hp
        have hnn := (named_new l i hi).2 hp
        simp only [if_true, hnn]
        exact Ev.now _)
  simpa using key

theorem calls_ok {t : S46} (h : tripB t = true) {c : S43} (hc : c ∈ t.f1) : 0 ≤ c.f0 ∧ c.f0 < 30 ∧ 0 ≤ c.f1 ∧ c.f1 ≤ c.f2 ∧ c.f2 ≤ 100000 := by
  obtain ⟨i, hi, rfl⟩ := List.mem_iff_getElem.1 hc
  simp only [tripB, callsB, Bool.and_eq_true, List.all_eq_true, List.mem_range] at h
  have := h.2 i hi
  simp only [callB, Bool.and_eq_true, inB_iff, List.getD_eq_getElem?_getD, List.getElem?_eq_getElem hi, Option.getD_some] at this
  omega
theorem trip_of {l : List S46} (h : tableB l = true) {t : S46} (ht : t ∈ l) : tripB t = true := by
  obtain ⟨i, hi, rfl⟩ := List.mem_iff_getElem.1 ht
  simp only [tableB, Bool.and_eq_true, List.all_eq_true, List.mem_range] at h
  have := (h.2 i hi).1
  simpa [List.getD_eq_getElem?_getD, List.getElem?_eq_getElem hi] using this
end Go.Proofs.YtdpjoblnjjkbfaaDoor.Pure
