/- The tests of tables and questions: the reference's, the same. -/
import Derived.Test.YtdpjoblnjjkbfaaDoorV2i
namespace Go.Proofs.YtdpjoblnjjkbfaaDoor.Pure
open Go.RowKit Go.Proofs.YtdpjoblnjjkbfaaDoor.P Go.Proofs.YtdpjoblnjjkbfaaDoorW.PrintWords Go.Proofs.YtdpjoblnjjkbfaaDoorW.PrintLast

theorem l01In (x a b : Int) : spec_l01In.f x a b = some (inB x a b) := by unfold spec_l01In.f inB; by_cases h : a ≤ x <;> simp [h]
theorem spec_name (s : ByteArray) (h : s.size ≤ maxLen) : Ev (fun k => spec_l01Name.f k s) (nameB s) := by
  refine ev_allE s.size (fun i => nameCh (bt s (i : Int))) (fun k i => spec_l01Name.l0 k s i) _ (ev_some (fun k => by simp [spec_l01Name.l0, l01In])) ?_ ?_
  · intro i hi hp r hr
    refine ev_at hr (fun k => ?_)
    simp only [spec_l01Name.l0, w64m hi h]
    rw [if_pos (by omega), if_pos (by omega)]
    simp [nameCh] at hp
    by_cases c1 : bt s i ≥ 97 <;> by_cases c2 : bt s i ≤ 122 <;> by_cases c3 : bt s i ≥ 48 <;> by_cases c4 : bt s i ≤ 57 <;> simp [c1, c2, c3, c4] <;> omega
  · intro i hi hp
    refine ev_some (fun k => ?_)
    simp only [spec_l01Name.l0, w64m hi h]
    rw [if_pos (by omega), if_pos (by omega)]
    simp [nameCh] at hp
    by_cases c1 : bt s i ≥ 97 <;> by_cases c2 : bt s i ≤ 122 <;> by_cases c3 : bt s i ≥ 48 <;> by_cases c4 : bt s i ≤ 57 <;> simp [c1, c2, c3, c4] <;> omega
theorem spec_trip (t : S46) (h : t.f0.size ≤ maxLen) (hl : t.f1.length ≤ 1048576) : Ev (fun k => spec_TripOk.f k t.f0 t.f1) (tripB t) := by
  have hn := spec_name t.f0 h
  have key := ev_allE t.f1.length (callB t.f1) (fun k i => spec_TripOk.l0 k i t.f0 t.f1) true (ev_some (fun k => by simp [spec_TripOk.l0])) (by
    intro i hi hp r hr
    simp only [callB, Bool.and_eq_true, Bool.or_eq_true, decide_eq_true_eq] at hp
    obtain ⟨⟨⟨h0, h1⟩, h2⟩, h3⟩ := hp
    refine Ev.step (f := fun k => spec_TripOk.j2 k i false t.f0 t.f1 (t.f1.getD i z43).f0 (t.f1.getD i z43).f1 (t.f1.getD i z43).f2) (fun k => ?_) ?_
    · simp only [spec_TripOk.l0, l01In, rd_T43, Int.toNat_natCast, Option.bind_some, h0, h1, h2, if_true]
      rw [if_pos (by omega), if_pos (by omega)]; rfl
    · refine ev_at hr (fun k => ?_)
      simp only [spec_TripOk.j2]
      rw [if_neg (by simp)]
      by_cases c : (i : Int) > 0
      · have e : ((i : Int) - 1) = ((i - 1 : Nat) : Int) := by omega
        have e2 : rd_T43 t.f1 ((i - 1 : Nat) : Int) = t.f1.getD (i - 1) z43 := rfl
        rw [if_pos c, w64 (by omega) (by omega), e, if_pos (by omega), if_pos (by omega), e2]
        have h4 := h3.resolve_left (by omega)
        rw [if_neg (by omega), if_neg h4.2, w64s hi (by omega)]
      · rw [if_neg c, w64s hi (by omega)]) (by
    intro i hi hp
    by_cases h0 : inB (t.f1.getD i z43).f0 0 29 = true ∧ inB (t.f1.getD i z43).f2 0 100000 = true ∧ inB (t.f1.getD i z43).f1 0 (t.f1.getD i z43).f2 = true
    · obtain ⟨h0, h1, h2⟩ := h0
      refine Ev.step (f := fun k => spec_TripOk.j2 k i false t.f0 t.f1 (t.f1.getD i z43).f0 (t.f1.getD i z43).f1 (t.f1.getD i z43).f2) (fun k => ?_) (ev_some (fun k => ?_))
      · simp only [spec_TripOk.l0, l01In, rd_T43, Int.toNat_natCast, Option.bind_some, h0, h1, h2, if_true]
        rw [if_pos (by omega), if_pos (by omega)]; rfl
      · simp only [callB, h0, h1, h2, Bool.true_and, Bool.or_eq_false_iff, decide_eq_false_iff_not, Bool.and_eq_false_iff] at hp
        simp only [spec_TripOk.j2]
        have e : ((i : Int) - 1) = ((i - 1 : Nat) : Int) := by omega
        have e2 : rd_T43 t.f1 ((i - 1 : Nat) : Int) = t.f1.getD (i - 1) z43 := rfl
        rw [if_neg (by simp), if_pos (by omega), w64 (by omega) (by omega), e, if_pos (by omega), if_pos (by omega), e2]
        by_cases c : (t.f1.getD (i - 1) z43).f2 ≥ (t.f1.getD i z43).f1
        · rw [if_pos c]
        · rw [if_neg c, if_pos]
          rcases hp.2 with h | h
          · omega
          · exact Classical.not_not.1 h
    · refine Ev.step (f := fun k => spec_TripOk.j2 k i true t.f0 t.f1 (t.f1.getD i z43).f0 (t.f1.getD i z43).f1 (t.f1.getD i z43).f2) (fun k => ?_) (ev_some (fun k => by simp [spec_TripOk.j2]))
      simp only [spec_TripOk.l0, l01In, rd_T43, Int.toNat_natCast, Option.bind_some]
      rw [if_pos (by omega), if_pos (by omega)]
      revert h0
      cases inB (t.f1.getD i z43).f0 0 29 <;> cases inB (t.f1.getD i z43).f2 0 100000 <;> cases inB (t.f1.getD i z43).f1 0 (t.f1.getD i z43).f2 <;> simp)
  simp only [Bool.and_true] at key
  unfold tripB
  cases hb : nameB t.f0 with
  | false =>
    refine Ev.bind (hb ▸ hn) ?_
    exact ev_some (fun k => by simp [spec_TripOk.j0])
  | true =>
    refine Ev.bind (hb ▸ hn) ?_
    simp only [if_true, l01In, Option.bind_some]
    cases hi : inB t.f1.length 2 12 with
    | false => exact ev_some (fun k => by simp [spec_TripOk.j0])
    | true => exact ev_at key (fun k => by simp [spec_TripOk.j0])
theorem spec_table (l : List S46) (h : Fit l) : Ev (fun k => spec_TableOk.f k l) (tableB l) := by
  unfold tableB spec_TableOk.f
  by_cases c : (l.length : Int) > 24
  · rw [decide_eq_false (by omega)]
    simp only [c, if_true]
    exact Ev.now _
  rw [decide_eq_true (by omega)]
  simp only [c, if_false, Bool.true_and]
  have inner : ∀ i : Nat, i < l.length → (newB l i = true → ∀ r, Ev (fun k => spec_TableOk.l0 k l ((i + 1 : Nat) : Int)) r → Ev (fun k => spec_TableOk.l1 k l i 0) r) ∧ (newB l i = false → Ev (fun k => spec_TableOk.l1 k l i 0) false) := by
    intro i hi
    have e : newB l i = true ↔ ∀ j, j < i → ¬ (l.getD j z46).f0.toList = (l.getD i z46).f0.toList := by simp [newB]
    constructor
    · intro hp r hr
      have key : ∀ j, j ≤ i → Ev (fun k => spec_TableOk.l1 k l i (j : Int)) r := by
        refine down i ?_ ?_
        · refine ev_at hr (fun k => ?_)
          simp [spec_TableOk.l1, w64s hi (by omega)]
        · intro j hj ih
          refine ev_at ih (fun k => ?_)
          simp only [spec_TableOk.l1]
          rw [if_pos (by omega), if_pos (by omega), if_pos (by omega), if_pos (by omega), if_pos (by omega), rdN l j, rdN l i, if_neg (e.1 hp j hj), w64s hj (by omega)]
      exact key 0 (Nat.zero_le _)
    · intro hp
      have : ∃ j, j < i ∧ (l.getD j z46).f0.toList = (l.getD i z46).f0.toList := by
        refine Classical.byContradiction (fun hc => ?_)
        rw [e.2 (fun j hj he => hc ⟨j, hj, he⟩)] at hp
        exact absurd hp (by decide)
      have key : ∀ d j : Nat, j + d ≤ i → (∃ j', j ≤ j' ∧ j' < i ∧ (l.getD j' z46).f0.toList = (l.getD i z46).f0.toList) → j + d = i → Ev (fun k => spec_TableOk.l1 k l i (j : Int)) false := by
        intro d
        induction d with
        | zero => intro j _ ⟨j', h1, h2, _⟩ hd; omega
        | succ d ih =>
          intro j hj ⟨j', h1, h2, h3⟩ hd
          by_cases he : (l.getD j z46).f0.toList = (l.getD i z46).f0.toList
          · refine ev_some (fun k => ?_)
            simp only [spec_TableOk.l1]
            rw [if_pos (by omega), if_pos (by omega), if_pos (by omega), if_pos (by omega), if_pos (by omega), rdN l j, rdN l i, if_pos he]
          · have hne : j ≠ j' := fun e => he (e ▸ h3)
            refine ev_at (ih (j + 1) (by omega) ⟨j', by omega, h2, h3⟩ (by omega)) (fun k => ?_)
            simp only [spec_TableOk.l1]
            rw [if_pos (by omega), if_pos (by omega), if_pos (by omega), if_pos (by omega), if_pos (by omega), rdN l j, rdN l i, if_neg he, w64s (show j < i by omega) (by omega)]
      obtain ⟨j, hj, he⟩ := this
      exact key i 0 (by omega) ⟨j, by omega, hj, he⟩ (by omega)
  have key := ev_allE l.length (fun i => tripB (l.getD i z46) && newB l i) (fun k i => spec_TableOk.l0 k l i) true (ev_some (fun k => by simp [spec_TableOk.l0])) (by
    intro i hi hp r hr
    obtain ⟨h1, h2⟩ := Bool.and_eq_true_iff.1 hp
    have ht := h.2 _ (getD_mem z46 l i hi)
    refine Ev.step (f := fun k => (spec_TripOk.f k (l.getD i z46).f0 (l.getD i z46).f1).bind fun t => if t = true then spec_TableOk.l1 k l i 0 else some false) (fun k => ?_) (Ev.bind (h1 ▸ spec_trip _ ht.1 ht.2) (by simpa using (inner i hi).1 h2 r hr))
    simp only [spec_TableOk.l0, rd_T46, Int.toNat_natCast]
    rw [if_pos (by omega), if_pos (by omega)]) (by
    intro i hi hp
    have ht := h.2 _ (getD_mem z46 l i hi)
    refine Ev.step (f := fun k => (spec_TripOk.f k (l.getD i z46).f0 (l.getD i z46).f1).bind fun t => if t = true then spec_TableOk.l1 k l i 0 else some false) (fun k => ?_) (Ev.bind (spec_trip _ ht.1 ht.2) ?_)
    · simp only [spec_TableOk.l0, rd_T46, Int.toNat_natCast]
      rw [if_pos (by omega), if_pos (by omega)]
    · cases hb : tripB (l.getD i z46) with
      | false => exact Ev.now _
      | true => rw [hb, Bool.true_and] at hp; simpa using (inner i hi).2 hp)
  simpa using key
end Go.Proofs.YtdpjoblnjjkbfaaDoor.Pure
