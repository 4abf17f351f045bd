/- Rows of units: copied, compared, marked; the test of a formation, as a plain test. -/
import Derived.Test.YtnojpcmaalbdhaaDoorB
namespace Go.Proofs.YtnojpcmaalbdhaaDoor.Pure
open Go.RowKit Go.Proofs.YtnojpcmaalbdhaaDoor.P Go.Proofs.YtnojpcmaalbdhaaDoorW.PrintWords Go.Proofs.YtnojpcmaalbdhaaDoorW.PrintLast

def unU (x : S46) : S43 := ⟨x.f0, x.f1, x.f2, x.f3⟩
theorem to_units (l : List S46) (h : l.length ≤ 1048576) : Ev (fun k => laws_toUnitS.f k l) (l.map unU) := by
  have key := ev_map z46 l unU (fun k acc i => laws_toUnitS.l0 k l acc i) (List.replicate l.length z43) (by simp)
    (fun k acc ha => by simp [laws_toUnitS.l0])
    (fun k acc i hi ha => by simp [laws_toUnitS.l0, laws_toUnit.f, w64s hi (by omega), hi, ha, rd_T46, unU])
  simpa [laws_toUnitS.f, show l.length ≤ 8796093022208 by omega] using key
theorem eq_units (l : List S43) (h : l.length ≤ 1000000000) : Ev (fun k => laws_eqUnitS.f k l l) true := by
  have key := ev_true l.length (fun k i => laws_eqUnitS.l0 k l l i) (fun k => by simp [laws_eqUnitS.l0]) (fun k i hi => by simp [laws_eqUnitS.l0, laws_eqUnit.f, w64s hi (by omega), hi])
  simpa [laws_eqUnitS.f] using key
theorem sz_units (l : List S46) (n : Int) (h0 : 0 ≤ n) (h1 : n ≤ 1048576) (h : l.length ≤ maxLen) : laws_szUnitS.f l n = some (if n < l.length then -1 else n - l.length) := by
  unfold maxLen at h
  unfold laws_szUnitS.f
  rw [w64 (by omega) (by omega)]
  split <;> split <;> first | rfl | omega

/-- What a law writes into a unit. -/
def mkU (x : Int) : S43 := ⟨x, x + 1, x + 2, Int.tmod (x + 3) 3 == 0⟩
theorem mark_units (l : List S43) (x : Int) (h : l.length ≤ 4194304) (h0 : 0 ≤ x) (h1 : x ≤ 1000000000) : Ev (fun k => laws_markUnitS.f k l x) (x + (4 : Nat) * l.length, (List.range l.length).map fun i => mkU (x + (4 : Nat) * (i : Nat))) := by
  have key := ev_mark l.length 4 mkU (fun k l x i => laws_markUnitS.l0 k l x i) x l rfl (fun k x m hm => by simp [laws_markUnitS.l0, hm])
    (fun k m i hi hm => by
      have e : ∀ y : Int, 0 ≤ y → y ≤ 1000000000 + 4 * 4194304 → wrap64 (y + 1) = y + 1 := fun y _ _ => w64 (by omega) (by omega)
      have e1 := e (x + 4 * i) (by omega) (by omega)
      have e2 := e (x + 4 * i + 1) (by omega) (by omega)
      have e3 := e (x + 4 * i + 1 + 1) (by omega) (by omega)
      have e4 := e (x + 4 * i + 1 + 1 + 1) (by omega) (by omega)
      have e5 : x + 4 * (i : Int) + 3 + 1 = x + 4 * ((i : Int) + 1) := by omega
      have e6 : x + 4 * (i : Int) + 1 + 1 = x + 4 * i + 2 := by omega
      have e7 : x + 4 * (i : Int) + 2 + 1 = x + 4 * i + 3 := by omega
      clear e
      simp only [laws_markUnitS.l0, hm, Int.ofNat_lt.2 hi, if_true, Int.natCast_nonneg, Int.toNat_natCast, Option.bind_some, show ((4 : Nat) : Int) = 4 from rfl]
      simp only [e1, e2, e3, e4, w64s hi (show l.length ≤ 1000000000 by omega), rd_T43, Int.toNat_natCast, List.set_set]
      simp only [getD_set_self z43 m i _ (by omega), mkU, e5, e6, e7]
      simp)
  simpa [laws_markUnitS.f] using key
theorem held_units (n : Nat) (x : Int) (h : n ≤ 4194304) (h0 : 0 ≤ x) (h1 : x ≤ 1000000000) : Ev (fun k => laws_heldUnitS.f k ((List.range n).map fun i => mkU (x + (4 : Nat) * (i : Nat))) x) (x + (4 : Nat) * n) := by
  have key := ev_held n 4 (fun k y i => laws_heldUnitS.l0 k ((List.range n).map fun i => mkU (x + (4 : Nat) * (i : Nat))) y i) x (fun k y => by simp [laws_heldUnitS.l0])
    (fun k i hi => by
      have e : ∀ y : Int, 0 ≤ y → y ≤ 1000000000 + 4 * 4194304 → wrap64 (y + 1) = y + 1 := fun y _ _ => w64 (by omega) (by omega)
      have e1 := e (x + 4 * i) (by omega) (by omega)
      have e2 := e (x + 4 * i + 1) (by omega) (by omega)
      have e3 := e (x + 4 * i + 1 + 1) (by omega) (by omega)
      have e4 := e (x + 4 * i + 1 + 1 + 1) (by omega) (by omega)
      have e5 : x + 4 * (i : Int) + 3 + 1 = x + 4 * ((i : Int) + 1) := by omega
      have e6 : x + 4 * (i : Int) + 1 + 1 = x + 4 * i + 2 := by omega
      have e7 : x + 4 * (i : Int) + 2 + 1 = x + 4 * i + 3 := by omega
      clear e
      simp only [laws_heldUnitS.l0, List.length_map, List.length_range, Int.ofNat_lt.2 hi, if_true, Int.natCast_nonneg, show ((4 : Nat) : Int) = 4 from rfl]
      simp only [e1, e2, e3, e4, w64s hi (show n ≤ 1000000000 by omega), rd_T43, Int.toNat_natCast, getD_map_range z43 n _ i hi]
      simp [mkU, e5, e6, e7])
  simpa [laws_heldUnitS.f] using key

abbrev formB := impl_FormOk.l0
def unitB (u : S43) : Bool := inB u.f0 1 9999 && inB u.f1 1 9 && inB u.f2 1 200
theorem okAt_eq (l : List S43) (j : Nat) (h : j < l.length) : impl_FormOk.l1 l j = (unitB l[j] && !((l.take j).any fun x => x.f0 == l[j].f0)) := by
  have e : rd_T43 l (j : Int) = l[j] := by simp [rd_T43, List.getD_eq_getElem?_getD, h]
  unfold impl_FormOk.l1 unitB inB
  rw [e]
  simp [Bool.and_assoc]
theorem spec_form (l : List S43) : Ev (fun k => spec_FormOk.f k l) (formB l) := by
  unfold formB impl_FormOk.l0
  by_cases h30 : (l.length : Int) > 30
  · simp only [spec_FormOk.f, h30, if_true]
    rw [decide_eq_false (by omega), Bool.false_and]
    exact Ev.now _
  · have hn : l.length ≤ 30 := by omega
    simp only [spec_FormOk.f, h30, if_false]
    rw [decide_eq_true hn, Bool.true_and]
    have key : ∀ i, i ≤ l.length → Ev (fun k => spec_FormOk.l0 k l (i : Int)) (((List.range l.length).drop i).all (impl_FormOk.l1 l)) := by
      refine down l.length ?_ ?_
      · rw [List.drop_of_length_le (by simp)]
        exact ev_some (fun k => by simp [spec_FormOk.l0])
      · intro i hi ih
        rw [drop_getD 0 (List.range l.length) i (by simpa using hi), List.all_cons]
        have e : (List.range l.length).getD i 0 = i := by simp [List.getD_eq_getElem?_getD, hi]
        rw [e, okAt_eq l i hi]
        have e2 : rd_T43 l (i : Int) = l[i] := by simp [rd_T43, List.getD_eq_getElem?_getD, hi]
        have step : ∀ k, spec_FormOk.l0 (k + 1) l (i : Int) = spec_FormOk.j1 k l i (!unitB l[i]) l[i].f0 l[i].f1 l[i].f2 l[i].f3 := by
          intro k
          simp only [spec_FormOk.l0, Int.ofNat_lt.2 hi, if_true, Int.natCast_nonneg, e2, l01In, Option.bind_some, unitB]
          cases inB l[i].f0 1 9999 <;> cases inB l[i].f1 1 9 <;> cases inB l[i].f2 1 200 <;> simp
        refine ev_at ?_ step
        cases hu : unitB l[i] with
        | false => exact ev_some (fun k => by simp [spec_FormOk.j1])
        | true =>
          simp only [Bool.true_and]
          have inner : ∀ j, j ≤ i → Ev (fun k => spec_FormOk.l1 k l i (j : Int) l[i].f0 l[i].f1 l[i].f2 l[i].f3) ((!(((l.take i).drop j).any fun x => x.f0 == l[i].f0)) && ((List.range l.length).drop (i + 1)).all (impl_FormOk.l1 l)) := by
            refine down i ?_ ?_
            · rw [List.drop_of_length_le (by simp; omega)]
              refine ev_at ih (fun k => ?_)
              simp [spec_FormOk.l1, w64s hi (by omega)]
            · intro j hj ih2
              have hjl : j < l.length := by omega
              have hjt : j < (l.take i).length := by simp; omega
              rw [List.drop_eq_getElem_cons hjt, List.any_cons, List.getElem_take]
              have e3 : rd_T43 l (j : Int) = l[j] := by simp [rd_T43, List.getD_eq_getElem?_getD, hjl]
              by_cases hq : l[j].f0 = l[i].f0
              · rw [show (l[j].f0 == l[i].f0) = true by simp [hq], Bool.true_or, Bool.not_true, Bool.false_and]
                exact ev_some (fun k => by simp [spec_FormOk.l1, hj, hjl, e3, hq])
              · rw [show (l[j].f0 == l[i].f0) = false by simp [hq], Bool.false_or]
                exact ev_at ih2 (fun k => by simp [spec_FormOk.l1, hj, hjl, e3, hq, w64s hj (by omega)])
          refine ev_at (by simpa using inner 0 (Nat.zero_le _)) (fun k => ?_)
          simp [spec_FormOk.j1]
    simpa using key 0 (Nat.zero_le _)
/-- A formation that is right, told by its units. -/
theorem formB_iff (l : List S43) : formB l = true ↔ l.length ≤ 30 ∧ (∀ u ∈ l, unitB u = true) ∧ (l.map (·.f0)).Nodup := by
  unfold formB impl_FormOk.l0
  rw [Bool.and_eq_true, decide_eq_true_eq, List.all_eq_true]
  refine and_congr_right fun _ => ⟨fun h => ?_, fun h j hj => ?_⟩
  · have h' : ∀ j (hj : j < l.length), unitB l[j] = true ∧ ∀ i (hi : i < j), (l[i]'(by omega)).f0 ≠ l[j].f0 := by
      intro j hj
      have := h j (List.mem_range.2 hj)
      rw [okAt_eq l j hj, Bool.and_eq_true, Bool.not_eq_true', List.any_eq_false] at this
      refine ⟨this.1, fun i hi he => ?_⟩
      have hm : l[i]'(by omega) ∈ l.take j := by
        rw [List.mem_take_iff_getElem]; exact ⟨i, by omega, rfl⟩
      exact this.2 _ hm (by simp [he])
    refine ⟨fun u hu => ?_, ?_⟩
    · obtain ⟨j, hj, rfl⟩ := List.getElem_of_mem hu
      exact (h' j hj).1
    · rw [List.nodup_iff_pairwise_ne, List.pairwise_iff_getElem]
      intro i j hi hj hij
      simp only [List.getElem_map, List.length_map] at hi hj ⊢
      exact (h' j hj).2 i hij
  · have hj := List.mem_range.1 hj
    rw [okAt_eq l j hj, Bool.and_eq_true, Bool.not_eq_true', List.any_eq_false]
    refine ⟨h.1 _ (List.getElem_mem hj), fun x hx => ?_⟩
    obtain ⟨i, hi, rfl⟩ := List.mem_take_iff_getElem.1 hx
    have := List.pairwise_iff_getElem.1 (List.nodup_iff_pairwise_ne.1 h.2) i j (by simp; omega) (by simpa using hj) (by omega)
    simpa using this
end Go.Proofs.YtnojpcmaalbdhaaDoor.Pure
