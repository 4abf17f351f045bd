/- The law FnCoupled, over lists and numbers alone: what couples fits, can be parted again, and is shunted as it should. -/
import Derived.Test.YtnojpcmaalbdhaaU5
namespace Go.Proofs.Ytnojpcmaalbdhaa.Pure
open Go.RowKit Go.Proofs.Ytnojpcmaalbdhaa.P Go.Proofs.YtnojpcmaalbdhaaW.PrintWords Go.Proofs.YtnojpcmaalbdhaaW.PrintLast
set_option linter.unusedSimpArgs false

theorem same_units (l : List S25) (h : l.length ≤ 1000000000) : Ev (fun k => laws_sameUnits.f k l l) true := by
  have key := ev_true l.length (fun k i => laws_sameUnits.l0 k l l i) (fun k => by simp [laws_sameUnits.l0]) (fun k i hi => by simp [laws_sameUnits.l0, w64s hi (by omega), hi])
  simpa [laws_sameUnits.f] using key
/-- The metres of a formation, without any wrap. -/
def metresSum (l : List S25) : Int := (l.map (·.f2)).sum
theorem metresSum_bound {l : List S25} (h : ∀ u ∈ l, unitB u = true) : 0 ≤ metresSum l ∧ metresSum l ≤ 200 * l.length := by
  induction l with
  | nil => simp [metresSum]
  | cons u l ih =>
    have h1 := ih (fun v hv => h v (by simp [hv]))
    have h2 := h u (by simp)
    simp only [unitB, Bool.and_eq_true, inB_iff] at h2
    simp only [metresSum, List.map_cons, List.sum_cons, List.length_cons] at h1 ⊢
    omega
theorem metres_eq {l : List S25} (h : ∀ u ∈ l, unitB u = true) (hl : l.length ≤ 1000) : metres l = metresSum l := by
  have key : ∀ (m : List S25) (a : Int), (∀ u ∈ m, unitB u = true) → m.length ≤ 1000 → 0 ≤ a → a ≤ 1000000000 - 200 * m.length → m.foldl (fun a u => wrap64 (a + u.f2)) a = a + metresSum m := by
    intro m
    induction m with
    | nil => intro a _ _ _ _; simp [metresSum]
    | cons u m ih =>
      intro a hu hm h0 h1
      have h2 := hu u (by simp)
      simp only [unitB, Bool.and_eq_true, inB_iff] at h2
      simp only [List.length_cons] at hm h1
      rw [List.foldl_cons, w64 (by omega) (by omega), ih _ (fun v hv => hu v (by simp [hv])) (by omega) (by omega) (by omega)]
      simp only [metresSum, List.map_cons, List.sum_cons]
      omega
  unfold metres
  rw [key l 0 h hl (by omega) (by omega), Int.zero_add]
theorem runB_parts {l : List S25} (h : runB l = true) : formB l = true ∧ 0 < l.length ∧ fitFrom l 1 = true := by
  simp only [runB, Bool.and_eq_true, decide_eq_true_eq] at h
  exact ⟨h.1.1, h.1.2, h.2⟩
theorem fit_at {l : List S25} (h : fitFrom l 1 = true) (j : Nat) (h1 : 1 ≤ j) (hj : j < l.length) : fitB (l.getD (j - 1) z25) (l.getD j z25) = true := by
  unfold fitFrom at h
  rw [List.all_eq_true] at h
  refine h j ?_
  rw [List.mem_drop_iff_getElem]
  exact ⟨j - 1, by simp; omega, by simp; omega⟩

theorem FnCoupled : laws_FnCoupled.Pure := by
  intro l _ _ _
  refine Ev.rounds ?_
  unfold laws_FnCoupled.f
  have hbig : laws_big.f l = some (decide ((l.length : Int) > 1048576)) := rfl
  simp only [hbig, Option.bind_some]
  by_cases hl : (l.length : Int) > 1048576
  · simpa [hl] using Ev.now true
  · simp only [hl, decide_false, Bool.false_eq_true, if_false]
    refine evp_true (evp_bind (draw_couple l (by omega)) (fun r hr => ?_))
    obtain ⟨a, b⟩ := r
    obtain ⟨ha, hb⟩ := hr
    dsimp only at ha hb ⊢
    refine evp_of (r := true) ?_ rfl
    refine Ev.bind (impl_couple a b) (Ev.bind (spec_couple a b (by omega) (by omega)) ?_)
    simp only [bne_self_eq_false, Bool.false_eq_true, if_false]
    unfold coupleB
    by_cases hc : (runB a && runB b && runB (a ++ b)) = true
    · rw [if_pos hc]
      simp only [if_true]
      simp only [Bool.and_eq_true] at hc
      obtain ⟨⟨ra, rb⟩, rab⟩ := hc
      obtain ⟨fa, la, _⟩ := runB_parts ra
      obtain ⟨fb, lb, _⟩ := runB_parts rb
      obtain ⟨fab, lab, tab⟩ := runB_parts rab
      have l30 := formB_len fab
      have eP : partB (a ++ b) (a.length : Int) = (a, b) := by
        unfold partB
        rw [fab, inB_iff.2 (show 0 ≤ (a.length : Int) ∧ (a.length : Int) ≤ ((a ++ b).length : Int) by simp; omega)]
        simp
      have hP := impl_part (a ++ b) (a.length : Int)
      rw [eP] at hP
      refine Ev.bind hP (Ev.bind (same_units a (by omega)) ?_)
      simp only [if_true]
      refine Ev.bind (same_units b (by omega)) ?_
      simp only [if_true]
      have hR := impl_run (a ++ b)
      rw [rab] at hR
      refine Ev.bind hR ?_
      have ew : wrap64 ((a.length : Int) - 1) = ((a.length - 1 : Nat) : Int) := by rw [w64 (by omega) (by omega)]; omega
      have eF : impl_Fitting.f (rd_T25 a ((a.length - 1 : Nat) : Int)).f0 (rd_T25 a ((a.length - 1 : Nat) : Int)).f1 (rd_T25 a ((a.length - 1 : Nat) : Int)).f2 (rd_T25 a ((a.length - 1 : Nat) : Int)).f3 (rd_T25 b 0).f0 (rd_T25 b 0).f1 (rd_T25 b 0).f2 (rd_T25 b 0).f3 = some true := by
        rw [impl_fit]
        have := fit_at tab a.length (by omega) (by simp; omega)
        have e1 : (a ++ b).getD (a.length - 1) z25 = rd_T25 a ((a.length - 1 : Nat) : Int) := by
          simp only [rd_T25, Int.toNat_natCast, List.getD_eq_getElem?_getD]
          rw [List.getElem?_append_left (by omega)]
        have e2 : (a ++ b).getD a.length z25 = rd_T25 b 0 := by
          simp only [rd_T25, List.getD_eq_getElem?_getD]
          rw [List.getElem?_append_right (by omega)]
          simp
        rw [e1, e2] at this
        rw [this]
      simp only [if_true, ew, Int.natCast_nonneg, show ((a.length - 1 : Nat) : Int) < (a.length : Int) by omega, show 0 < (b.length : Int) by omega, eF, Option.bind_some]
      have eL : ∀ {x : List S25}, formB x = true → lenB x = metresSum x := by
        intro x hx
        have := (formB_iff x).1 hx
        unfold lenB
        rw [if_pos hx, metres_eq this.2.1 (by omega)]
      have h1 := impl_len (a ++ b)
      have h2 := impl_len a
      have h3 := impl_len b
      rw [eL fab] at h1
      rw [eL fa] at h2
      rw [eL fb] at h3
      refine Ev.bind h1 (Ev.bind h2 (Ev.bind h3 ?_))
      have b1 := metresSum_bound ((formB_iff a).1 fa).2.1
      have b2 := metresSum_bound ((formB_iff b).1 fb).2.1
      have es : metresSum (a ++ b) = metresSum a + metresSum b := by simp [metresSum]
      rw [w64 (x := metresSum a + metresSum b) (by omega) (by omega), es]
      simp only [bne_self_eq_false]
      -- shunted once, it is the rest and the turned head
      have eS : shuntB (a ++ b) [(a.length : Int)] = b ++ turned a := by
        unfold shuntB
        have ht : ((formB (a ++ b) && decide (([(a.length : Int)] : List Int).length ≤ 30)) && ([(a.length : Int)] : List Int).all fun c => inB c 0 (a ++ b).length) = true := by
          rw [fab]
          simp [inB]
          omega
        rw [if_pos ht]
        simp [shunt1]
      have hS := impl_shunt (a ++ b) [(a.length : Int)]
      rw [eS] at hS
      have fba : formB (b ++ turned a) = true := by
        have := formB_shunt fab (a.length : Int)
        simpa [shunt1] using this
      have eP2 : partB (b ++ turned a) (b.length : Int) = (b, turned a) := by
        unfold partB
        rw [fba, inB_iff.2 (show 0 ≤ (b.length : Int) ∧ (b.length : Int) ≤ ((b ++ turned a).length : Int) by simp; omega)]
        simp
      have hP2 := impl_part (b ++ turned a) (b.length : Int)
      rw [eP2] at hP2
      have eT : turnB a = turned a := by unfold turnB; rw [if_pos fa]
      have hT := impl_turn a
      rw [eT] at hT
      have eS0 : shuntB (a ++ b) [] = a ++ b := by
        unfold shuntB
        rw [fab]
        simp
      have hS0 := impl_shunt (a ++ b) []
      rw [eS0] at hS0
      refine Ev.step (fun k => by rw [laws_FnCoupled.j0, if_neg (by decide)]) ?_
      refine Ev.bind hS (Ev.bind hP2 (Ev.bind (same_units b (by omega)) ?_))
      simp only [if_true]
      refine Ev.bind hT (Ev.bind (same_units (turned a) (by unfold turned; simp; omega)) ?_)
      simp only [if_true]
      refine Ev.bind hS0 (Ev.bind (same_units (a ++ b) (by omega)) ?_)
      exact Ev.now _
    · rw [if_neg hc]
      simpa using Ev.now true
end Go.Proofs.Ytnojpcmaalbdhaa.Pure
