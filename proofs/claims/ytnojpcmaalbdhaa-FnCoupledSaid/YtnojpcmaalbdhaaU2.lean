/- The length of a formation, and whether it can run. -/
import Derived.Test.YtnojpcmaalbdhaaU1
namespace Go.Proofs.Ytnojpcmaalbdhaa.Pure
open Go.RowKit Go.Proofs.Ytnojpcmaalbdhaa.P Go.Proofs.YtnojpcmaalbdhaaW.PrintWords Go.Proofs.YtnojpcmaalbdhaaW.PrintLast
set_option linter.unusedSimpArgs false

theorem rd_unit (l : List S25) (i : Nat) (h : i < l.length) : rd_T25 l (i : Int) = l[i] := by simp [rd_T25, List.getD_eq_getElem?_getD, h]
theorem impl_form (l : List S25) : impl_FormOk.f l = some (formB l) := rfl
theorem formB_len {l : List S25} (h : formB l = true) : l.length ≤ 30 := ((formB_iff l).1 h).1

def metres (l : List S25) : Int := l.foldl (fun a u => wrap64 (a + u.f2)) 0
def lenB (l : List S25) : Int := if formB l = true then metres l else -1
theorem spec_len (l : List S25) : Ev (fun k => spec_FormLen.f k l) (lenB l) := by
  unfold lenB metres
  refine Ev.bind (spec_form l) ?_
  by_cases h : formB l = true
  · simp only [h, if_true]
    have hl := formB_len h
    have key : ∀ i, i ≤ l.length → ∀ a, Ev (fun k => spec_FormLen.l0 k l a (i : Int)) ((l.drop i).foldl (fun a u => wrap64 (a + u.f2)) a) := by
      refine down l.length (fun a => ?_) (fun i hi ih a => ?_)
      · rw [List.drop_of_length_le (Nat.le_refl _)]; exact ev_some (fun k => by simp [spec_FormLen.l0])
      · rw [List.drop_eq_getElem_cons hi, List.foldl_cons]
        exact ev_at (ih _) (fun k => by simp [spec_FormLen.l0, hi, rd_unit l i hi, w64s hi (by omega)])
    simpa using key 0 (Nat.zero_le _) 0
  · simp only [h, if_false]
    exact Ev.now _
theorem impl_len (l : List S25) : Ev (fun k => impl_FormLen.f k l) (lenB l) := by
  unfold lenB metres impl_FormLen.f
  simp only [impl_form, Option.bind_some]
  by_cases h : formB l = true
  · simp only [h, if_true]
    have hl := formB_len h
    have key : ∀ i, i ≤ l.length → ∀ a, Ev (fun k => impl_FormLen.l0 k a l l.length (i : Int)) ((l.drop i).foldl (fun a u => wrap64 (a + u.f2)) a) := by
      refine down l.length (fun a => ?_) (fun i hi ih a => ?_)
      · rw [List.drop_of_length_le (Nat.le_refl _)]; exact ev_some (fun k => by simp [impl_FormLen.l0])
      · rw [List.drop_eq_getElem_cons hi, List.foldl_cons]
        exact ev_at (ih _) (fun k => by simp [impl_FormLen.l0, hi, rd_unit l i hi, w64s hi (by omega)])
    simpa using key 0 (Nat.zero_le _) 0
  · simp only [h, if_false]
    exact Ev.now _

def fitB (a b : S25) : Bool := a.f1 == b.f1 || (decide (a.f1 ≤ 3) && decide (b.f1 ≤ 3)) || (decide (a.f1 > 6) && decide (b.f1 > 6))
theorem spec_fit (a b : S25) : spec_Fitting.f a.f0 a.f1 a.f2 a.f3 b.f0 b.f1 b.f2 b.f3 = some (fitB a b) := by
  unfold spec_Fitting.f fitB
  by_cases h1 : a.f1 = b.f1 <;> by_cases h2 : a.f1 ≤ 3 <;> by_cases h3 : b.f1 ≤ 3 <;> by_cases h4 : a.f1 > 6 <;> simp [h1, h2, h3, h4] <;> omega
theorem impl_fit (a b : S25) : impl_Fitting.f a.f0 a.f1 a.f2 a.f3 b.f0 b.f1 b.f2 b.f3 = some (fitB a b) := spec_fit a b
/-- All neighbours fit, from a place on. -/
def fitFrom (l : List S25) (i : Nat) : Bool := ((List.range l.length).drop i).all fun j => fitB (l.getD (j - 1) z25) (l.getD j z25)
def runB (l : List S25) : Bool := formB l && decide (0 < l.length) && fitFrom l 1
theorem fitFrom_step (l : List S25) (i : Nat) (h : i < l.length) : fitFrom l i = (fitB (l.getD (i - 1) z25) (l.getD i z25) && fitFrom l (i + 1)) := by
  unfold fitFrom
  rw [drop_getD 0 (List.range l.length) i (by simpa using h), List.all_cons]
  simp [List.getD_eq_getElem?_getD, h]
theorem fitFrom_end (l : List S25) (i : Nat) (h : l.length ≤ i) : fitFrom l i = true := by
  unfold fitFrom; rw [List.drop_of_length_le (by simpa using h)]; rfl
theorem prev {i n : Nat} (h1 : 1 ≤ i) (hi : i < n) (hn : n ≤ 1000000000) : wrap64 ((i : Int) - 1) = ((i - 1 : Nat) : Int) := by rw [w64 (by omega) (by omega)]; omega
theorem spec_run (l : List S25) (hl : l.length ≤ 1000000000) : Ev (fun k => spec_Runnable.f k l) (runB l) := by
  have fin : ∀ i, l.length ≤ i → Ev (fun k => spec_Runnable.l0 k l (i : Int)) (formB l && decide (0 < l.length)) := by
    intro i hi
    have : Ev (fun k => (spec_FormOk.f k l).bind fun t => if t = true then some (decide ((l.length : Int) > 0)) else some false) (formB l && decide (0 < l.length)) := by
      refine Ev.bind (spec_form l) ?_
      cases formB l
      · simpa using Ev.now false
      · by_cases h0 : 0 < l.length
        · simpa [h0] using Ev.now true
        · simpa [h0, show l = [] from List.eq_nil_of_length_eq_zero (by omega)] using Ev.now false
    refine ev_at this (fun k => ?_)
    simp only [spec_Runnable.l0, show ¬ (i : Int) < (l.length : Int) by omega, if_false]
  have key : ∀ i, i ≤ l.length → 1 ≤ i → Ev (fun k => spec_Runnable.l0 k l (i : Int)) (formB l && decide (0 < l.length) && fitFrom l i) := by
    refine down l.length (fun _ => ?_) (fun i hi ih h1 => ?_)
    · rw [fitFrom_end l _ (Nat.le_refl _), Bool.and_true]
      exact fin _ (Nat.le_refl _)
    · rw [fitFrom_step l i hi]
      have e1 : rd_T25 l (i : Int) = l.getD i z25 := by simp [rd_T25]
      have e2 : rd_T25 l ((i - 1 : Nat) : Int) = l.getD (i - 1) z25 := by simp [rd_T25]
      have e3 : (((i - 1 : Nat) : Int)) < (l.length : Int) := by omega
      have step : ∀ k, spec_Runnable.l0 (k + 1) l (i : Int) = if fitB (l.getD (i - 1) z25) (l.getD i z25) = true then spec_Runnable.l0 k l ((i + 1 : Nat) : Int) else some false := by
        intro k
        simp only [spec_Runnable.l0, Int.ofNat_lt.2 hi, if_true, prev h1 hi hl, Int.natCast_nonneg, e3, e1, e2, spec_fit, Option.bind_some, w64s hi hl]
      cases hf : fitB (l.getD (i - 1) z25) (l.getD i z25) with
      | true =>
        rw [Bool.true_and]
        exact ev_at (ih (by omega)) (fun k => by rw [step, hf, if_pos rfl])
      | false =>
        simp only [Bool.false_and, Bool.and_false]
        exact ev_some (fun k => by rw [step, hf]; simp)
  unfold runB spec_Runnable.f
  by_cases h0 : 1 ≤ l.length
  · exact key 1 h0 (Nat.le_refl _)
  · rw [fitFrom_end l 1 (by omega), Bool.and_true]
    exact fin 1 (by omega)
theorem impl_run (l : List S25) : Ev (fun k => impl_Runnable.f k l) (runB l) := by
  unfold impl_Runnable.f runB
  simp only [impl_form, Option.bind_some]
  by_cases h : formB l = true
  · simp only [h, if_true, Bool.true_and]
    have hl := formB_len h
    by_cases h0 : l.length = 0
    · have : ((l.length : Int) == 0) = true := by simp [h0]
      simp only [this]
      rw [decide_eq_false (by omega), Bool.false_and]
      exact ev_some (fun k => by simp [impl_Runnable.j0])
    · have : ((l.length : Int) == 0) = false := by simp; exact fun hh => h0 (by simp [hh])
      simp only [this]
      rw [decide_eq_true (by omega), Bool.true_and]
      have key : ∀ i, i ≤ l.length → 1 ≤ i → Ev (fun k => impl_Runnable.l0 k l (i : Int)) (fitFrom l i) := by
        refine down l.length (fun _ => ?_) (fun i hi ih h1 => ?_)
        · rw [fitFrom_end l _ (Nat.le_refl _)]
          exact ev_some (fun k => by simp [impl_Runnable.l0])
        · rw [fitFrom_step l i hi]
          have e1 : rd_T25 l (i : Int) = l.getD i z25 := by simp [rd_T25]
          have e2 : rd_T25 l ((i - 1 : Nat) : Int) = l.getD (i - 1) z25 := by simp [rd_T25]
          have e3 : (((i - 1 : Nat) : Int)) < (l.length : Int) := by omega
          have step : ∀ k, impl_Runnable.l0 (k + 1) l (i : Int) = if fitB (l.getD (i - 1) z25) (l.getD i z25) = true then impl_Runnable.l0 k l ((i + 1 : Nat) : Int) else some false := by
            intro k
            simp only [impl_Runnable.l0, Int.ofNat_lt.2 hi, if_true, prev h1 hi (show l.length ≤ 1000000000 by omega), Int.natCast_nonneg, e3, e1, e2, impl_fit, Option.bind_some, w64s hi (show l.length ≤ 1000000000 by omega)]
          cases hf : fitB (l.getD (i - 1) z25) (l.getD i z25) with
          | true =>
            rw [Bool.true_and]
            exact ev_at (ih (by omega)) (fun k => by rw [step, hf, if_pos rfl])
          | false =>
            simp only [Bool.false_and]
            exact ev_some (fun k => by rw [step, hf]; simp)
      exact ev_at (key 1 (by omega) (Nat.le_refl _)) (fun k => by simp [impl_Runnable.j0])
  · simp only [h, if_false]
    simp only [Bool.false_and]
    exact ev_some (fun k => by simp [impl_Runnable.j0])
end Go.Proofs.Ytnojpcmaalbdhaa.Pure
