/- The law FnExactBalanced, over lists and numbers alone: program and reference tell the same of all tasks. -/
import Derived.Test.YtoalolbifakpiaaQFnExactBalanced
import Derived.Test.YtoalolbifakpiaaT1
namespace Go.Proofs.Ytoalolbifakpiaa.Pure
open Go.RowKit Go.Proofs.Ytoalolbifakpiaa.P Go.Proofs.YtoalolbifakpiaaW.PrintWords Go.Proofs.YtoalolbifakpiaaW.PrintLast

/-- How many more begin at a node than end there. -/
def one (a : Int) (x : Nat) : Int := if a = (x : Int) then 1 else 0
def net : List S25 → Nat → Int
  | [], _ => 0
  | t :: ts, x => one t.f0 x - one t.f1 x + net ts x
theorem one_b (a : Int) (x : Nat) : 0 ≤ one a x ∧ one a x ≤ 1 := by unfold one; split <;> omega

theorem set_getD (xs : List Int) (i x : Nat) (v : Int) (h : i < xs.length) : (xs.set i v).getD x 0 = if x = i then v else xs.getD x 0 := by
  by_cases e : x = i
  · subst e
    simp [List.getD_eq_getElem?_getD, h]
  · simp [List.getD_eq_getElem?_getD, Ne.symm e, e]
theorem step_at (xs : List Int) (hx : xs.length = 30) (t : S25) (ht : 0 ≤ t.f0 ∧ t.f0 < 30 ∧ 0 ≤ t.f1 ∧ t.f1 < 30) (B : Int) (hB : 0 ≤ B ∧ B ≤ 1000000) (hb : ∀ x : Nat, -B ≤ xs.getD x 0 ∧ xs.getD x 0 ≤ B) (x : Nat) :
    (impl_Balanced.l1 (impl_Balanced.l1 xs t.f0 1) t.f1 (-1)).getD x 0 = xs.getD x 0 + one t.f0 x - one t.f1 x := by
  obtain ⟨h0, h1, h2, h3⟩ := ht
  obtain ⟨i, hi⟩ : ∃ i : Nat, t.f0 = (i : Int) := ⟨t.f0.toNat, by omega⟩
  obtain ⟨j, hj⟩ : ∃ j : Nat, t.f1 = (j : Int) := ⟨t.f1.toNat, by omega⟩
  unfold impl_Balanced.l1 one
  rw [hi, hj, Int.toNat_natCast, Int.toNat_natCast]
  have bi := hb i
  have bj := hb j
  rw [set_getD _ j x _ (by simp; omega), set_getD xs i x _ (by omega), set_getD xs i j _ (by omega), w64 (x := xs.getD i 0 + 1) (by omega) (by omega)]
  by_cases e1 : x = j
  · subst e1
    rw [if_pos rfl]
    by_cases e2 : x = i
    · subst e2
      rw [if_pos rfl, if_pos rfl, w64 (by omega) (by omega)]
      omega
    · rw [if_neg e2, if_neg (by omega), if_pos rfl, w64 (by omega) (by omega)]
      omega
  · rw [if_neg e1]
    by_cases e2 : x = i
    · subst e2
      rw [if_pos rfl, if_pos rfl, if_neg (by omega)]
      omega
    · rw [if_neg e2, if_neg (by omega), if_neg (by omega)]
      omega
theorem impl_bal : ∀ (ts : List S25) (xs : List Int) (B : Int), xs.length = 30 → (∀ t, t ∈ ts → taskB t = true) → 0 ≤ B → B + 2 * ts.length ≤ 1000000 → (∀ x : Nat, -B ≤ xs.getD x 0 ∧ xs.getD x 0 ≤ B) →
    impl_Balanced.l0 ts xs = some ((List.range 30).all fun x => decide (xs.getD x 0 + net ts x = 0))
  | [], xs, B, hx, _, _, _, _ => by
    unfold impl_Balanced.l0
    congr 1
    rw [Bool.eq_iff_iff, List.all_eq_true, List.all_eq_true]
    constructor
    · intro h x hx'
      have hx2 : x < 30 := by simpa using hx'
      have := h (xs.getD x 0) (getD_mem 0 xs x (by omega))
      simp only [decide_eq_true_eq] at this ⊢
      simp only [net]
      omega
    · intro h y hy
      obtain ⟨i, hi, rfl⟩ := List.mem_iff_getElem.1 hy
      have := h i (by simp; omega)
      simpa [net, List.getD_eq_getElem?_getD, List.getElem?_eq_getElem hi] using this
  | t :: ts, xs, B, hx, ht, hB, hB2, hb => by
    have h1 := taskB_bounds (ht t (by simp))
    rw [List.length_cons] at hB2
    have hst := step_at xs hx t ⟨h1.1.1, by omega, h1.2.1.1, by omega⟩ B ⟨hB, by omega⟩ hb
    rw [impl_Balanced.l0, if_pos ⟨h1.1.1, by omega, h1.2.1.1, by omega⟩]
    rw [impl_bal ts _ (B + 1) (by simp [impl_Balanced.l1, hx]) (fun u hu => ht u (by simp [hu])) (by omega) (by omega) (fun x => by
      rw [hst x]
      have := hb x
      have := one_b t.f0 x
      have := one_b t.f1 x
      omega)]
    congr 1
    rw [Bool.eq_iff_iff, List.all_eq_true, List.all_eq_true]
    constructor
    · intro h x hx'
      have := h x hx'
      rw [hst x] at this
      simp only [decide_eq_true_eq] at this ⊢
      simp only [net]
      omega
    · intro h x hx'
      have := h x hx'
      rw [hst x]
      simp only [decide_eq_true_eq] at this ⊢
      simp only [net] at this
      omega
theorem impl_balanced (l : List S25) (h : l.length ≤ 1048576) : Ev (fun k => impl_Balanced.f k l) (tasksB l && (List.range 30).all fun x => decide (net l x = 0)) := by
  unfold impl_Balanced.f
  refine Ev.bind (impl_tasks l h) ?_
  cases ht : tasksB l
  · simpa using Ev.now _
  · have hp := tasksB_parts ht
    simp only [if_true, Bool.true_and]
    have := impl_bal l (List.replicate 30 0) 0 (by simp) hp.2 (Int.le_refl _) (by omega) (fun x => by
      have : (List.replicate 30 (0 : Int)).getD x 0 = 0 := by
        simp only [List.getD_eq_getElem?_getD, List.getElem?_replicate]
        split <;> rfl
      rw [this]
      omega)
    rw [this]
    have e : ((List.range 30).all fun x => decide ((List.replicate 30 (0 : Int)).getD x 0 + net l x = 0)) = (List.range 30).all fun x => decide (net l x = 0) := by
      congr 1
      funext x
      have : (List.replicate 30 (0 : Int)).getD x 0 = 0 := by
        simp only [List.getD_eq_getElem?_getD, List.getElem?_replicate]
        split <;> rfl
      rw [this, Int.zero_add]
    rw [e]
    exact Ev.now _

theorem spec_count (l : List S25) (h : l.length ≤ 40) (x : Nat) (hx : x < 30) (r : Bool) (hr : Ev (fun k => spec_Balanced.l0 k l ((x + 1 : Nat) : Int)) r) :
    ∀ i, i ≤ l.length → ∀ n : Int, -(i : Int) ≤ n → n ≤ i → Ev (fun k => spec_Balanced.l1 k l x n i) (decide (n + net (l.drop i) x = 0) && r) := by
  refine down l.length ?_ (fun i hi ih => ?_)
  · intro n h1 h2
    rw [List.drop_of_length_le (Nat.le_refl _)]
    simp only [net, Int.add_zero]
    by_cases e : n = 0
    · subst e
      simp only [decide_true, Bool.true_and]
      have hw : wrap64 ((x : Int) + 1) = ((x + 1 : Nat) : Int) := w64s (show x < x + 1 by omega) (by omega)
      exact ev_at hr (fun k => by simp [spec_Balanced.l1, hw])
    · simp only [e, decide_false, Bool.false_and]
      exact ev_some (fun k => by simp [spec_Balanced.l1, e])
  · intro n h1 h2
    have hw := w64s hi (by omega)
    rw [drop_getD z25 l i hi]
    obtain ⟨t, ht⟩ : ∃ t, l.getD i z25 = t := ⟨_, rfl⟩
    have ert : rd_T25 l (i : Int) = t := by rw [← ht]; simp [rd_T25]
    rw [ht]
    have o0 := one_b t.f0 x
    have o1 := one_b t.f1 x
    have := ih (n + one t.f0 x - one t.f1 x) (by omega) (by omega)
    have e : n + net (t :: l.drop (i + 1)) x = n + one t.f0 x - one t.f1 x + net (l.drop (i + 1)) x := by simp only [net]; omega
    rw [e]
    refine ev_at this (fun k => ?_)
    have f1 : (i : Int) < l.length := by clear hw; omega
    have f2 : (0 : Int) ≤ i := by clear hw; omega
    simp only [spec_Balanced.l1, ert, if_pos f1, if_pos f2, hw]
    clear hw e this ih f1 f2
    unfold one
    by_cases e0 : t.f0 = (x : Int)
    · rw [if_pos e0, if_pos e0, w64 (x := n + 1) (by omega) (by omega)]
      by_cases e1 : t.f1 = (x : Int)
      · rw [if_pos e1, if_pos e1, w64 (x := n + 1 - 1) (by omega) (by omega)]
      · rw [if_neg e1, if_neg e1, Int.sub_zero]
    · rw [if_neg e0, if_neg e0]
      by_cases e1 : t.f1 = (x : Int)
      · rw [if_pos e1, if_pos e1, w64 (x := n - 1) (by omega) (by omega), Int.add_zero]
      · rw [if_neg e1, if_neg e1, Int.add_zero, Int.sub_zero]
theorem spec_balanced (l : List S25) (h : l.length ≤ 1048576) : Ev (fun k => spec_Balanced.f k l) (tasksB l && (List.range 30).all fun x => decide (net l x = 0)) := by
  unfold spec_Balanced.f
  refine Ev.bind (spec_tasks l h) ?_
  cases ht : tasksB l
  · simpa using Ev.now _
  · have hp := tasksB_parts ht
    simp only [if_true, Bool.true_and]
    have key : ∀ x : Nat, x ≤ 30 → Ev (fun k => spec_Balanced.l0 k l (x : Int)) (((List.range 30).drop x).all fun x => decide (net l x = 0)) := by
      refine down 30 ?_ (fun x hx ih => ?_)
      · rw [List.drop_of_length_le (by simp)]
        exact ev_some (fun k => by simp [spec_Balanced.l0])
      · rw [drop_getD 0 (List.range 30) x (by simpa using hx), List.all_cons]
        have e : (List.range 30).getD x 0 = x := by simp [List.getD_eq_getElem?_getD, hx]
        rw [e]
        have := spec_count l (by omega) x hx _ ih 0 (Nat.zero_le _) 0 (by omega) (by omega)
        rw [List.drop_zero, Int.zero_add] at this
        exact ev_at this (fun k => by simp [spec_Balanced.l0, show (x : Int) < 30 by omega])
    exact key 0 (Nat.zero_le _)

theorem FnExactBalanced : laws_FnExactBalanced.Pure2 := by
  intro l hl
  refine Ev.rounds ?_
  unfold laws_FnExactBalanced.f
  simp only [sz_tasks l 1048576 (by omega) (by omega) hl.1, Option.bind_some]
  by_cases h : (1048576 : Int) < l.length
  · simpa [h] using Ev.now true
  · have hn : l.length ≤ 1048576 := by omega
    have hm : (l.map unt).length ≤ 1048576 := by simpa using hn
    simp only [h, if_false, show ¬ ((1048576 : Int) - l.length < 0) by omega]
    refine Ev.bind (to_tasks l hn) (Ev.bind (spec_balanced _ hm) (Ev.bind (to_tasks l hn) (Ev.bind (impl_balanced _ hm) ?_)))
    simp only [bne_self_eq_false, Bool.false_eq_true, if_false]
    refine Ev.bind (to_tasks l hn) (Ev.bind (eq_tasks _ hm) ?_)
    simpa using Ev.now true
end Go.Proofs.Ytoalolbifakpiaa.Pure
