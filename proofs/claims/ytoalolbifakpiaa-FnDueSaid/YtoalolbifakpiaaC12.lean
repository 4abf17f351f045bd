/- Due: what the law asks of each unit. -/
import Derived.Test.YtoalolbifakpiaaC7
import Derived.Test.YtoalolbifakpiaaC11
namespace Go.Proofs.Ytoalolbifakpiaa.Pure
open Go.RowKit Go.Proofs.Ytoalolbifakpiaa.P Go.Proofs.YtoalolbifakpiaaW.PrintWords Go.Proofs.YtoalolbifakpiaaW.PrintLast

theorem due_value (l : List S25) (turn limit : Int) (hl : tasksB l = true) (htb : inB turn 0 120 = true) (hlb : inB limit 0 1000000 = true) : Ev (fun k => impl_Due.f k l turn limit) ((List.range (units l turn).length).map (dueAt l limit (units l turn))) ∧ Ev (fun k => spec_Due.f k l turn limit) ((List.range (units l turn).length).map (dueAt l limit (units l turn))) := by
  obtain ⟨h40, hta⟩ := tasksB_parts hl
  obtain ⟨out, r1, r2, _, s1⟩ := chains_rel l turn hl htb
  have s2 := (rel_small r1 (order_facts l).1).2
  have hol := r1.ol
  obtain ⟨o, _, e1, e2⟩ := due_both l turn limit (by omega)
  have key : Ev (fun k => spec_Due.f k l turn limit) ((List.range (units l turn).length).map (dueAt l limit (units l turn))) := by
    unfold spec_Due.f
    simp only [l01In, hlb, Option.bind_some, if_true]
    refine Ev.bind r2 ?_
    by_cases c : out.length = 0
    · have e : (units l turn).length = 0 := by omega
      simpa [c, e] using Ev.now _
    · simp only [show ¬ ((out.length : Int) = 0) by omega, if_false]
      refine Ev.bind (spec_order l (by omega)) ?_
      have := spec_due limit r1 hta h40 s1 0 (by omega)
      simpa using this
  have e := ev_unique key e1
  rw [← e] at e2
  exact ⟨e2, key⟩
theorem due_stays (l : List S25) (limit : Int) : ∀ (c : List Int) (d s : Int), 0 ≤ d → (c.foldl (dueStep l limit) (d, s)).1 = d
  | [], d, s, _ => rfl
  | x :: c, d, s, h => by
    rw [List.foldl_cons, dueStep]
    simp only
    rw [if_neg (by omega)]
    exact due_stays l limit c d _ h
theorem due_split (l : List S25) (limit : Int) : ∀ (c : List Int) (s : Int), s ≤ limit → (∀ x, x ∈ c → 0 ≤ x ∧ 0 ≤ km l x) →
    ((c.foldl (dueStep l limit) (-1, s)).1 = -1 ∧ s + sumL (c.map (km l)) ≤ limit) ∨
    ∃ pre x post, c = pre ++ x :: post ∧ (c.foldl (dueStep l limit) (-1, s)).1 = x ∧ s + sumL (pre.map (km l)) ≤ limit ∧ s + sumL (pre.map (km l)) + km l x > limit ∧ s + sumL (c.map (km l)) > limit
  | [], s, hs, _ => Or.inl ⟨rfl, by simp [sumL]; exact hs⟩
  | x :: c, s, hs, hc => by
    obtain ⟨x0, xk⟩ := hc x (by simp)
    have pos : ∀ c : List Int, (∀ x, x ∈ c → 0 ≤ x ∧ 0 ≤ km l x) → 0 ≤ sumL (c.map (km l)) := by
      intro c
      induction c with
      | nil => intro _; simp [sumL]
      | cons y c ih => intro h; have := ih (fun z hz => h z (by simp [hz])); have := (h y (by simp)).2; simp only [List.map_cons, sumL]; omega
    have hp := pos c (fun y hy => hc y (by simp [hy]))
    rw [List.foldl_cons, dueStep]
    simp only
    rw [if_pos (by omega)]
    by_cases g : s + km l x > limit
    · rw [if_pos g]
      refine Or.inr ⟨[], x, c, rfl, due_stays l limit c x _ x0, by simp [sumL]; exact hs, by simpa [sumL] using g, by simp only [List.map_cons, sumL]; omega⟩
    · rw [if_neg g]
      rcases due_split l limit c (s + km l x) (by omega) (fun y hy => hc y (by simp [hy])) with ⟨h1, h2⟩ | ⟨pre, y, post, h1, h2, h3, h4, h5⟩
      · refine Or.inl ⟨h1, by simp only [List.map_cons, sumL]; omega⟩
      · refine Or.inr ⟨x :: pre, y, post, by rw [h1]; rfl, h2, by simp only [List.map_cons, sumL]; omega, by simp only [List.map_cons, sumL]; omega, by simp only [List.map_cons, sumL]; omega⟩
/-- What stands ahead of a task in its unit: the tasks of the unit of an earlier Dep. -/
theorem ahead_filter (f : Int → Int) (pre post : List Int) (x : Int) (h : (pre ++ x :: post).Pairwise (fun a b => f a < f b)) : (pre ++ x :: post).filter (fun t => decide (f t < f x)) = pre := by
  rw [List.pairwise_append, List.pairwise_cons] at h
  obtain ⟨_, ⟨h2, _⟩, h3⟩ := h
  rw [List.filter_append]
  have e1 : pre.filter (fun t => decide (f t < f x)) = pre := by
    rw [List.filter_eq_self]
    intro a ha
    exact decide_eq_true (h3 a ha x (by simp))
  have e2 : (x :: post).filter (fun t => decide (f t < f x)) = [] := by
    rw [List.filter_eq_nil_iff]
    intro a ha
    rw [decide_eq_true_eq]
    rcases List.mem_cons.1 ha with e | ha
    · rw [e]; omega
    · have := h2 a ha; omega
  rw [e1, e2, List.append_nil]
end Go.Proofs.Ytoalolbifakpiaa.Pure
