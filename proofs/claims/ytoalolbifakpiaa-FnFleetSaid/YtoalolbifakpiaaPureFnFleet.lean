/- The law FnFleet, over lists and numbers alone: a longer turn never needs fewer units, one task less changes their number by at most one. -/
import Derived.Test.YtoalolbifakpiaaM3
import Derived.Test.YtoalolbifakpiaaC9
namespace Go.Proofs.Ytoalolbifakpiaa.Pure
open Go.RowKit Go.Proofs.Ytoalolbifakpiaa.P Go.Proofs.YtoalolbifakpiaaW.PrintWords Go.Proofs.YtoalolbifakpiaaW.PrintLast

theorem impl_Follows_all (a b : S25) (turn : Int) : impl_Follows.f a.f0 a.f1 a.f2 a.f3 a.f4 b.f0 b.f1 b.f2 b.f3 b.f4 turn = some (followsB a b turn) := by
  unfold impl_Follows.f followsB
  simp only [impl_task, turn_okF, Option.bind_some]
  cases ha : taskB a <;> cases taskB b <;> simp
  cases ht : inB turn 0 120 <;> simp
  exact impl_foll b ha (inB_iff.1 ht)
theorem follows_mono (a b : S25) (turn more : Int) (h0 : 0 ≤ turn) (hm : turn ≤ more) (h : followsB a b more = true) : followsB a b turn = true := by
  unfold followsB follB at h ⊢
  simp only [Bool.and_eq_true, decide_eq_true_eq, inB_iff] at h ⊢
  obtain ⟨⟨⟨h1, h2⟩, h3⟩, h4, h5⟩ := h
  exact ⟨⟨⟨h1, h2⟩, by omega⟩, h4, by omega⟩
theorem fleet_follows (l : List S25) (turn more : Int) (h0 : 0 ≤ turn) (hm : turn ≤ more) (hn : l.length ≤ 1000) : ∀ i, i ≤ l.length → Ev (fun k => laws_FnFleet.l0 k l turn more (i : Int)) true := by
  refine down l.length (ev_some (fun k => by simp [laws_FnFleet.l0])) (fun i hi ih => ?_)
  have inner : ∀ j, j ≤ l.length → Ev (fun k => laws_FnFleet.l1 k l turn more (i : Int) (j : Int)) true := by
    refine down l.length (ev_at ih (fun k => by simp [laws_FnFleet.l1, w64s hi (show l.length ≤ 1000000000 by omega)])) (fun j hj ih2 => ?_)
    refine ev_at ih2 (fun k => ?_)
    simp only [laws_FnFleet.l1, show (j : Int) < (l.length : Int) by omega, show (0 : Int) ≤ (i : Int) by omega, show (i : Int) < (l.length : Int) by omega, show (0 : Int) ≤ (j : Int) by omega, if_true, impl_Follows_all, Option.bind_some, w64s hj (show l.length ≤ 1000000000 by omega)]
    cases c : followsB (rd_T25 l (i : Int)) (rd_T25 l (j : Int)) more with
    | false => simp
    | true =>
      rw [follows_mono _ _ _ _ h0 hm c]
      simp
  exact ev_at (inner 0 (by omega)) (fun k => by simp [laws_FnFleet.l0, hi])
theorem FnFleet : laws_FnFleet.Pure := by
  intro l hl1 _ hw
  refine Ev.rounds ?_
  unfold laws_FnFleet.f
  by_cases hb : (l.length : Int) > 1048576
  · rw [big_true hb]
    simpa using Ev.now true
  · rw [big_false hb]
    simp only [Option.bind_some, Bool.false_eq_true, if_false]
    have hl : l.length ≤ 1048576 := by omega
    obtain ⟨⟨ts, turn⟩, hd, q1, q2, q3, q4⟩ := draw_tasks l hl
    simp only at q1 q2 q3 q4
    refine Ev.bind hd ?_
    obtain ⟨b, hbv, b0, b1⟩ := at_byte l hl hw 3 (by omega) (by omega)
    rw [hbv]
    have ht0 : 0 ≤ Int.tmod b 32 ∧ Int.tmod b 32 < 32 := by
      rw [Int.tmod_eq_emod_of_nonneg b0]
      exact ⟨Int.emod_nonneg _ (by omega), Int.emod_lt_of_pos _ (by omega)⟩
    simp only [Option.bind_some, w64 (x := turn + Int.tmod b 32) (by omega) (by omega)]
    obtain ⟨more, hmo⟩ : ∃ m, m = turn + Int.tmod b 32 := ⟨_, rfl⟩
    rw [← hmo]
    have hta : ∀ t, t ∈ ts → taskB t = true := fun t ht => rightT_task (q1 t ht)
    have htB : tasksB ts = true := by
      unfold tasksB
      rw [Bool.and_eq_true, List.all_eq_true, decide_eq_true_eq]
      exact ⟨hta, by omega⟩
    have htu : 0 ≤ turn ∧ turn ≤ 120 := ⟨q3, by omega⟩
    have hmu : 0 ≤ more ∧ more ≤ 120 := ⟨by omega, by omega⟩
    obtain ⟨v, ev1, fv⟩ := fleet_is ts turn htB (inB_iff.2 htu)
    obtain ⟨w, ev2, fw⟩ := fleet_is ts more htB (inB_iff.2 hmu)
    refine Ev.bind ev1 (Ev.bind ev2 ?_)
    have hvw := fleet_more hta htu hmu (by omega) fv fw
    have hv0 := fleet_nonneg fv
    have hwn := fleet_le fw
    have hbne : ((v == 0) != ((ts.length : Int) == 0)) = false := by
      by_cases c : ts.length = 0
      · have : v = 0 := by have := fleet_le fv; omega
        rw [this, c]; rfl
      · have := fleet_pos hta htu fv (by omega)
        have e1 : (v == 0) = false := beq_eq_false_iff_ne.2 (by omega)
        have e2 : ((ts.length : Int) == 0) = false := beq_eq_false_iff_ne.2 (by omega)
        rw [e1, e2]; rfl
    simp only [show ¬ (v < 0) by omega, show ¬ (w < v) by omega, show ¬ (w > (ts.length : Int)) by omega, if_false, hbne]
    have hj1 : Ev (fun k => laws_FnFleet.j1 k ts turn more) true := ev_at (fleet_follows ts turn more q3 (by omega) (by omega) 0 (by omega)) (fun k => by simp [laws_FnFleet.j1])
    by_cases c : ts.length = 0
    · exact ev_at hj1 (fun k => by simp [laws_FnFleet.j0, c])
    · obtain ⟨t, rest, rfl⟩ : ∃ t rest, ts = t :: rest := by
        cases ts with
        | nil => simp at c
        | cons t rest => exact ⟨t, rest, rfl⟩
      have htB2 : tasksB rest = true := by
        unfold tasksB
        rw [Bool.and_eq_true, List.all_eq_true, decide_eq_true_eq]
        exact ⟨fun x hx => hta x (by simp [hx]), by rw [List.length_cons] at q2; omega⟩
      obtain ⟨z, ev3, fz⟩ := fleet_is rest turn htB2 (inB_iff.2 htu)
      have hz := fleet_tail fv fz
      have hv1 := fleet_le fv
      rw [List.length_cons] at hv1 q2
      refine ev_at (f := fun k => (impl_Fleet.f k rest turn).bind fun t333 => if t333 > wrap64 (v + 1) then some false else if t333 < wrap64 (v - 1) then some false else laws_FnFleet.j1 k (t :: rest) turn more) ?_ (fun k => by
        simp only [laws_FnFleet.j0, Bool.false_eq_true, if_false, List.length_cons, show ((rest.length + 1 : Nat) : Int) > 0 by omega, show (1 : Int) ≤ ((rest.length + 1 : Nat) : Int) by omega, if_true, List.drop_one, List.tail_cons])
      refine Ev.bind ev3 ?_
      simp only [w64 (x := v + 1) (by omega) (by omega), w64 (x := v - 1) (by omega) (by omega), show ¬ (z > v + 1) by omega, show ¬ (z < v - 1) by omega, if_false]
      exact hj1
end Go.Proofs.Ytoalolbifakpiaa.Pure
