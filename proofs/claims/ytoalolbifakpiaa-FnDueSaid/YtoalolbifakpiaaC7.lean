/- Due: the task at which each unit runs over the limit, over lists alone. -/
import Derived.Test.YtoalolbifakpiaaC5
namespace Go.Proofs.Ytoalolbifakpiaa.Pure
open Go.RowKit Go.Proofs.Ytoalolbifakpiaa.P Go.Proofs.YtoalolbifakpiaaW.PrintWords Go.Proofs.YtoalolbifakpiaaW.PrintLast

def dueStep (l : List S25) (limit : Int) (s : Int × Int) (t : Int) : Int × Int := (if s.1 < 0 then (if s.2 + km l t > limit then t else s.1) else s.1, s.2 + km l t)
def dueAt (l : List S25) (limit : Int) (us : List (List Int)) (u : Nat) : Int := ((cat us u).foldl (dueStep l limit) (-1, 0)).1
theorem impl_due {l : List S25} {od : List Int} {us : List (List Int)} {out : List Int} (limit : Int) (h : Rel l.length od us out) (hta : ∀ x, x ∈ l → taskB x = true) (hb : us.length ≤ 1000) (hc : ∀ u, u < us.length → (cat us u).length ≤ 1000) :
    ∀ u, u ≤ us.length → Ev (fun k => impl_Due.l0 k l limit ((List.range u).map (dueAt l limit us)) us (us.length : Int) (u : Int)) ((List.range us.length).map (dueAt l limit us)) := by
  refine down us.length ?_ (fun u hu ih => ?_)
  · exact ev_some (fun k => by simp [impl_Due.l0])
  · have hcu := hc u hu
    have inner : ∀ j, j ≤ (cat us u).length → ∀ d s : Int, 0 ≤ s → s ≤ 2000 * j → (((cat us u).drop j).foldl (dueStep l limit) (d, s)).1 = dueAt l limit us u → Ev (fun k => impl_Due.l1 k l limit ((List.range u).map (dueAt l limit us)) d s us (us.length : Int) (u : Int) (cat us u) ((cat us u).length : Int) (j : Int)) ((List.range us.length).map (dueAt l limit us)) := by
      refine down _ (fun d s s0 s1 hs => ?_) (fun j hj ih2 d s s0 s1 hs => ?_)
      · rw [List.drop_length, List.foldl_nil] at hs
        simp only at hs
        refine ev_at ih (fun k => ?_)
        have e : (List.range u).map (dueAt l limit us) ++ [dueAt l limit us u] = (List.range (u + 1)).map (dueAt l limit us) := by rw [List.range_succ, List.map_append]; rfl
        simp only [impl_Due.l1, Int.lt_irrefl, if_false, List.length_map, List.length_range, show u < 17592186044416 by omega, if_true, hs, e, w64s hu (show us.length ≤ 1000000000 by omega)]
      · obtain ⟨x, hx⟩ : ∃ x, x = (cat us u).getD j 0 := ⟨_, rfl⟩
        have hxm : x ∈ cat us u := by rw [hx]; exact getD_mem _ _ _ hj
        obtain ⟨hxo, hxu⟩ := (rel_mem_cat h u hu x).1 hxm
        obtain ⟨x0, x1⟩ := h.mem x hxo
        have hrd : rd (cat us u) (j : Int) = x := by unfold rd; rw [Int.toNat_natCast, hx]
        rw [drop_getD 0 _ j hj, ← hx, List.foldl_cons, dueStep] at hs
        simp only at hs
        obtain ⟨k0, k1⟩ := km_bounds l hta x x0 x1
        have ek : (rd_T25 l x).f4 = km l x := rfl
        by_cases c : d < 0
        · rw [if_pos c] at hs
          by_cases c2 : s + km l x > limit
          · rw [if_pos c2] at hs
            refine ev_at (ih2 x (s + km l x) (by omega) (by omega) hs) (fun k => ?_)
            simp only [impl_Due.l1, show (j : Int) < ((cat us u).length : Int) by omega, show (0 : Int) ≤ (j : Int) by omega, hrd, x0, x1, c, if_true, ek, w64 (x := s + km l x) (by omega) (by omega), c2, w64s hj (show (cat us u).length ≤ 1000000000 by omega)]
          · rw [if_neg c2] at hs
            refine ev_at (ih2 d (s + km l x) (by omega) (by omega) hs) (fun k => ?_)
            simp only [impl_Due.l1, show (j : Int) < ((cat us u).length : Int) by omega, show (0 : Int) ≤ (j : Int) by omega, hrd, x0, x1, c, if_true, if_false, ek, w64 (x := s + km l x) (by omega) (by omega), c2, w64s hj (show (cat us u).length ≤ 1000000000 by omega)]
        · rw [if_neg c] at hs
          refine ev_at (ih2 d (s + km l x) (by omega) (by omega) hs) (fun k => ?_)
          simp only [impl_Due.l1, show (j : Int) < ((cat us u).length : Int) by omega, show (0 : Int) ≤ (j : Int) by omega, hrd, x0, x1, c, if_true, if_false, ek, w64 (x := s + km l x) (by omega) (by omega), w64s hj (show (cat us u).length ≤ 1000000000 by omega)]
    refine ev_at (inner 0 (by omega) (-1) 0 (by omega) (by omega) (by rw [List.drop_zero]; rfl)) (fun k => ?_)
    have e : rd_L3 us (u : Int) = cat us u := by unfold rd_L3 cat; rw [Int.toNat_natCast]
    simp only [impl_Due.l0, show (u : Int) < (us.length : Int) by omega, show (0 : Int) ≤ (u : Int) by omega, if_true, e]
    rfl
theorem spec_due {l : List S25} {us : List (List Int)} {out : List Int} (limit : Int) (h : Rel l.length (impl_byDep.l0 l) us out) (hta : ∀ x, x ∈ l → taskB x = true) (hn : l.length ≤ 40) (hb : us.length ≤ l.length) :
    ∀ u, u ≤ us.length → Ev (fun k => spec_Due.l0 k l limit out ((List.range u).map (dueAt l limit us)) (impl_byDep.l0 l) (u : Int)) ((List.range us.length).map (dueAt l limit us)) := by
  have hun := spec_units h (order_all l) (by omega) hb
  have hol := h.ol
  obtain ⟨f1, f2, f3⟩ := order_facts l
  refine down us.length ?_ (fun u hu ih => ?_)
  · refine ev_at (f := fun k => (spec_l16Units.f k out).bind fun t => if (us.length : Int) < t then spec_Due.l1 k l limit out ((List.range us.length).map (dueAt l limit us)) (impl_byDep.l0 l) (us.length : Int) 0 (-1) 0 else some ((List.range us.length).map (dueAt l limit us))) ?_ (fun k => by simp only [spec_Due.l0])
    refine Ev.bind hun ?_
    simpa using Ev.now _
  · have inner : ∀ i, i ≤ (impl_byDep.l0 l).length → ∀ d s : Int, 0 ≤ s → s ≤ 2000 * i → ((((impl_byDep.l0 l).drop i).filter (fun t => un out t == (u : Int))).foldl (dueStep l limit) (d, s)).1 = dueAt l limit us u → Ev (fun k => spec_Due.l1 k l limit out ((List.range u).map (dueAt l limit us)) (impl_byDep.l0 l) (u : Int) s d (i : Int)) ((List.range us.length).map (dueAt l limit us)) := by
      refine down _ (fun d s s0 s1 hs => ?_) (fun i hi ih2 d s s0 s1 hs => ?_)
      · rw [List.drop_length, List.filter_nil, List.foldl_nil] at hs
        simp only at hs
        refine ev_at ih (fun k => ?_)
        have e : (List.range u).map (dueAt l limit us) ++ [dueAt l limit us u] = (List.range (u + 1)).map (dueAt l limit us) := by rw [List.range_succ, List.map_append]; rfl
        simp only [spec_Due.l1, Int.lt_irrefl, if_false, List.length_map, List.length_range, show u < 17592186044416 by omega, if_true, hs, e, w64s hu (show us.length ≤ 1000000000 by omega)]
      · obtain ⟨x, hx⟩ : ∃ x, x = (impl_byDep.l0 l).getD i 0 := ⟨_, rfl⟩
        obtain ⟨x0, x1⟩ := f2 x (by rw [hx]; exact getD_mem _ _ _ hi)
        have hrd : rd (impl_byDep.l0 l) (i : Int) = x := by unfold rd; rw [Int.toNat_natCast, hx]
        have hr := un_rd out x x0 (by omega)
        obtain ⟨k0, k1⟩ := km_bounds l hta x x0 x1
        have ek : (rd_T25 l x).f4 = km l x := rfl
        rw [drop_getD 0 _ i hi, ← hx, List.filter_cons] at hs
        by_cases c : un out x = (u : Int)
        · rw [if_pos (by rw [c]; exact beq_self_eq_true _), List.foldl_cons, dueStep] at hs
          simp only at hs
          by_cases c2 : s + km l x > limit
          · by_cases c1 : d < 0
            · rw [if_pos c1, if_pos c2] at hs
              refine ev_at (ih2 x (s + km l x) (by omega) (by omega) hs) (fun k => ?_)
              simp only [spec_Due.l1, show (i : Int) < ((impl_byDep.l0 l).length : Int) by omega, show (0 : Int) ≤ (i : Int) by omega, hrd, x0, x1, hol, hr, c, c1, c2, if_true, ek, w64 (x := s + km l x) (by omega) (by omega), w64s hi (show (impl_byDep.l0 l).length ≤ 1000000000 by omega)]
            · rw [if_neg c1] at hs
              refine ev_at (ih2 d (s + km l x) (by omega) (by omega) hs) (fun k => ?_)
              simp only [spec_Due.l1, show (i : Int) < ((impl_byDep.l0 l).length : Int) by omega, show (0 : Int) ≤ (i : Int) by omega, hrd, x0, x1, hol, hr, c, c1, c2, if_true, if_false, ek, w64 (x := s + km l x) (by omega) (by omega), w64s hi (show (impl_byDep.l0 l).length ≤ 1000000000 by omega)]
          · rw [if_neg c2, ite_self] at hs
            refine ev_at (ih2 d (s + km l x) (by omega) (by omega) hs) (fun k => ?_)
            simp only [spec_Due.l1, show (i : Int) < ((impl_byDep.l0 l).length : Int) by omega, show (0 : Int) ≤ (i : Int) by omega, hrd, x0, x1, hol, hr, c, c2, if_true, if_false, ek, w64 (x := s + km l x) (by omega) (by omega), w64s hi (show (impl_byDep.l0 l).length ≤ 1000000000 by omega)]
        · rw [if_neg (by rw [beq_iff_eq]; exact c)] at hs
          refine ev_at (ih2 d s s0 (by omega) hs) (fun k => ?_)
          simp only [spec_Due.l1, show (i : Int) < ((impl_byDep.l0 l).length : Int) by omega, show (0 : Int) ≤ (i : Int) by omega, hrd, x0, x1, hol, hr, c, if_true, if_false, w64s hi (show (impl_byDep.l0 l).length ≤ 1000000000 by omega)]
    refine ev_at (f := fun k => (spec_l16Units.f k out).bind fun t => if (u : Int) < t then spec_Due.l1 k l limit out ((List.range u).map (dueAt l limit us)) (impl_byDep.l0 l) (u : Int) 0 (-1) 0 else some ((List.range u).map (dueAt l limit us))) ?_ (fun k => by simp only [spec_Due.l0])
    refine Ev.bind hun ?_
    simp only [show (u : Int) < (us.length : Int) by omega, if_true]
    refine inner 0 (by omega) (-1) 0 (by omega) (by omega) ?_
    rw [List.drop_zero, ← h.fil u hu]
    rfl
theorem due_both (l : List S25) (turn limit : Int) (h : l.length ≤ 1048576) : ∃ out : List Int, out.length ≤ 1048576 ∧ Ev (fun k => spec_Due.f k l turn limit) out ∧ Ev (fun k => impl_Due.f k l turn limit) out := by
  cases hb : (tasksB l && inB turn 0 120 && inB limit 0 1000000) with
  | false =>
    refine ⟨[], by simp, ?_, ?_⟩
    · unfold spec_Due.f
      simp only [l01In, Option.bind_some]
      cases hlb : inB limit 0 1000000 with
      | false => simpa using Ev.now _
      | true =>
        rw [hlb, Bool.and_true] at hb
        simp only [if_true]
        refine Ev.bind (spec_chains_nil l turn h hb) ?_
        simpa using Ev.now _
    · unfold impl_Due.f
      refine Ev.bind (impl_tasks l h) ?_
      cases hl : tasksB l with
      | false =>
        simp only [Bool.false_eq_true, if_false]
        exact ev_some (fun k => by simp [impl_Due.j0])
      | true =>
        cases htb : inB turn 0 120 with
        | false =>
          simp only [if_true, turn_ok, htb, Option.bind_some, Bool.false_eq_true, if_false]
          exact ev_some (fun k => by simp [impl_Due.j0])
        | true =>
          have hlb : inB limit 0 1000000 = false := by rw [hl, htb] at hb; simpa using hb
          simp only [if_true, turn_ok, htb, between, hlb, Option.bind_some, Bool.not_false]
          exact ev_some (fun k => by simp [impl_Due.j0])
  | true =>
    rw [Bool.and_eq_true, Bool.and_eq_true] at hb
    obtain ⟨⟨hl, htb⟩, hlb⟩ := hb
    obtain ⟨h40, hta⟩ := tasksB_parts hl
    obtain ⟨out, r1, r2⟩ := spec_chains l turn hl (inB_iff.1 htb)
    obtain ⟨f1, f2, f3⟩ := order_facts l
    obtain ⟨s1, s2⟩ := rel_small r1 f1
    have hol := r1.ol
    refine ⟨(List.range (units l turn).length).map (dueAt l limit (units l turn)), by simp; omega, ?_, ?_⟩
    · unfold spec_Due.f
      simp only [l01In, hlb, Option.bind_some, if_true]
      refine Ev.bind r2 ?_
      by_cases c : out.length = 0
      · have e : (units l turn).length = 0 := by omega
        simpa [c, e] using Ev.now _
      · simp only [show ¬ ((out.length : Int) = 0) by omega, if_false]
        refine Ev.bind (spec_order l (by omega)) ?_
        have := spec_due limit r1 hta h40 s1 0 (by omega)
        simpa using this
    · unfold impl_Due.f
      have ht := impl_tasks l h
      rw [hl] at ht
      refine Ev.bind ht ?_
      simp only [if_true, turn_ok, htb, between, hlb, Option.bind_some, Bool.not_true]
      have key := impl_due limit r1 hta (by omega) (fun u hu => by have := s2 u hu; omega) 0 (by omega)
      refine ev_at key (fun k => ?_)
      have e : impl_chains.f k l turn = some (units l turn) := by unfold impl_chains.f; rw [if_pos h40]; rfl
      simp [impl_Due.j0, e]
end Go.Proofs.Ytoalolbifakpiaa.Pure
