/- Night: where each unit ends, over lists alone. -/
import Derived.Test.YtoalolbifakpiaaC5
namespace Go.Proofs.Ytoalolbifakpiaa.Pure
open Go.RowKit Go.Proofs.Ytoalolbifakpiaa.P Go.Proofs.YtoalolbifakpiaaW.PrintWords Go.Proofs.YtoalolbifakpiaaW.PrintLast

def endAt (l : List S25) (us : List (List Int)) (u : Nat) : Int := (rd_T25 l (lst (cat us u))).f1
theorem impl_night {l : List S25} {od : List Int} {us : List (List Int)} {out : List Int} (h : Rel l.length od us out) (hb : us.length ≤ 1000) (hc : ∀ u, u < us.length → (cat us u).length ≤ 1000) :
    ∀ u, u ≤ us.length → Ev (fun k => impl_Night.l0 k l ((List.range u).map (endAt l us)) us (us.length : Int) (u : Int)) ((List.range us.length).map (endAt l us)) := by
  refine down us.length ?_ (fun u hu ih => ?_)
  · exact ev_some (fun k => by simp [impl_Night.l0])
  · have hcu := hc u hu
    have hp := List.length_pos_iff.2 (h.ne u hu)
    obtain ⟨h0, h1⟩ := h.last u hu
    refine ev_at ih (fun k => ?_)
    have e : rd_L3 us (u : Int) = cat us u := by unfold rd_L3 cat; rw [Int.toNat_natCast]
    have e2 : wrap64 (((cat us u).length : Int) - 1) = (((cat us u).length - 1 : Nat) : Int) := by rw [w64 (by omega) (by omega)]; omega
    have e3 : rd (cat us u) (((cat us u).length - 1 : Nat) : Int) = lst (cat us u) := rfl
    have e4 : (List.range u).map (endAt l us) ++ [endAt l us u] = (List.range (u + 1)).map (endAt l us) := by rw [List.range_succ, List.map_append]; rfl
    have e5 : (rd_T25 l (lst (cat us u))).f1 = endAt l us u := rfl
    simp only [impl_Night.l0, show (u : Int) < (us.length : Int) by omega, show (0 : Int) ≤ (u : Int) by omega, if_true, e, e2, e3, h0, h1, show (0 : Int) ≤ (((cat us u).length - 1 : Nat) : Int) by omega, show (((cat us u).length - 1 : Nat) : Int) < ((cat us u).length : Int) by omega, List.length_map, List.length_range, show u < 17592186044416 by omega, e5, e4, w64s hu (show us.length ≤ 1000000000 by omega)]
theorem fold_last (g : Int → Int) : ∀ (c : List Int) (a : Int), c ≠ [] → c.foldl (fun _ t => g t) a = g (lst c)
  | [], _, h => absurd rfl h
  | [x], a, _ => rfl
  | x :: y :: c, a, _ => by
    rw [List.foldl_cons, fold_last g (y :: c) _ (by simp)]
    congr 1
theorem spec_night {l : List S25} {us : List (List Int)} {out : List Int} (h : Rel l.length (impl_byDep.l0 l) us out) (hn : l.length ≤ 40) (hb : us.length ≤ l.length) :
    ∀ u, u ≤ us.length → Ev (fun k => spec_Night.l0 k l out ((List.range u).map (endAt l us)) (impl_byDep.l0 l) (u : Int)) ((List.range us.length).map (endAt l us)) := by
  have hun := spec_units h (order_all l) (by omega) hb
  have hol := h.ol
  obtain ⟨f1, f2, f3⟩ := order_facts l
  refine down us.length ?_ (fun u hu ih => ?_)
  · refine ev_at (f := fun k => (spec_l16Units.f k out).bind fun t => if (us.length : Int) < t then spec_Night.l1 k l out ((List.range us.length).map (endAt l us)) (impl_byDep.l0 l) (us.length : Int) 0 0 else some ((List.range us.length).map (endAt l us))) ?_ (fun k => by simp only [spec_Night.l0])
    refine Ev.bind hun ?_
    simpa using Ev.now _
  · have inner : ∀ i, i ≤ (impl_byDep.l0 l).length → ∀ s : Int, (((impl_byDep.l0 l).drop i).filter (fun t => un out t == (u : Int))).foldl (fun _ t => (rd_T25 l t).f1) s = endAt l us u → Ev (fun k => spec_Night.l1 k l out ((List.range u).map (endAt l us)) (impl_byDep.l0 l) (u : Int) s (i : Int)) ((List.range us.length).map (endAt l us)) := by
      refine down _ (fun s hs => ?_) (fun i hi ih2 s hs => ?_)
      · rw [List.drop_length, List.filter_nil, List.foldl_nil] at hs
        refine ev_at ih (fun k => ?_)
        have e : (List.range u).map (endAt l us) ++ [endAt l us u] = (List.range (u + 1)).map (endAt l us) := by rw [List.range_succ, List.map_append]; rfl
        simp only [spec_Night.l1, Int.lt_irrefl, if_false, List.length_map, List.length_range, show u < 17592186044416 by omega, if_true, hs, e, w64s hu (show us.length ≤ 1000000000 by omega)]
      · obtain ⟨x, hx⟩ : ∃ x, x = (impl_byDep.l0 l).getD i 0 := ⟨_, rfl⟩
        obtain ⟨x0, x1⟩ := f2 x (by rw [hx]; exact getD_mem _ _ _ hi)
        have hrd : rd (impl_byDep.l0 l) (i : Int) = x := by unfold rd; rw [Int.toNat_natCast, hx]
        have hr := un_rd out x x0 (by omega)
        rw [drop_getD 0 _ i hi, ← hx, List.filter_cons] at hs
        by_cases c : un out x = (u : Int)
        · rw [if_pos (by rw [c]; exact beq_self_eq_true _), List.foldl_cons] at hs
          refine ev_at (ih2 _ hs) (fun k => ?_)
          simp only [spec_Night.l1, show (i : Int) < ((impl_byDep.l0 l).length : Int) by omega, show (0 : Int) ≤ (i : Int) by omega, hrd, x0, x1, hol, hr, c, if_true, w64s hi (show (impl_byDep.l0 l).length ≤ 1000000000 by omega)]
        · rw [if_neg (by rw [beq_iff_eq]; exact c)] at hs
          refine ev_at (ih2 s hs) (fun k => ?_)
          simp only [spec_Night.l1, show (i : Int) < ((impl_byDep.l0 l).length : Int) by omega, show (0 : Int) ≤ (i : Int) by omega, hrd, x0, x1, hol, hr, c, if_true, if_false, w64s hi (show (impl_byDep.l0 l).length ≤ 1000000000 by omega)]
    refine ev_at (f := fun k => (spec_l16Units.f k out).bind fun t => if (u : Int) < t then spec_Night.l1 k l out ((List.range u).map (endAt l us)) (impl_byDep.l0 l) (u : Int) 0 0 else some ((List.range u).map (endAt l us))) ?_ (fun k => by simp only [spec_Night.l0])
    refine Ev.bind hun ?_
    simp only [show (u : Int) < (us.length : Int) by omega, if_true]
    refine inner 0 (by omega) 0 ?_
    rw [List.drop_zero, ← h.fil u hu, fold_last (fun t => (rd_T25 l t).f1) _ _ (h.ne u hu)]
    rfl
theorem night_both (l : List S25) (turn : Int) (h : l.length ≤ 1048576) : ∃ out : List Int, out.length ≤ 1048576 ∧ Ev (fun k => spec_Night.f k l turn) out ∧ Ev (fun k => impl_Night.f k l turn) out := by
  cases hb : (tasksB l && inB turn 0 120) with
  | false =>
    refine ⟨[], by simp, ?_, ?_⟩
    · unfold spec_Night.f
      refine Ev.bind (spec_chains_nil l turn h hb) ?_
      simpa using Ev.now _
    · unfold impl_Night.f
      refine Ev.bind (impl_tasks l h) ?_
      cases hl : tasksB l with
      | false =>
        simp only [Bool.false_eq_true, if_false]
        exact ev_some (fun k => by simp [impl_Night.j0])
      | true =>
        have htb : inB turn 0 120 = false := by rw [hl] at hb; simpa using hb
        simp only [if_true, turn_ok, htb, Option.bind_some, Bool.not_false]
        exact ev_some (fun k => by simp [impl_Night.j0])
  | true =>
    rw [Bool.and_eq_true] at hb
    obtain ⟨hl, htb⟩ := hb
    obtain ⟨h40, hta⟩ := tasksB_parts hl
    obtain ⟨out, r1, r2⟩ := spec_chains l turn hl (inB_iff.1 htb)
    obtain ⟨f1, f2, f3⟩ := order_facts l
    obtain ⟨s1, s2⟩ := rel_small r1 f1
    have hol := r1.ol
    refine ⟨(List.range (units l turn).length).map (endAt l (units l turn)), by simp; omega, ?_, ?_⟩
    · unfold spec_Night.f
      refine Ev.bind r2 ?_
      by_cases c : out.length = 0
      · have e : (units l turn).length = 0 := by omega
        simpa [c, e] using Ev.now _
      · simp only [show ¬ ((out.length : Int) = 0) by omega, if_false]
        refine Ev.bind (spec_order l (by omega)) ?_
        have := spec_night r1 h40 s1 0 (by omega)
        simpa using this
    · unfold impl_Night.f
      have ht := impl_tasks l h
      rw [hl] at ht
      refine Ev.bind ht ?_
      simp only [if_true, turn_ok, htb, Option.bind_some, Bool.not_true]
      have key := impl_night r1 (by omega) (fun u hu => by have := s2 u hu; omega) 0 (by omega)
      refine ev_at key (fun k => ?_)
      have e : impl_chains.f k l turn = some (units l turn) := by unfold impl_chains.f; rw [if_pos h40]; rfl
      simp [impl_Night.j0, e]
end Go.Proofs.Ytoalolbifakpiaa.Pure
