/- The law FnChains, over lists and numbers alone: the chains told are right, use every unit, and are as few as the fleet; the kilometres are those of the tasks. -/
import Derived.Test.YtoalolbifakpiaaPD
namespace Go.Proofs.Ytoalolbifakpiaa.Pure
open Go.RowKit Go.Proofs.Ytoalolbifakpiaa.P Go.Proofs.YtoalolbifakpiaaW.PrintWords Go.Proofs.YtoalolbifakpiaaW.PrintLast

theorem night_value (l : List S25) (turn : Int) (hl : tasksB l = true) (htb : inB turn 0 120 = true) : Ev (fun k => impl_Night.f k l turn) ((List.range (units l turn).length).map (endAt l (units l turn))) := by
  obtain ⟨h40, hta⟩ := tasksB_parts hl
  obtain ⟨out, r1, _, _, s1⟩ := chains_rel l turn hl htb
  have s2 := (rel_small r1 (order_facts l).1).2
  have key := impl_night r1 (by omega) (fun u hu => by have := s2 u hu; omega) 0 (by omega)
  unfold impl_Night.f
  exact impl_units l turn hl htb (fun k b => impl_Night.j0 k l turn b) (fun k us => impl_Night.l0 k l [] us (us.length : Int) 0) _ (fun k => by simp [impl_Night.j0]) key
theorem chains_tail {l : List S25} {turn : Int} (hl : tasksB l = true) (htb : inB turn 0 120 = true) {out : List Int} (r1 : Rel l.length (impl_byDep.l0 l) (units l turn) out) (hU : (units l turn).length ≤ l.length) (km0 : Int) (hk : km0 = sumL ((places l.length).map (km l))) :
    ∀ u, u ≤ (units l turn).length → Ev (fun k => laws_FnChains.l1 k l turn out ((units l turn).length : Int) km0 (u : Int)) true := by
  obtain ⟨h40, hta⟩ := tasksB_parts hl
  have hol := r1.ol
  obtain ⟨v, ev1, fv⟩ := fleet_is l turn hl htb
  have hv : v = ((units l turn).length : Int) := fleet_unique fv (greedy_fleet l turn hl htb)
  subst hv
  refine down (units l turn).length ?_ (fun u hu ih => ?_)
  · refine ev_at (f := fun k => (impl_Mileage.f k l turn).bind fun t305 => ((impl_Fleet.f k l turn).bind fun t308 => (if ((units l turn).length : Int) = t308 then (if (t305.length : Int) = ((units l turn).length : Int) then ((laws_sum.f k t305).bind fun t309 => (if t309 = km0 then ((impl_Night.f k l turn).bind fun t310 => (some ((t310.length : Int) == ((units l turn).length : Int)))) else (some false))) else (some false)) else (some false)))) ?_ (fun k => by simp [laws_FnChains.l1])
    refine Ev.bind (mileage_value l turn hl htb) (Ev.bind ev1 ?_)
    simp only [if_true, List.length_map, List.length_range]
    have hkm : ∀ u, u < (units l turn).length → ∀ x, x ∈ cat (units l turn) u → 0 ≤ km l x ∧ km l x ≤ 2000 := fun u hu x hx => by
      have := r1.mem x ((rel_mem_cat r1 u hu x).1 hx).1
      exact km_bounds l hta x this.1 this.2
    have s2 := (rel_small r1 (order_facts l).1).2
    have hsum := sum_value ((List.range (units l turn).length).map (unitKm l (units l turn))) (by simp; omega) (fun x hx => by
      obtain ⟨u, hu, rfl⟩ := List.mem_map.1 hx
      have hu := List.mem_range.1 hu
      have hb := sumL_bound (km l) 2000 (by omega) (cat (units l turn) u) (hkm u hu)
      have := s2 u hu
      unfold unitKm
      omega)
    refine Ev.bind hsum ?_
    have htot : sumL ((List.range (units l turn).length).map (unitKm l (units l turn))) = km0 := by
      have h1 : ((List.range (units l turn).length).map (unitKm l (units l turn))) = (List.range (units l turn).length).map fun (u : Nat) => sumL (((impl_byDep.l0 l).filter (fun t => un out t == (u : Int))).map (km l)) := by
        refine List.map_congr_left (fun u hu => ?_)
        unfold unitKm
        rw [r1.fil u (List.mem_range.1 hu)]
      rw [h1, sum_units (km l) (un out) (units l turn).length (impl_byDep.l0 l) (fun t ht => r1.ins t ht), hk]
      have h2 : (impl_byDep.l0 l).Perm (places l.length) := by rw [ord_map]; exact List.Perm.map _ (ord_perm l)
      exact sumL_perm (h2.map _)
    simp only [htot, if_true]
    refine Ev.bind (night_value l turn hl htb) ?_
    simp only [List.length_map, List.length_range, beq_self_eq_true]
    exact Ev.now _
  · have hne := lst_mem _ (r1.ne u hu)
    obtain ⟨h1, h2⟩ := (rel_mem_cat r1 u hu _).1 hne
    obtain ⟨h3, h4⟩ := r1.mem _ h1
    have hmem : (u : Int) ∈ out := by
      rw [← h2]
      unfold un
      exact getD_mem _ _ _ (by omega)
    refine ev_at (f := fun k => (laws_within.f k out (u : Int)).bind fun t304 => (if t304 = true then (laws_FnChains.l1 k l turn out ((units l turn).length : Int) km0 ((u + 1 : Nat) : Int)) else (some false))) ?_ (fun k => by
      simp only [laws_FnChains.l1, show (u : Int) < ((units l turn).length : Int) by omega, if_true, w64s hu (show (units l turn).length ≤ 1000000000 by omega)])
    refine Ev.bind (within_true out (u : Int) (by omega) hmem) ?_
    simpa using ih
theorem chains_most {l : List S25} {turn : Int} (hl : tasksB l = true) (htb : inB turn 0 120 = true) {out : List Int} (r1 : Rel l.length (impl_byDep.l0 l) (units l turn) out) (hU : (units l turn).length ≤ l.length) :
    ∀ i, i ≤ l.length → ∀ m s : Int, 0 ≤ m → m ≤ (units l turn).length → (∀ j : Nat, j < i → un out j < m) → 0 ≤ s → s ≤ 2000 * i → s + sumL (((places l.length).drop i).map (km l)) = sumL ((places l.length).map (km l)) → Ev (fun k => laws_FnChains.l0 k l turn out m s (i : Int)) true := by
  obtain ⟨h40, hta⟩ := tasksB_parts hl
  have hol := r1.ol
  refine down l.length (fun m s m0 m1 hm s0 s1 hs => ?_) (fun i hi ih m s m0 m1 hm s0 s1 hs => ?_)
  · have e : m = (units l turn).length := by
      by_cases c : (units l turn).length = 0
      · omega
      · have hne := lst_mem _ (r1.ne ((units l turn).length - 1) (by omega))
        obtain ⟨h1, h2⟩ := (rel_mem_cat r1 ((units l turn).length - 1) (by omega) _).1 hne
        obtain ⟨h3, h4⟩ := r1.mem _ h1
        have := hm (lst (cat (units l turn) ((units l turn).length - 1))).toNat (by omega)
        rw [Int.toNat_of_nonneg h3, h2] at this
        omega
    rw [List.drop_of_length_le (by simp [places]), List.map_nil, sumL, Int.add_zero] at hs
    rw [e]
    exact ev_at (chains_tail hl htb r1 hU s hs 0 (by omega)) (fun k => by simp [laws_FnChains.l0, hol])
  · have hi2 := r1.ins _ (order_all l i hi)
    have hr := un_rd out (i : Int) (by omega) (by omega)
    rw [places_drop _ _ hi, List.map_cons, sumL] at hs
    obtain ⟨k0, k1⟩ := km_bounds l hta (i : Int) (by omega) (by omega)
    have ek : (rd_T25 l (i : Int)).f4 = km l (i : Int) := rfl
    have ew := w64 (x := un out (i : Int) + 1) (by omega) (by omega)
    by_cases c : un out (i : Int) + 1 > m
    · refine ev_at (ih (un out (i : Int) + 1) (s + km l (i : Int)) (by omega) (by omega) (fun j hj => ?_) (by omega) (by omega) (by omega)) (fun k => ?_)
      · by_cases e : j = i
        · rw [e]; omega
        · have := hm j (by omega); omega
      · simp only [laws_FnChains.l0, hol, show (i : Int) < (l.length : Int) by omega, show (0 : Int) ≤ (i : Int) by omega, hr, ew, c, if_true, ek, w64 (x := s + km l (i : Int)) (by omega) (by omega), w64s hi (show l.length ≤ 1000000000 by omega)]
    · refine ev_at (ih m (s + km l (i : Int)) m0 m1 (fun j hj => ?_) (by omega) (by omega) (by omega)) (fun k => ?_)
      · by_cases e : j = i
        · rw [e]; omega
        · exact hm j (by omega)
      · simp only [laws_FnChains.l0, hol, show (i : Int) < (l.length : Int) by omega, show (0 : Int) ≤ (i : Int) by omega, hr, ew, c, if_true, if_false, ek, w64 (x := s + km l (i : Int)) (by omega) (by omega), w64s hi (show l.length ≤ 1000000000 by omega)]
theorem FnChains : laws_FnChains.Pure := by
  intro l hl1 _ hw
  refine Ev.rounds ?_
  unfold laws_FnChains.f
  by_cases hb : (l.length : Int) > 1048576
  · rw [show laws_big.f l = some true by simp [laws_big.f]; omega]
    simpa using Ev.now true
  · rw [show laws_big.f l = some false by simp [laws_big.f]; omega]
    simp only [Option.bind_some, Bool.false_eq_true, if_false]
    have hl : l.length ≤ 1048576 := by omega
    obtain ⟨⟨ts, turn⟩, hd, q1, q2, q3, q4⟩ := draw_tasks l hl
    simp only at q1 q2 q3 q4
    refine Ev.bind hd ?_
    have htB : tasksB ts = true := by
      unfold tasksB
      rw [Bool.and_eq_true, List.all_eq_true, decide_eq_true_eq]
      exact ⟨fun t ht => rightT_task (q1 t ht), by omega⟩
    have htb : inB turn 0 120 = true := inB_iff.2 ⟨q3, by omega⟩
    obtain ⟨out, r1, e1, e2, hU⟩ := chains_rel ts turn htB htb
    have hol := r1.ol
    refine Ev.bind e2 ?_
    simp only [hol, if_true]
    have hck := impl_chainB ts turn out (by omega)
    rw [chain_ok_true htB htb r1 hU] at hck
    refine Ev.bind hck ?_
    simp only [if_true]
    refine Ev.bind e1 (Ev.bind (same_ints out (by omega)) ?_)
    simp only [Bool.not_true]
    exact ev_at (chains_most htB htb r1 hU 0 (by omega) 0 0 (by omega) (by omega) (fun j hj => by omega) (by omega) (by omega) (by rw [List.drop_zero, Int.zero_add])) (fun k => by simp [laws_FnChains.j0])
end Go.Proofs.Ytoalolbifakpiaa.Pure
