/- The law FnDue, over lists and numbers alone: a unit is due just when it runs more than the limit, and at the right task. -/
import Derived.Test.YtoalolbifakpiaaC12
import Derived.Test.YtoalolbifakpiaaC9
namespace Go.Proofs.Ytoalolbifakpiaa.Pure
open Go.RowKit Go.Proofs.Ytoalolbifakpiaa.P Go.Proofs.YtoalolbifakpiaaW.PrintWords Go.Proofs.YtoalolbifakpiaaW.PrintLast

def depOf (l : List S25) (t : Int) : Int := (rd_T25 l t).f2
theorem rd_map_range (f : Nat → Int) (n u : Nat) (h : u < n) : rd ((List.range n).map f) (u : Int) = f u := by
  unfold rd; rw [Int.toNat_natCast]; exact getD_map_range 0 n f u h
theorem due_law {l : List S25} {turn limit : Int} (hl : tasksB l = true) (htb : inB turn 0 120 = true) (hlim : 0 ≤ limit) (h15 : limit ≤ 1000000) {out : List Int} (r1 : Rel l.length (impl_byDep.l0 l) (units l turn) out) (hU : (units l turn).length ≤ l.length) :
    ∀ u, u ≤ (units l turn).length → Ev (fun k => laws_FnDue.l0 k l limit out ((List.range (units l turn).length).map (unitKm l (units l turn))) ((List.range (units l turn).length).map (dueAt l limit (units l turn))) (u : Int)) true := by
  obtain ⟨h40, hta⟩ := tasksB_parts hl
  have hol := r1.ol
  obtain ⟨U, hUe⟩ : ∃ U, U = (units l turn).length := ⟨_, rfl⟩
  obtain ⟨miles, hmi⟩ : ∃ m, m = (List.range (units l turn).length).map (unitKm l (units l turn)) := ⟨_, rfl⟩
  obtain ⟨due, hdu⟩ : ∃ d, d = (List.range (units l turn).length).map (dueAt l limit (units l turn)) := ⟨_, rfl⟩
  have hml : miles.length = U := by rw [hmi, hUe]; simp
  have hdl : due.length = U := by rw [hdu, hUe]; simp
  rw [← hmi, ← hdu, ← hUe]
  refine down U ?_ (fun u hu ih => ?_)
  · exact ev_some (fun k => by simp [laws_FnDue.l0, hdl])
  · have hm : rd miles (u : Int) = unitKm l (units l turn) u := by rw [hmi]; exact rd_map_range _ _ _ (by omega)
    have hd : rd due (u : Int) = dueAt l limit (units l turn) u := by rw [hdu]; exact rd_map_range _ _ _ (by omega)
    have hmem : ∀ x, x ∈ cat (units l turn) u → (0 ≤ x ∧ x < l.length) ∧ un out x = (u : Int) := fun x hx => by
      obtain ⟨a, b⟩ := (rel_mem_cat r1 u (by omega) x).1 hx
      exact ⟨r1.mem x a, b⟩
    rcases due_split l limit (cat (units l turn) u) 0 hlim (fun x hx => ⟨(hmem x hx).1.1, (km_bounds l hta x (hmem x hx).1.1 (hmem x hx).1.2).1⟩) with ⟨g1, g2⟩ | ⟨pre, x, post, g1, g2, g3, g4, g5⟩
    · have e1 : dueAt l limit (units l turn) u = -1 := g1
      have e2 : unitKm l (units l turn) u ≤ limit := by unfold unitKm; omega
      refine ev_at ih (fun k => ?_)
      simp only [laws_FnDue.l0, hdl, hml, show (u : Int) < (U : Int) by omega, show (0 : Int) ≤ (u : Int) by omega, if_true, hm, hd, e1, show ¬ ((-1 : Int) ≥ 0) by omega, decide_false, show ¬ (unitKm l (units l turn) u > limit) by omega, bne_self_eq_false, Bool.false_eq_true, if_false, show (-1 : Int) < 0 by omega, w64s hu (show U ≤ 1000000000 by omega)]
    · have e1 : dueAt l limit (units l turn) u = x := g2
      have e2 : unitKm l (units l turn) u > limit := by unfold unitKm; omega
      obtain ⟨⟨x0, x1⟩, hux⟩ := hmem x (by rw [g1]; simp)
      have hrx : rd out x = (u : Int) := by rw [un_rd out x x0 (by omega), hux]
      obtain ⟨kx0, kx1⟩ := km_bounds l hta x x0 x1
      -- the tasks ahead of x
      have hpair : (cat (units l turn) u).Pairwise (fun a b => depOf l a < depOf l b) := linked_pairs (depOf l) (fun a => 0 ≤ a ∧ a < l.length) (fun a b ha hb h => (foll_dep hta (inB_iff.1 htb) a b ha h).2.1) _ (fun a ha => (hmem a ha).1) (units_chain l turn u (by omega))
      have hpre : ((places l.length).filter (fun t => (un out t == (u : Int)) && decide (depOf l t < depOf l x))).Perm pre := by
        have h1 : (cat (units l turn) u).filter (fun t => decide (depOf l t < depOf l x)) = pre := by
          rw [g1] at hpair ⊢
          exact ahead_filter (depOf l) pre post x hpair
        rw [r1.fil u (by omega), List.filter_filter] at h1
        rw [← h1, ord_map]
        have h2 : (places l.length).Perm ((ordN l).map (fun (i : Nat) => (i : Int))) := (List.Perm.map _ (ord_perm l)).symm
        have h3 := h2.filter (fun t => (un out t == (u : Int)) && decide (depOf l t < depOf l x))
        refine h3.trans (List.Perm.of_eq ?_)
        refine List.filter_congr (fun a _ => ?_)
        rw [Bool.and_comm]
      have hsum := sumL_perm (List.Perm.map (km l) hpre)
      have inner : ∀ i, i ≤ l.length → ∀ s : Int, 0 ≤ s → s ≤ 2000 * i → s + sumL ((((places l.length).drop i).filter (fun t => (un out t == (u : Int)) && decide (depOf l t < depOf l x))).map (km l)) = sumL (pre.map (km l)) → Ev (fun k => laws_FnDue.l1 k l limit out miles due (u : Int) s (i : Int)) true := by
        refine down _ (fun s s0 s1 hs => ?_) (fun i hi ih2 s s0 s1 hs => ?_)
        · rw [List.drop_of_length_le (by simp [places]), List.filter_nil, List.map_nil, sumL, Int.add_zero] at hs
          refine ev_at ih (fun k => ?_)
          have ek : (rd_T25 l x).f4 = km l x := rfl
          simp only [laws_FnDue.l1, Int.lt_irrefl, if_false, show ¬ (s > limit) by omega, hdl, show (u : Int) < (U : Int) by omega, show (0 : Int) ≤ (u : Int) by omega, if_true, hd, e1, x0, x1, ek, w64 (x := s + km l x) (by omega) (by omega), show ¬ (s + km l x ≤ limit) by omega, w64s hu (show U ≤ 1000000000 by omega)]
        · have hr := un_rd out (i : Int) (by omega) (by omega)
          rw [places_drop _ _ hi, List.filter_cons] at hs
          obtain ⟨k0, k1⟩ := km_bounds l hta (i : Int) (by omega) (by omega)
          have ek : (rd_T25 l (i : Int)).f4 = km l (i : Int) := rfl
          have ed : ∀ t, (rd_T25 l t).f2 = depOf l t := fun _ => rfl
          by_cases c : un out (i : Int) = (u : Int)
          · by_cases c2 : depOf l (i : Int) < depOf l x
            · rw [if_pos (by rw [c, decide_eq_true c2]; simp), List.map_cons, sumL] at hs
              refine ev_at (ih2 (s + km l (i : Int)) (by omega) (by omega) (by omega)) (fun k => ?_)
              simp only [laws_FnDue.l1, hol, show (i : Int) < (l.length : Int) by omega, show (0 : Int) ≤ (i : Int) by omega, hr, c, if_true, hdl, show (u : Int) < (U : Int) by omega, show (0 : Int) ≤ (u : Int) by omega, hd, e1, x0, x1, ed, c2, ek, w64 (x := s + km l (i : Int)) (by omega) (by omega), w64s hi (show l.length ≤ 1000000000 by omega)]
            · rw [if_neg (by rw [c, decide_eq_false c2]; simp)] at hs
              refine ev_at (ih2 s s0 (by omega) hs) (fun k => ?_)
              simp only [laws_FnDue.l1, hol, show (i : Int) < (l.length : Int) by omega, show (0 : Int) ≤ (i : Int) by omega, hr, c, if_true, hdl, show (u : Int) < (U : Int) by omega, show (0 : Int) ≤ (u : Int) by omega, hd, e1, x0, x1, ed, c2, if_false, w64s hi (show l.length ≤ 1000000000 by omega)]
          · rw [if_neg (by rw [Bool.and_eq_true, beq_iff_eq]; exact fun h => c h.1)] at hs
            refine ev_at (ih2 s s0 (by omega) hs) (fun k => ?_)
            simp only [laws_FnDue.l1, hol, show (i : Int) < (l.length : Int) by omega, show (0 : Int) ≤ (i : Int) by omega, hr, c, if_true, if_false, w64s hi (show l.length ≤ 1000000000 by omega)]
      have hin := inner 0 (by omega) 0 (by omega) (by omega) (by rw [List.drop_zero, Int.zero_add]; exact hsum)
      have hj2 : Ev (fun k => laws_FnDue.j2 k l limit out miles due (u : Int) false) true := ev_at hin (fun k => by simp [laws_FnDue.j2])
      refine ev_at hj2 (fun k => ?_)
      simp only [laws_FnDue.l0, hdl, hml, show (u : Int) < (U : Int) by omega, show (0 : Int) ≤ (u : Int) by omega, if_true, hm, hd, e1, show x ≥ 0 by omega, decide_true, show unitKm l (units l turn) u > limit by omega, bne_self_eq_false, Bool.false_eq_true, if_false, show ¬ (x < 0) by omega, show ¬ (x ≥ (l.length : Int)) by omega, hol, x1, hrx]
theorem FnDue : laws_FnDue.Pure := by
  intro l hl1 _ hw
  refine Ev.rounds ?_
  unfold laws_FnDue.f
  by_cases hb : (l.length : Int) > 1048576
  · rw [big_true hb]
    simpa using Ev.now true
  · rw [big_false hb]
    simp only [Option.bind_some, Bool.false_eq_true, if_false]
    have hl : l.length ≤ 1048576 := by omega
    obtain ⟨⟨ts, turn⟩, hd, q1, q2, q3, q4⟩ := draw_tasks l hl
    simp only at q1 q2 q3 q4
    refine Ev.bind hd ?_
    obtain ⟨v, hv, v0, v1⟩ := at_byte l hl hw 3 (by omega) (by omega)
    rw [hv]
    simp only [Option.bind_some, w64 (x := v * 2) (by omega) (by omega)]
    have htB : tasksB ts = true := by
      unfold tasksB
      rw [Bool.and_eq_true, List.all_eq_true, decide_eq_true_eq]
      exact ⟨fun t ht => rightT_task (q1 t ht), by omega⟩
    have htb : inB turn 0 120 = true := inB_iff.2 ⟨q3, by omega⟩
    have hlb : inB (v * 2) 0 1000000 = true := inB_iff.2 ⟨by omega, by omega⟩
    obtain ⟨out, r1, e1, e2, hU⟩ := chains_rel ts turn htB htb
    obtain ⟨d1, d2⟩ := due_value ts turn (v * 2) htB htb hlb
    have hol := r1.ol
    refine Ev.bind e2 (Ev.bind (mileage_value ts turn htB htb) (Ev.bind d1 ?_))
    simp only [List.length_map, List.length_range, if_true]
    refine Ev.bind e1 (Ev.bind (same_ints out (by omega)) ?_)
    simp only [if_true]
    refine Ev.bind d2 (Ev.bind (same_ints _ (by simp; omega)) ?_)
    simp only [Bool.not_true]
    refine ev_at (due_law htB htb (show 0 ≤ v * 2 by omega) (by omega) r1 hU 0 (by omega)) (fun k => by simp [laws_FnDue.j0])
end Go.Proofs.Ytoalolbifakpiaa.Pure
