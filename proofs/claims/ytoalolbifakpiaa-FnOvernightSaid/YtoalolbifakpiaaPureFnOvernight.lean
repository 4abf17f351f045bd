/- The law FnOvernight, over lists and numbers alone: of balanced tasks as many units end the day at each node as begin it there. -/
import Derived.Test.YtoalolbifakpiaaC13
import Derived.Test.YtoalolbifakpiaaC9
namespace Go.Proofs.Ytoalolbifakpiaa.Pure
open Go.RowKit Go.Proofs.Ytoalolbifakpiaa.P Go.Proofs.YtoalolbifakpiaaW.PrintWords Go.Proofs.YtoalolbifakpiaaW.PrintLast

def dep' (l : List S25) (t : Int) : Int := (rd_T25 l t).f2
theorem rd_map_range' (f : Nat → Int) (n u : Nat) (h : u < n) : rd ((List.range n).map f) (u : Int) = f u := by
  unfold rd; rw [Int.toNat_natCast]; exact getD_map_range 0 n f u h
theorem night_value (l : List S25) (turn : Int) (hl : tasksB l = true) (htb : inB turn 0 120 = true) : Ev (fun k => impl_Night.f k l turn) ((List.range (units l turn).length).map (endAt l (units l turn))) := by
  obtain ⟨h40, hta⟩ := tasksB_parts hl
  obtain ⟨out, r1, _, _, s1⟩ := chains_rel l turn hl htb
  have s2 := (rel_small r1 (order_facts l).1).2
  have key := impl_night r1 (by omega) (fun u hu => by have := s2 u hu; omega) 0 (by omega)
  unfold impl_Night.f
  exact impl_units l turn hl htb (fun k b => impl_Night.j0 k l turn b) (fun k us => impl_Night.l0 k l [] us (us.length : Int) 0) _ (fun k => by simp [impl_Night.j0]) key
/-- The first task of a unit so far. -/
def firstAt (l : List S25) (out : List Int) (u : Nat) (j : Nat) (x : Int) : Prop := (x = -1 ∧ ∀ y : Nat, y < j → un out y ≠ u) ∨ (∃ b : Nat, x = (b : Int) ∧ b < j ∧ un out b = u ∧ ∀ y : Nat, y < j → un out y = u → dep' l b ≤ dep' l y)
def unitSum (l : List S25) (us : List (List Int)) (x : Int) (u : Nat) : Int := sumL ((cat us u).map (turnAt l x))
theorem firstAt_end {l : List S25} {turn : Int} (hta : ∀ x, x ∈ l → taskB x = true) (htu : 0 ≤ turn ∧ turn ≤ 120) {out : List Int} (r1 : Rel l.length (impl_byDep.l0 l) (units l turn) out) (u : Nat) (hu : u < (units l turn).length) (x : Int) (h : firstAt l out u l.length x) :
    0 ≤ x ∧ x < l.length ∧ (rd_T25 l x).f0 = (rd_T25 l ((cat (units l turn) u).head (r1.ne u hu))).f0 := by
  have hmem : ∀ y, y ∈ cat (units l turn) u → (0 ≤ y ∧ y < l.length) ∧ un out y = (u : Int) := fun y hy => by
    obtain ⟨a, b⟩ := (rel_mem_cat r1 u hu y).1 hy
    exact ⟨r1.mem y a, b⟩
  obtain ⟨hd, hhd⟩ : ∃ q, q = (cat (units l turn) u).head (r1.ne u hu) := ⟨_, rfl⟩
  have hin : hd ∈ cat (units l turn) u := by rw [hhd]; exact List.head_mem _
  obtain ⟨⟨h0, h1⟩, h2⟩ := hmem hd hin
  rw [← hhd]
  rcases h with ⟨_, h⟩ | ⟨b, rfl, hb, hbu, hbm⟩
  · exact absurd h2 (by have := h hd.toNat (by omega); rw [Int.toNat_of_nonneg h0] at this; exact this)
  · refine ⟨by omega, by omega, ?_⟩
    have hbin : (b : Int) ∈ cat (units l turn) u := (rel_mem_cat r1 u hu _).2 ⟨order_all l b hb, hbu⟩
    have hpair : (cat (units l turn) u).Pairwise (fun a b => dep' l a < dep' l b) := linked_pairs (dep' l) (fun a => 0 ≤ a ∧ a < l.length) (fun a b ha hb h => (foll_dep hta htu a b ha h).2.1) _ (fun a ha => (hmem a ha).1) (units_chain l turn u hu)
    have e : cat (units l turn) u = hd :: (cat (units l turn) u).tail := by rw [hhd]; exact (List.cons_head_tail _).symm
    rw [e] at hbin hpair
    rcases List.mem_cons.1 hbin with hb2 | hb2
    · rw [hb2]
    · have h3 := (List.pairwise_cons.1 hpair).1 _ hb2
      have h4 := hbm hd.toNat (by omega) (by rw [Int.toNat_of_nonneg h0]; exact h2)
      rw [Int.toNat_of_nonneg h0] at h4
      omega
theorem night_law {l : List S25} {turn : Int} (hl : tasksB l = true) (htb : inB turn 0 120 = true) {out : List Int} (r1 : Rel l.length (impl_byDep.l0 l) (units l turn) out) (hU : (units l turn).length ≤ l.length) (hnet : ∀ x, x < 30 → net l x = 0) :
    ∀ node : Nat, node ≤ 3 → Ev (fun k => laws_FnOvernight.l1 k l out ((List.range (units l turn).length).map (endAt l (units l turn))) (node : Int)) true := by
  obtain ⟨h40, hta⟩ := tasksB_parts hl
  have htu := inB_iff.1 htb
  have hol := r1.ol
  obtain ⟨U, hUe⟩ : ∃ U, U = (units l turn).length := ⟨_, rfl⟩
  obtain ⟨nt, hnt⟩ : ∃ m, m = (List.range (units l turn).length).map (endAt l (units l turn)) := ⟨_, rfl⟩
  have hnl : nt.length = U := by rw [hnt, hUe]; simp
  rw [← hnt]
  refine down 3 (ev_some (fun k => by simp [laws_FnOvernight.l1])) (fun node hnode ih => ?_)
  have hdif : ∀ u (hu : u < U), unitSum l (units l turn) (node : Int) u = isAt (endAt l (units l turn) u) node - isAt (rd_T25 l ((cat (units l turn) u).head (r1.ne u (by omega)))).f0 node := fun u hu => by
    unfold unitSum endAt
    refine telescope l turn (node : Int) (fun a b h => ?_) _ (r1.ne u (by omega)) (units_chain l turn u (by omega))
    unfold Follows' impl_chains.l3 at h
    rw [Bool.and_eq_true, decide_eq_true_eq] at h
    exact h.1
  have htot : sumL ((List.range U).map (unitSum l (units l turn) (node : Int))) = 0 := by
    have h1 : ((List.range U).map (unitSum l (units l turn) (node : Int))) = (List.range U).map fun (u : Nat) => sumL (((impl_byDep.l0 l).filter (fun t => un out t == (u : Int))).map (turnAt l (node : Int))) := by
      refine List.map_congr_left (fun u hu => ?_)
      unfold unitSum
      rw [r1.fil u (by have := List.mem_range.1 hu; omega)]
    rw [h1, sum_units (turnAt l (node : Int)) (un out) U (impl_byDep.l0 l) (fun t ht => by have := r1.ins t ht; omega)]
    have h2 : (impl_byDep.l0 l).Perm ((List.range l.length).map (fun (i : Nat) => (i : Int))) := by rw [ord_map]; exact List.Perm.map _ (ord_perm l)
    rw [sumL_perm (h2.map _), sum_nat_net l node l.length (Nat.le_refl _), List.take_length, hnet node (by omega)]
    rfl
  have loop : ∀ u, u ≤ U → ∀ s : Int, -(u : Int) ≤ s → s ≤ u → s + sumL (((List.range U).drop u).map (unitSum l (units l turn) (node : Int))) = 0 → Ev (fun k => laws_FnOvernight.l2 k l out nt (node : Int) s (u : Int)) true := by
    refine down U (fun s s0 s1 hs => ?_) (fun u hu ih2 s s0 s1 hs => ?_)
    · rw [List.drop_of_length_le (by simp), List.map_nil, sumL, Int.add_zero] at hs
      refine ev_at ih (fun k => ?_)
      simp only [laws_FnOvernight.l2, hnl, Int.lt_irrefl, if_false, hs, if_true, w64s hnode (show 3 ≤ 1000000000 by omega)]
    · have hgd : (List.range U).drop u = u :: (List.range U).drop (u + 1) := by
        rw [drop_getD 0 _ u (by simpa using hu)]
        congr 1
        simp [List.getD_eq_getElem?_getD, hu]
      rw [hgd, List.map_cons, sumL, hdif u hu] at hs
      have hd : rd nt (u : Int) = endAt l (units l turn) u := by rw [hnt]; exact rd_map_range' _ _ _ (by omega)
      obtain ⟨E, hE⟩ : ∃ E, E = endAt l (units l turn) u := ⟨_, rfl⟩
      obtain ⟨F, hF⟩ : ∃ F, F = (rd_T25 l ((cat (units l turn) u).head (r1.ne u (by omega)))).f0 := ⟨_, rfl⟩
      rw [← hE, ← hF] at hs
      rw [← hE] at hd
      have bE := isAt_b E (node : Int)
      have bF := isAt_b F (node : Int)
      -- the scan for the first task
      have scan : ∀ s2 : Int, s2 = s + isAt E node → ∀ j, j ≤ l.length → ∀ x, firstAt l out u j x → Ev (fun k => laws_FnOvernight.l3 k l out nt (node : Int) s2 (u : Int) x (j : Int)) true := by
        intro s2 hs2
        refine down l.length (fun x hx => ?_) (fun j hj ih3 x hx => ?_)
        · obtain ⟨x0, x1, xf⟩ := firstAt_end hta htu r1 u (by omega) x hx
          rw [← hF] at xf
          by_cases c : F = (node : Int)
          · have eF : isAt F (node : Int) = 1 := by unfold isAt; rw [if_pos c]
            refine ev_at (ih2 (s2 - 1) (by omega) (by omega) (by omega)) (fun k => ?_)
            simp only [laws_FnOvernight.l3, Int.lt_irrefl, if_false, show ¬ (x < 0) by omega, x0, x1, if_true, xf, c, w64 (x := s2 - 1) (by omega) (by omega), w64s hu (show U ≤ 1000000000 by omega)]
          · have eF : isAt F (node : Int) = 0 := by unfold isAt; rw [if_neg c]
            refine ev_at (ih2 s2 (by omega) (by omega) (by omega)) (fun k => ?_)
            simp only [laws_FnOvernight.l3, Int.lt_irrefl, if_false, show ¬ (x < 0) by omega, x0, x1, if_true, xf, c, w64s hu (show U ≤ 1000000000 by omega)]
        · have hr := un_rd out (j : Int) (by omega) (by omega)
          have ed : ∀ t, (rd_T25 l t).f2 = dep' l t := fun _ => rfl
          by_cases c : un out (j : Int) = (u : Int)
          · by_cases c2 : x < 0
            · have hnx : firstAt l out u (j + 1) (j : Int) := by
                rcases hx with ⟨_, h⟩ | ⟨b, hb, _⟩
                · refine Or.inr ⟨j, rfl, by omega, c, fun y hy hyu => ?_⟩
                  by_cases e : y = j
                  · rw [e]; omega
                  · exact absurd hyu (h y (by omega))
                · omega
              refine ev_at (ih3 _ hnx) (fun k => ?_)
              simp only [laws_FnOvernight.l3, hol, show (j : Int) < (l.length : Int) by omega, show (0 : Int) ≤ (j : Int) by omega, if_true, hr, c, c2, w64s hj (show l.length ≤ 1000000000 by omega)]
            · obtain ⟨b, hxb, hb, hbu, hbm⟩ : ∃ b : Nat, x = (b : Int) ∧ b < j ∧ un out b = u ∧ ∀ y : Nat, y < j → un out y = u → dep' l b ≤ dep' l y := by
                rcases hx with ⟨h, _⟩ | h
                · omega
                · exact h
              subst hxb
              by_cases c3 : dep' l (j : Int) < dep' l (b : Int)
              · have hnx : firstAt l out u (j + 1) (j : Int) := by
                  refine Or.inr ⟨j, rfl, by omega, c, fun y hy hyu => ?_⟩
                  by_cases e : y = j
                  · rw [e]; omega
                  · have := hbm y (by omega) hyu; omega
                refine ev_at (ih3 _ hnx) (fun k => ?_)
                simp only [laws_FnOvernight.l3, hol, show (j : Int) < (l.length : Int) by omega, show (0 : Int) ≤ (j : Int) by omega, if_true, hr, c, c2, if_false, show (0 : Int) ≤ (b : Int) by omega, show (b : Int) < (l.length : Int) by omega, ed, c3, w64s hj (show l.length ≤ 1000000000 by omega)]
              · have hnx : firstAt l out u (j + 1) (b : Int) := by
                  refine Or.inr ⟨b, rfl, by omega, hbu, fun y hy hyu => ?_⟩
                  by_cases e : y = j
                  · rw [e]; omega
                  · exact hbm y (by omega) hyu
                refine ev_at (ih3 _ hnx) (fun k => ?_)
                simp only [laws_FnOvernight.l3, hol, show (j : Int) < (l.length : Int) by omega, show (0 : Int) ≤ (j : Int) by omega, if_true, hr, c, c2, if_false, show (0 : Int) ≤ (b : Int) by omega, show (b : Int) < (l.length : Int) by omega, ed, c3, w64s hj (show l.length ≤ 1000000000 by omega)]
          · have hnx : firstAt l out u (j + 1) x := by
              rcases hx with ⟨h1, h⟩ | ⟨b, hb, hbj, hbu, hbm⟩
              · refine Or.inl ⟨h1, fun y hy hyu => ?_⟩
                by_cases e : y = j
                · rw [e] at hyu; exact c hyu
                · exact h y (by omega) hyu
              · refine Or.inr ⟨b, hb, by omega, hbu, fun y hy hyu => ?_⟩
                by_cases e : y = j
                · rw [e] at hyu; exact absurd hyu c
                · exact hbm y (by omega) hyu
            refine ev_at (ih3 _ hnx) (fun k => ?_)
            simp only [laws_FnOvernight.l3, hol, show (j : Int) < (l.length : Int) by omega, show (0 : Int) ≤ (j : Int) by omega, if_true, hr, c, if_false, w64s hj (show l.length ≤ 1000000000 by omega)]
      have start : ∀ s2 : Int, s2 = s + isAt E node → Ev (fun k => laws_FnOvernight.j4 k l out nt (node : Int) s2 (u : Int)) true := fun s2 hs2 => ev_at (scan s2 hs2 0 (by omega) (-1) (Or.inl ⟨rfl, fun y hy => by omega⟩)) (fun k => by simp [laws_FnOvernight.j4])
      by_cases c : E = (node : Int)
      · have eE : isAt E (node : Int) = 1 := by unfold isAt; rw [if_pos c]
        refine ev_at (start (s + 1) (by omega)) (fun k => ?_)
        simp only [laws_FnOvernight.l2, hnl, show (u : Int) < (U : Int) by omega, show (0 : Int) ≤ (u : Int) by omega, if_true, hd, c, w64 (x := s + 1) (by omega) (by omega)]
      · have eE : isAt E (node : Int) = 0 := by unfold isAt; rw [if_neg c]
        refine ev_at (start s (by omega)) (fun k => ?_)
        simp only [laws_FnOvernight.l2, hnl, show (u : Int) < (U : Int) by omega, show (0 : Int) ≤ (u : Int) by omega, if_true, hd, c, if_false]
  refine ev_at (loop 0 (by omega) 0 (by omega) (by omega) (by rw [List.drop_zero, Int.zero_add]; exact htot)) (fun k => ?_)
  simp only [laws_FnOvernight.l1, show (node : Int) < 3 by omega, if_true]
  rfl
/-- The tasks and their ways back. -/
def bothWays : List S25 → List S25
  | [] => []
  | t :: ts => ⟨t.f0, t.f1, t.f2, t.f3, t.f4⟩ :: ⟨t.f1, t.f0, t.f2 + 1440, t.f3 + 1440, t.f4⟩ :: bothWays ts
theorem bothWays_len : ∀ ts : List S25, (bothWays ts).length = 2 * ts.length
  | [] => rfl
  | t :: ts => by simp only [bothWays, List.length_cons, bothWays_len ts]; omega
theorem bothWays_net : ∀ (ts : List S25) (x : Nat), net (bothWays ts) x = 0
  | [], x => rfl
  | t :: ts, x => by simp only [bothWays, net, bothWays_net ts x]; omega
theorem bothWays_right : ∀ (ts : List S25), (∀ t, t ∈ ts → rightT t) → ∀ t, t ∈ bothWays ts → taskB t = true
  | [], _, t, ht => absurd ht (by simp [bothWays])
  | y :: ts, h, t, ht => by
    have hy := h y (by simp)
    simp only [bothWays, List.mem_cons] at ht
    rcases ht with e | e | ht
    · rw [e]; exact rightT_task hy
    · rw [e]
      obtain ⟨h1, h2, h3, h4, h5⟩ := hy
      exact (taskB_iff _).2 ⟨⟨⟨h2.1, by show y.f1 ≤ 29; omega⟩, ⟨h1.1, by show y.f0 ≤ 29; omega⟩⟩, ⟨by show 0 ≤ y.f2 + 1440; omega, by show y.f2 + 1440 < y.f3 + 1440; omega, by show y.f3 + 1440 ≤ 100000; omega⟩, ⟨h5.1, by show y.f4 ≤ 2000; omega⟩⟩
    · exact bothWays_right ts (fun z hz => h z (by simp [hz])) t ht
theorem bothWays_app (a b : List S25) : bothWays (a ++ b) = bothWays a ++ bothWays b := by
  induction a with
  | nil => rfl
  | cons t a ih => rw [List.cons_append, bothWays, bothWays, ih]; rfl
theorem FnOvernight : laws_FnOvernight.Pure := by
  intro l hl1 _ hw
  refine Ev.rounds ?_
  unfold laws_FnOvernight.f
  by_cases hb : (l.length : Int) > 1048576
  · rw [big_true hb]
    simpa using Ev.now true
  · rw [big_false hb]
    simp only [Option.bind_some, Bool.false_eq_true, if_false]
    have hl : l.length ≤ 1048576 := by omega
    obtain ⟨⟨ts, turn⟩, hd, q1, q2, q3, q4⟩ := draw_tasks l hl
    simp only at q1 q2 q3 q4
    refine Ev.bind hd ?_
    simp only
    have htb : inB turn 0 120 = true := inB_iff.2 ⟨q3, by omega⟩
    obtain ⟨L, hL⟩ : ∃ L, L = bothWays ts := ⟨_, rfl⟩
    have hLl := bothWays_len ts
    rw [← hL] at hLl
    have htB : tasksB L = true := by
      unfold tasksB
      rw [Bool.and_eq_true, List.all_eq_true, decide_eq_true_eq]
      exact ⟨fun t ht => bothWays_right ts q1 t (by rw [← hL]; exact ht), by omega⟩
    have hnet : ∀ x : Nat, net L x = 0 := fun x => by rw [hL]; exact bothWays_net ts x
    obtain ⟨out, r1, e1, e2, hU⟩ := chains_rel L turn htB htb
    have hol := r1.ol
    have fin : Ev (fun k => laws_FnOvernight.j1 k turn L) true := by
      refine ev_at (f := fun k => (impl_Balanced.f k L).bind fun t281 => (if t281 = true then ((impl_Chains.f k L turn).bind fun t282 => ((impl_Night.f k L turn).bind fun t285 => ((spec_Chains.f k L turn).bind fun t288 => ((laws_sameInts.f k t282 t288).bind fun t291 => (if t291 = true then (laws_FnOvernight.l1 k L t282 t285 0) else (some false)))))) else (some false))) ?_ (fun k => by simp only [laws_FnOvernight.j1])
      have hbal := impl_balanced L (by omega)
      have eb : (tasksB L && (List.range 30).all fun x => decide (net L x = 0)) = true := by
        rw [htB, Bool.true_and, List.all_eq_true]
        intro x _
        exact decide_eq_true (hnet x)
      rw [eb] at hbal
      refine Ev.bind hbal ?_
      simp only [if_true]
      refine Ev.bind e2 (Ev.bind (night_value L turn htB htb) (Ev.bind e1 (Ev.bind (same_ints out (by omega)) ?_)))
      simp only [if_true]
      exact night_law htB htb r1 hU (fun x _ => hnet x) 0 (by omega)
    have mk : ∀ i, i ≤ ts.length → Ev (fun k => laws_FnOvernight.l0 k ts turn (bothWays (ts.take i)) (i : Int)) true := by
      refine down ts.length ?_ (fun i hi ih => ?_)
      · rw [List.take_length, ← hL]
        exact ev_at fin (fun k => by simp [laws_FnOvernight.l0])
      · refine ev_at ih (fun k => ?_)
        have hlen : (bothWays (ts.take i)).length = 2 * i := by rw [bothWays_len, List.length_take]; omega
        have hri : rd_T25 ts (i : Int) = ts.getD i z25 := by unfold rd_T25; rw [Int.toNat_natCast]
        have hr := q1 (ts.getD i z25) (getD_mem _ _ _ hi)
        have e : bothWays (ts.take (i + 1)) = bothWays (ts.take i) ++ [(⟨(ts.getD i z25).f0, (ts.getD i z25).f1, (ts.getD i z25).f2, (ts.getD i z25).f3, (ts.getD i z25).f4⟩ : S25), ⟨(ts.getD i z25).f1, (ts.getD i z25).f0, (ts.getD i z25).f2 + 1440, (ts.getD i z25).f3 + 1440, (ts.getD i z25).f4⟩] := by
          rw [take_getD z25 ts i hi, bothWays_app]; rfl
        obtain ⟨h1, h2, h3, h4, h5⟩ := hr
        simp only [laws_FnOvernight.l0, show (i : Int) < (ts.length : Int) by omega, if_true, hlen, w64 (x := ((2 * i : Nat) : Int) + 2) (by omega) (by omega), show (((2 * i : Nat) : Int) + 2) ≤ 40 by omega, show (0 : Int) ≤ (i : Int) by omega, hri, Option.bind_some, List.length_cons, List.length_nil, show 2 * i + (0 + 1 + 1) < 3518437208883 by omega, w64 (x := (ts.getD i z25).f2 + 1440) (by omega) (by omega), w64 (x := (ts.getD i z25).f3 + 1440) (by omega) (by omega), w64s hi (show ts.length ≤ 1000000000 by omega), e]
    have := mk 0 (by omega)
    simpa [bothWays] using this
end Go.Proofs.Ytoalolbifakpiaa.Pure
