/- ChainOk: program and reference, over lists alone. -/
import Derived.Test.YtoalolbifakpiaaC2
namespace Go.Proofs.Ytoalolbifakpiaa.Pure
open Go.RowKit Go.Proofs.Ytoalolbifakpiaa.P Go.Proofs.YtoalolbifakpiaaW.PrintWords Go.Proofs.YtoalolbifakpiaaW.PrintLast

/-- The last task of unit u in a list of places, or -1. -/
def lastOf (us : List Int) (ts : List Int) (u : Int) : Int := ts.foldl (fun a t => if rd us t = u then t else a) (-1)
theorem lastOf_snoc (us ts : List Int) (t u : Int) : lastOf us (ts ++ [t]) u = if rd us t = u then t else lastOf us ts u := by unfold lastOf; rw [List.foldl_append]; rfl
theorem lastOf_mem (us : List Int) (u : Int) : ∀ (ts : List Int) (a : Int), ts.foldl (fun a t => if rd us t = u then t else a) a = a ∨ ts.foldl (fun a t => if rd us t = u then t else a) a ∈ ts
  | [], a => Or.inl rfl
  | t :: ts, a => by
    rw [List.foldl_cons]
    rcases lastOf_mem us u ts (if rd us t = u then t else a) with h | h
    · by_cases c : rd us t = u
      · rw [if_pos c] at h ⊢; right; rw [h]; simp
      · rw [if_neg c] at h ⊢; left; exact h
    · right; exact List.mem_cons_of_mem _ h
def okStep (l : List S25) (turn : Int) (us ts : List Int) (t : Int) : Bool := inB (rd us t) 0 39 && (decide (lastOf us ts (rd us t) < 0) || follB (rd_T25 l (lastOf us ts (rd us t))) (rd_T25 l t) turn)
def okAll (l : List S25) (turn : Int) (us : List Int) : List Int → List Int → Bool
  | _, [] => true
  | ts, t :: rest => okStep l turn us ts t && okAll l turn us (ts ++ [t]) rest
theorem spec_okAll (l : List S25) (turn : Int) (us od : List Int) (hl : tasksB l = true) (htu : inB turn 0 120 = true) (hul : us.length = l.length) (hod : od.length = l.length) (hm : ∀ t, t ∈ od → 0 ≤ t ∧ t < l.length) :
    ∀ i, i ≤ od.length → Ev (fun k => spec_ChainOk.l0 k l turn us od (i : Int)) (okAll l turn us (od.take i) (od.drop i)) := by
  obtain ⟨h40, hta⟩ := tasksB_parts hl
  have htask : ∀ x : Int, 0 ≤ x → x < l.length → taskB (rd_T25 l x) = true := fun x hx0 hx1 => hta _ (by unfold rd_T25; exact getD_mem _ _ _ (by omega))
  refine down od.length ?_ (fun i hi ih => ?_)
  · rw [List.drop_length, okAll]
    exact ev_some (fun k => by simp [spec_ChainOk.l0])
  · obtain ⟨t, ht⟩ : ∃ t, t = od.getD i 0 := ⟨_, rfl⟩
    obtain ⟨h0, h1⟩ := hm t (by rw [ht]; exact getD_mem _ _ _ hi)
    have hrd : rd od (i : Int) = t := by unfold rd; rw [Int.toNat_natCast, ht]
    have hto := take_getD 0 od i hi
    rw [← ht] at hto
    rw [drop_getD 0 od i hi, ← ht, okAll, ← hto]
    refine ev_at (f := fun k => if inB (rd us t) 0 39 = true then spec_ChainOk.l1 k l turn us od (i : Int) (-1) ((0 : Nat) : Int) else some false) ?_ (fun k => by simp only [spec_ChainOk.l0, show (i : Int) < (od.length : Int) by omega, show (0 : Int) ≤ (i : Int) by omega, hrd, h0, h1, hul, if_true, l01In, Option.bind_some]; rfl)
    cases c : inB (rd us t) 0 39 with
    | false =>
      simp only [Bool.false_eq_true, if_false]
      have : okStep l turn us (od.take i) t = false := by unfold okStep; rw [c]; rfl
      rw [this]
      exact Ev.now _
    | true =>
      simp only [if_true]
      obtain ⟨V, hV⟩ : ∃ V, V = (okStep l turn us (od.take i) t && okAll l turn us (od.take (i + 1)) (od.drop (i + 1))) := ⟨_, rfl⟩
      rw [← hV]
      have fin : Ev (fun k => spec_ChainOk.l1 k l turn us od (i : Int) (lastOf us (od.take i) (rd us t)) (i : Int)) V := by
        obtain ⟨z, hz⟩ : ∃ z, z = lastOf us (od.take i) (rd us t) := ⟨_, rfl⟩
        rw [← hz]
        by_cases c2 : z < 0
        · have e : V = okAll l turn us (od.take (i + 1)) (od.drop (i + 1)) := by
            rw [hV]; unfold okStep; rw [c, ← hz, decide_eq_true c2]; rfl
          rw [e]
          refine ev_at ih (fun k => ?_)
          simp only [spec_ChainOk.l1, Int.lt_irrefl, if_false, show ¬ (z ≥ 0) by omega, w64s hi (show od.length ≤ 1000000000 by omega)]
        · have hz0 : 0 ≤ z ∧ z < l.length := by
            rcases lastOf_mem us (rd us t) (od.take i) (-1) with h | h
            · have : z = -1 := hz.trans h
              omega
            · exact hm z (List.mem_of_mem_take (by rw [hz]; exact h))
          have hsp := spec_follows (rd_T25 l z) (rd_T25 l t) turn
          have hfb : followsB (rd_T25 l z) (rd_T25 l t) turn = follB (rd_T25 l z) (rd_T25 l t) turn := by
            unfold followsB
            rw [htask _ hz0.1 hz0.2, htask _ h0 h1, htu]; rfl
          rw [hfb] at hsp
          have e : V = (follB (rd_T25 l z) (rd_T25 l t) turn && okAll l turn us (od.take (i + 1)) (od.drop (i + 1))) := by
            rw [hV]; unfold okStep; rw [c, ← hz, decide_eq_false c2]; simp
          rw [e]
          refine ev_at (f := fun k => if follB (rd_T25 l z) (rd_T25 l t) turn = true then spec_ChainOk.l0 k l turn us od ((i + 1 : Nat) : Int) else some false) ?_ (fun k => by simp only [spec_ChainOk.l1, Int.lt_irrefl, if_false, show z ≥ 0 by omega, if_true, hz0.2, show (i : Int) < (od.length : Int) by omega, show (0 : Int) ≤ (i : Int) by omega, hrd, h0, h1, hsp, Option.bind_some, w64s hi (show od.length ≤ 1000000000 by omega)])
          cases follB (rd_T25 l z) (rd_T25 l t) turn with
          | false => simpa using Ev.now false
          | true => simpa using ih
      have inner : ∀ j, j ≤ i → ∀ z : Int, ((od.take i).drop j).foldl (fun a t' => if rd us t' = rd us t then t' else a) z = lastOf us (od.take i) (rd us t) → Ev (fun k => spec_ChainOk.l1 k l turn us od (i : Int) z (j : Int)) V := by
        have hti : (od.take i).length = i := by rw [List.length_take]; omega
        refine down i (fun z hz => ?_) (fun j hj ih2 z hz => ?_)
        · rw [List.drop_of_length_le (by omega), List.foldl_nil] at hz
          rw [hz]; exact fin
        · obtain ⟨y, hy⟩ : ∃ y, y = od.getD j 0 := ⟨_, rfl⟩
          obtain ⟨y0, y1⟩ := hm y (by rw [hy]; exact getD_mem _ _ _ (by omega))
          have hrdj : rd od (j : Int) = y := by unfold rd; rw [Int.toNat_natCast, hy]
          have hyt : (od.take i).getD j 0 = y := by
            rw [hy, List.getD_eq_getElem?_getD, List.getD_eq_getElem?_getD, List.getElem?_take_of_lt hj]
          rw [drop_getD 0 _ j (by omega), hyt, List.foldl_cons] at hz
          by_cases c2 : rd us y = rd us t
          · rw [if_pos c2] at hz
            refine ev_at (ih2 y hz) (fun k => ?_)
            simp only [spec_ChainOk.l1, show (j : Int) < (i : Int) by omega, show (0 : Int) ≤ (j : Int) by omega, show (j : Int) < (od.length : Int) by omega, show (0 : Int) ≤ (i : Int) by omega, show (i : Int) < (od.length : Int) by omega, hrdj, hrd, y0, y1, h0, h1, hul, c2, if_true, w64s hj (show i ≤ 1000000000 by omega)]
          · rw [if_neg c2] at hz
            refine ev_at (ih2 z hz) (fun k => ?_)
            simp only [spec_ChainOk.l1, show (j : Int) < (i : Int) by omega, show (0 : Int) ≤ (j : Int) by omega, show (j : Int) < (od.length : Int) by omega, show (0 : Int) ≤ (i : Int) by omega, show (i : Int) < (od.length : Int) by omega, hrdj, hrd, y0, y1, h0, h1, hul, c2, if_true, if_false, w64s hj (show i ≤ 1000000000 by omega)]
      exact inner 0 (by omega) (-1) (by rw [List.drop_zero]; rfl)
/-- The program's array of last tasks. -/
theorem okAll_array (l : List S25) (turn : Int) (us : List Int) (hta : ∀ x, x ∈ l → taskB x = true) (htu : 0 ≤ turn ∧ turn ≤ 120) (hr : ∀ t : Int, 0 ≤ t → t < l.length → 0 ≤ rd us t ∧ rd us t ≤ 39) :
    ∀ (rest ts last : List Int), last.length = 40 → (∀ t, t ∈ ts ++ rest → 0 ≤ t ∧ t < l.length) → (∀ u : Int, 0 ≤ u → u ≤ 39 → rd last u = lastOf us ts u) → okAll l turn us ts rest = impl_ChainOk.l1 l turn us rest last
  | [], ts, last, _, _, _ => by rw [okAll, impl_ChainOk.l1]
  | t :: rest, ts, last, hl, hm, h => by
    obtain ⟨h0, h1⟩ := hm t (by simp)
    obtain ⟨r0, r1⟩ := hr t h0 h1
    rw [okAll, impl_ChainOk.l1, okStep, inB_iff.2 ⟨r0, r1⟩, Bool.true_and, h _ r0 r1]
    obtain ⟨z, hz⟩ : ∃ z, z = lastOf us ts (rd us t) := ⟨_, rfl⟩
    rw [← hz]
    have hnext : okAll l turn us (ts ++ [t]) rest = impl_ChainOk.l1 l turn us rest (last.set (rd us t).toNat t) := by
      refine okAll_array l turn us hta htu hr rest (ts ++ [t]) _ (by rw [List.length_set]; exact hl) (fun x hx => hm x (by simpa using hx)) (fun u u0 u1 => ?_)
      rw [lastOf_snoc]
      have := h u u0 u1
      unfold rd at this ⊢
      rw [List.getD_eq_getElem?_getD, List.getElem?_set]
      by_cases c : List.getD us t.toNat 0 = u
      · rw [if_pos (show (List.getD us t.toNat 0).toNat = u.toNat by rw [c]), if_pos (by have : (rd us t) = u := c; omega), if_pos c]; rfl
      · rw [if_neg c, if_neg (show ¬ (List.getD us t.toNat 0).toNat = u.toNat by have : rd us t = List.getD us t.toNat 0 := rfl; omega), ← List.getD_eq_getElem?_getD]
        exact this
    by_cases c : z < 0
    · rw [decide_eq_true c, if_neg (by omega), Bool.true_or, Bool.true_and, hnext]
    · have hz0 : 0 ≤ z ∧ z < l.length := by
        rcases lastOf_mem us (rd us t) ts (-1) with h | h
        · have : z = -1 := hz.trans h
          omega
        · exact hm z (List.mem_append_left _ (by rw [hz]; exact h))
      have ht : taskB (rd_T25 l z) = true := hta _ (by unfold rd_T25; exact getD_mem _ _ _ (by omega))
      rw [decide_eq_false c, Bool.false_or, l3_foll _ ht htu]
      cases follB (rd_T25 l z) (rd_T25 l t) turn with
      | true => rw [if_neg (by simp), Bool.true_and, hnext]
      | false => rw [if_pos ⟨by omega, rfl⟩, Bool.false_and]
theorem okAll_bad (l : List S25) (turn : Int) (us : List Int) : ∀ (rest ts : List Int), (∃ t, t ∈ rest ∧ inB (rd us t) 0 39 = false) → okAll l turn us ts rest = false
  | [], ts, ⟨t, ht, _⟩ => absurd ht (by simp)
  | x :: rest, ts, ⟨t, ht, hb⟩ => by
    rw [okAll]
    rcases List.mem_cons.1 ht with e | ht
    · have : okStep l turn us ts x = false := by unfold okStep; rw [← e, hb]; rfl
      rw [this]; rfl
    · rw [okAll_bad l turn us rest (ts ++ [x]) ⟨t, ht, hb⟩, Bool.and_false]
def chainB (l : List S25) (turn : Int) (us : List Int) : Bool := tasksB l && inB turn 0 120 && decide (us.length = l.length) && impl_ChainOk.l0 l turn us
theorem okAll_value (l : List S25) (turn : Int) (us : List Int) (hl : tasksB l = true) (htu : inB turn 0 120 = true) (hul : us.length = l.length) : okAll l turn us [] (impl_byDep.l0 l) = impl_ChainOk.l0 l turn us := by
  obtain ⟨h40, hta⟩ := tasksB_parts hl
  obtain ⟨f1, f2, f3⟩ := order_facts l
  unfold impl_ChainOk.l0
  cases c : us.all (fun u => decide (0 ≤ u) && decide (u ≤ 39)) with
  | true =>
    rw [Bool.true_and]
    rw [List.all_eq_true] at c
    refine okAll_array l turn us hta (inB_iff.1 htu) (fun t h0 h1 => ?_) _ [] _ (by simp) (fun t ht => f2 t (by simpa using ht)) (fun u u0 u1 => ?_)
    · have := c (rd us t) (by unfold rd; exact getD_mem _ _ _ (by omega))
      simpa using this
    · unfold rd lastOf
      rw [List.getD_eq_getElem?_getD, List.getElem?_replicate, if_pos (by omega)]; rfl
  | false =>
    rw [Bool.false_and]
    refine okAll_bad l turn us _ _ ?_
    rw [List.all_eq_false] at c
    obtain ⟨u, hu, hb⟩ := c
    obtain ⟨i, hi, e⟩ := List.mem_iff_getElem.1 hu
    refine ⟨(i : Int), ?_, ?_⟩
    · rw [ord_map]
      exact List.mem_map.2 ⟨i, (ord_mem l i).2 (by omega), rfl⟩
    · have e2 : rd us (i : Int) = u := by unfold rd; rw [Int.toNat_natCast, List.getD_eq_getElem?_getD, List.getElem?_eq_getElem hi, ← e]; rfl
      rw [e2]
      unfold inB
      simpa using hb
theorem turn_ok' (turn : Int) : impl_turnOk.f turn = some (inB turn 0 120) := by unfold impl_turnOk.f; rw [between]; rfl
theorem spec_chainB (l : List S25) (turn : Int) (us : List Int) (h : l.length ≤ 1048576) : Ev (fun k => spec_ChainOk.f k l turn us) (chainB l turn us) := by
  unfold spec_ChainOk.f chainB
  refine Ev.bind (spec_tasks l h) ?_
  cases hl : tasksB l with
  | false =>
    simp only [Bool.false_eq_true, if_false, Bool.false_and]
    exact ev_some (fun k => by simp [spec_ChainOk.j0])
  | true =>
    cases htu : inB turn 0 120 with
    | false =>
      simp only [if_true, spec_l16Turn.f, l01In, htu, Option.bind_some, Bool.false_eq_true, if_false, Bool.and_false, Bool.false_and]
      exact ev_some (fun k => by simp [spec_ChainOk.j0])
    | true =>
      simp only [if_true, spec_l16Turn.f, l01In, htu, Option.bind_some, Bool.true_and]
      by_cases c : us.length = l.length
      · rw [decide_eq_true c, Bool.true_and, ← okAll_value l turn us hl htu c]
        have e : ((us.length : Int) != (l.length : Int)) = false := by rw [c]; simp
        rw [e]
        obtain ⟨h40, hta⟩ := tasksB_parts hl
        obtain ⟨f1, f2, f3⟩ := order_facts l
        refine ev_at (f := fun k => (spec_l16Order.f k l).bind fun t => spec_ChainOk.l0 k l turn us t 0) ?_ (fun k => by simp [spec_ChainOk.j0])
        refine Ev.bind (spec_order l (by omega)) ?_
        have := spec_okAll l turn us (impl_byDep.l0 l) hl htu c f1 f2 0 (by omega)
        simpa using this
      · rw [decide_eq_false c, Bool.false_and]
        have e : ((us.length : Int) != (l.length : Int)) = true := by simp; omega
        rw [e]
        exact ev_some (fun k => by simp [spec_ChainOk.j0])
theorem impl_chainB (l : List S25) (turn : Int) (us : List Int) (h : l.length ≤ 1048576) : Ev (fun k => impl_ChainOk.f k l turn us) (chainB l turn us) := by
  unfold impl_ChainOk.f chainB
  refine Ev.bind (impl_tasks l h) ?_
  cases hl : tasksB l with
  | false => simpa using Ev.now false
  | true =>
    cases htu : inB turn 0 120 with
    | false => simpa [turn_ok', htu] using Ev.now false
    | true =>
      simp only [if_true, turn_ok', htu, Option.bind_some, Bool.true_and]
      by_cases c : us.length = l.length
      · simp only [c, if_true, decide_true, Bool.true_and]; exact Ev.now _
      · simp only [c, if_false, decide_false, Bool.false_and]; exact Ev.now _
end Go.Proofs.Ytoalolbifakpiaa.Pure
