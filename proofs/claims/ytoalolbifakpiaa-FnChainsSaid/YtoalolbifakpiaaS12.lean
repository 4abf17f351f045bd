/- Rows of rows of one's own that lie apart: what chains keeps of its units. -/
import Derived.Test.YtoalolbifakpiaaS11
namespace Go.Proofs.Ytoalolbifakpiaa.P
open Go.Proofs Go.Shelf Go.RowKit Go.Proofs.YtoalolbifakpiaaW.PrintWords Go.Proofs.YtoalolbifakpiaaW.PrintLast Go.Proofs.YtoalolbifakpiaaW.PrintMore
set_option linter.unusedVariables false
set_option linter.unusedSimpArgs false

def chv (p : Nat × Nat × Nat) : Value := .slice (some ⟨p.1, 0, none⟩) p.2.1 p.2.2
def chz : Nat × Nat × Nat := (0, 0, 0)
def chk : Kd (Nat × Nat × Nat) := Kd.scalar chv (fun _ => rfl)
def chl (us : List (List Int)) (u : Nat) : List Int := us.getD u []
/-- The units' rows: an outer row of slices, each one a row of its own; ob: a row that is none of them. -/
structure Ch (W : World) (base : Nat) (ob : Option Nat) (v : Value) (ps : List (Nat × Nat × Nat)) (us : List (List Int)) : Prop where
  outer : Kd.R chk 39 W base (fun _ => True) v ps
  len : ps.length = us.length
  inner : ∀ u, u < us.length → Kd.R (Kd.int .i64) 3 W base (fun k => k = (ps.getD u chz).1) (chv (ps.getD u chz)) (chl us u) ∧ chl us u ≠ [] ∧ some (ps.getD u chz).1 ≠ ob
  apart : ∀ u u', u < us.length → u' < us.length → (ps.getD u chz).1 = (ps.getD u' chz).1 → u = u'
theorem ch_nil {W : World} {base : Nat} {ob : Option Nat} {v : Value} (h : Kd.R chk 39 W base (fun _ => True) v []) : Ch W base ob v [] [] :=
  ⟨h, rfl, fun u hu => absurd hu (by simp), fun u u' hu => absurd hu (by simp)⟩
theorem ch_below {W W' : World} {base : Nat} {ob : Option Nat} {v : Value} {ps : List (Nat × Nat × Nat)} {us : List (List Int)} (h : Ch W base ob v ps us) (hb : Below W.heap.size W W') : Ch W' base ob v ps us :=
  ⟨Kd.R_below h.outer hb, h.len, fun u hu => ⟨Kd.R_below (h.inner u hu).1 hb, (h.inner u hu).2⟩, h.apart⟩
theorem ch_typed {W : World} {base : Nat} {ob : Option Nat} {v : Value} {ps : List (Nat × Nat × Nat)} {us : List (List Int)} (h : Ch W base ob v ps us) (u : Nat) (hu : u < us.length) : ∃ cells, W.heap[(ps.getD u chz).1]? = some (.cells cells 3 (0, 0)) :=
  own_typed (Kd.own_of_R (h.inner u hu).1) _ rfl
theorem ch_oty {W : World} {base : Nat} {ob : Option Nat} {v : Value} {ps : List (Nat × Nat × Nat)} {us : List (List Int)} (h : Ch W base ob v ps us) (k : Nat) (hk : v.ownBlock = some k) : base ≤ k ∧ ∃ cells, W.heap[k]? = some (.cells cells 39 (0, 0)) :=
  ⟨own_base (Kd.own_of_R h.outer) k hk, own_typed (Kd.own_of_R h.outer) k hk⟩
theorem ch_at {W : World} {base : Nat} {ob : Option Nat} {v : Value} {ps : List (Nat × Nat × Nat)} {us : List (List Int)} (h : Ch W base ob v ps us) (u : Nat) (hu : u < us.length) :
    ∃ g cap gu cu, v = .slice (some ⟨g, 0, none⟩) us.length cap ∧ base ≤ g ∧ (∃ cells, W.heap[g]? = some (.cells cells 39 (0, 0))) ∧ ps.getD u chz = (gu, (chl us u).length, cu) ∧
      W.cell? ⟨g, u, none⟩ = some (.slice (some ⟨gu, 0, none⟩) (chl us u).length cu) ∧ W.frozen? ⟨g, u, none⟩ = false ∧
      W.cell? ⟨gu, (chl us u).length - 1, none⟩ = some (.int .i64 (rd (chl us u) ((chl us u).length - 1 : Nat))) ∧ 0 < (chl us u).length := by
  obtain ⟨g, cap, rfl, h1, h2, h3⟩ := Kd.R_form h.outer (by rw [h.len]; omega)
  obtain ⟨i1, i2, i3⟩ := h.inner u hu
  obtain ⟨q, hq⟩ : ∃ q, q = ps.getD u chz := ⟨_, rfl⟩
  rw [← hq] at i1
  have hl := h.len
  have hlen : q.2.1 = (chl us u).length := (Kd.R_reads' i1).1
  have hpos : 0 < (chl us u).length := List.length_pos_iff.2 i2
  have hc := Kd.R_celln chz h.outer (u : Int) (by omega) (by rw [h.len]; omega)
  rw [Int.toNat_natCast] at hc
  have hr : rdOf chz ps (u : Int) = q := by unfold rdOf; rw [Int.toNat_natCast, hq]
  rw [hr] at hc
  have hi : Kd.R (Kd.int .i64) 3 W base (fun k => k = q.1) (.slice (some ⟨q.1, 0, none⟩) (chl us u).length q.2.2) (chl us u) := by rw [← hlen]; exact i1
  have hci := Kd.R_celln 0 hi (((chl us u).length - 1 : Nat) : Int) (by omega) (by omega)
  rw [Int.toNat_natCast] at hci
  refine ⟨g, cap, q.1, q.2.2, by rw [hl], h1, h3, by rw [← hq, ← hlen], by rw [hc.1, chv, hlen], hc.2, hci.1, hpos⟩
theorem ch_getD_set (ps : List (Nat × Nat × Nat)) (u j : Nat) (p : Nat × Nat × Nat) (hu : u < ps.length) : (ps.set u p).getD j chz = if u = j then p else ps.getD j chz := by
  rw [List.getD_eq_getElem?_getD, List.getElem?_set]
  by_cases e : u = j
  · rw [if_pos e, if_pos e, if_pos hu]; rfl
  · rw [if_neg e, if_neg e, ← List.getD_eq_getElem?_getD]
theorem ch_chl_set (us : List (List Int)) (u j : Nat) (x : List Int) (hu : u < us.length) : chl (us.set u x) j = if u = j then x else chl us j := by
  unfold chl
  rw [List.getD_eq_getElem?_getD, List.getElem?_set]
  by_cases e : u = j
  · rw [if_pos e, if_pos e, if_pos hu]; rfl
  · rw [if_neg e, if_neg e, ← List.getD_eq_getElem?_getD]
/-- Behind an append to the inner row u, and the store of what it gave. -/
theorem ch_app {W w1 : World} {base : Nat} {ob : Option Nat} {g cap : Nat} {ps : List (Nat × Nat × Nat)} {us : List (List Int)} (hob : ∀ k, ob = some k → k < W.heap.size) (h : Ch W base ob (.slice (some ⟨g, 0, none⟩) us.length cap) ps us) (u : Nat) (hu : u < us.length) (x : Int) (v1 : Value)
    (hr : Kd.R (Kd.int .i64) 3 w1 base (fun k => k = (ps.getD u chz).1 ∨ W.heap.size ≤ k) v1 (chl us u ++ [x])) (hg : W.grownBy w1 (some (ps.getD u chz).1)) :
    ∃ p', Ch (w1.setCell ⟨g, u, none⟩ v1) base ob (.slice (some ⟨g, 0, none⟩) us.length cap) (ps.set u p') (us.set u (chl us u ++ [x])) := by
  obtain ⟨g1, c1, rfl, hb1, hl1, ty1⟩ := Kd.R_form hr (by simp)
  have hne : ∀ j, j < us.length → (ps.getD j chz).1 ≠ g := fun j hj e => by
    obtain ⟨c, hc⟩ := ch_typed h j hj
    obtain ⟨_, c', hc'⟩ := ch_oty h g rfl
    rw [e, hc'] at hc
    simp at hc
  have hg1 : g1 = (ps.getD u chz).1 ∨ W.heap.size ≤ g1 := hr.1 g1 rfl
  have hgl : g < W.heap.size := by obtain ⟨_, c', hc'⟩ := ch_oty h g rfl; exact blk_lt hc'
  have hg1g : g1 ≠ g := by
    rcases hg1 with e | e
    · rw [e]; exact hne u hu
    · omega
  have hl := h.len
  refine ⟨(g1, (chl us u ++ [x]).length, c1), ?_, by simp [hl], fun j hj => ?_, fun j j' hj hj' => ?_⟩
  · have ho : Kd.R chk 39 w1 base (fun k => k = g) (.slice (some ⟨g, 0, none⟩) us.length cap) ps := by
      refine Kd.R_step (ok := fun k => k = g) ⟨fun k hk => by simpa [Value.ownBlock] using hk.symm, ?_⟩ (fun k hk hlt => hg.block k hlt ?_)
      · obtain ⟨_, i, ho, hr⟩ := h.outer
        exact ⟨i, ho, hr⟩
      · rw [hk]; intro e; exact hne u hu (Option.some.inj e).symm
    have := (Kd.R_putg ho (u : Int) (g1, (chl us u ++ [x]).length, c1)).1
    rw [Int.toNat_natCast] at this
    exact Kd.R_mono this (fun _ _ => trivial)
  · rw [List.length_set] at hj
    rw [ch_getD_set _ _ _ _ (by omega), ch_chl_set _ _ _ _ hu]
    by_cases e : u = j
    · rw [if_pos e, if_pos e]
      refine ⟨?_, by simp, ?_⟩
      · refine Kd.R_far (p := ⟨g, u, none⟩) ?_ (fun k hk => ?_) _
        · refine ⟨fun k hk => ?_, ?_⟩
          · simpa [chv, Value.ownBlock] using hk.symm
          · obtain ⟨_, i, ho, hr'⟩ := hr
            exact ⟨i, ho, hr'⟩
        · subst hk; exact hg1g
      · rcases hg1 with e1 | e1
        · show some g1 ≠ ob
          rw [e1]; exact (h.inner u hu).2.2
        · intro e2
          have := hob g1 e2.symm
          omega
    · rw [if_neg e, if_neg e]
      refine ⟨?_, (h.inner j hj).2.1, (h.inner j hj).2.2⟩
      refine Kd.R_far (p := ⟨g, u, none⟩) ?_ (fun k hk => ?_) _
      · exact Kd.R_grown (h.inner j hj).1 hg (fun k hk e2 => by
          rw [hk] at e2
          exact e (h.apart j u hj hu (Option.some.inj e2)).symm)
      · rw [hk]; exact hne j hj
  · rw [List.length_set] at hj hj'
    rw [ch_getD_set _ _ _ _ (by omega), ch_getD_set _ _ _ _ (by omega)]
    have key : ∀ i, i < us.length → u ≠ i → g1 ≠ (ps.getD i chz).1 := fun i hi hne e => by
      rcases hg1 with e1 | e1
      · rw [e1] at e; exact hne (h.apart u i hu hi e)
      · obtain ⟨c, hc⟩ := ch_typed h i hi
        have := blk_lt hc
        omega
    by_cases e : u = j
    · rw [if_pos e]
      by_cases e' : u = j'
      · intro _; omega
      · rw [if_neg e']; exact fun e2 => absurd e2 (key j' hj' e')
    · rw [if_neg e]
      by_cases e' : u = j'
      · rw [if_pos e']; exact fun e2 => absurd e2.symm (key j hj e)
      · rw [if_neg e']; exact h.apart j j' hj hj'
theorem ch_getD_app (ps : List (Nat × Nat × Nat)) (j : Nat) (p : Nat × Nat × Nat) (hj : j < ps.length + 1) : (ps ++ [p]).getD j chz = if j = ps.length then p else ps.getD j chz := by
  rw [List.getD_eq_getElem?_getD]
  by_cases e : j = ps.length
  · rw [if_pos e, e]; simp
  · rw [if_neg e, List.getElem?_append_left (by omega), ← List.getD_eq_getElem?_getD]
theorem ch_chl_app (us : List (List Int)) (j : Nat) (x : List Int) (hj : j < us.length + 1) : chl (us ++ [x]) j = if j = us.length then x else chl us j := by
  unfold chl
  rw [List.getD_eq_getElem?_getD]
  by_cases e : j = us.length
  · rw [if_pos e, e]; simp
  · rw [if_neg e, List.getElem?_append_left (by omega), ← List.getD_eq_getElem?_getD]
/-- Behind a new inner row (in w1) and its append to the outer one. -/
theorem ch_push {W w1 w2 : World} {base : Nat} {ob : Option Nat} {v v2 : Value} {ps : List (Nat × Nat × Nat)} {us : List (List Int)} (hob : ∀ k, ob = some k → k < W.heap.size) (h : Ch W base ob v ps us) (x : Int) (p : Nat × Nat × Nat) (hB : base ≤ W.heap.size)
    (hb : Below W.heap.size W w1) (hr : Kd.R (Kd.int .i64) 3 w1 W.heap.size (fun _ => True) (chv p) [x]) (ho : Kd.R chk 39 w2 base (fun _ => True) v2 (ps ++ [p])) (hg : w1.grownBy w2 v.ownBlock) :
    Ch w2 base ob v2 (ps ++ [p]) (us ++ [[x]]) := by
  have h1 := ch_below h hb
  have hpb : W.heap.size ≤ p.1 := own_base (Kd.own_of_R hr) p.1 rfl
  obtain ⟨pc, hpc⟩ := own_typed (Kd.own_of_R hr) p.1 rfl
  have hne : ∀ q, (∃ cells, w1.heap[q]? = some (.cells cells 3 (0, 0))) → some q ≠ v.ownBlock := fun q hq e => by
    obtain ⟨c, hc⟩ := hq
    obtain ⟨_, c', hc'⟩ := ch_oty h1 q e.symm
    rw [hc'] at hc
    simp at hc
  have hl := h.len
  refine ⟨ho, by simp [hl], fun j hj => ?_, fun j j' hj hj' => ?_⟩
  · rw [List.length_append, List.length_singleton] at hj
    rw [ch_getD_app _ _ _ (by omega), ch_chl_app _ _ _ (by omega), hl]
    by_cases e : j = us.length
    · rw [if_pos e, if_pos e]
      refine ⟨?_, by simp, fun e2 => by have := hob p.1 e2.symm; omega⟩
      refine Kd.R_grown (ok := fun k => k = p.1) ?_ hg (fun k hk => by rw [hk]; exact hne p.1 ⟨pc, hpc⟩)
      refine ⟨fun k hk => by simpa [chv, Value.ownBlock] using hk.symm, ?_⟩
      obtain ⟨_, i, ho', hr'⟩ := Kd.R_lower hr hB
      exact ⟨i, ho', hr'⟩
    · rw [if_neg e, if_neg e]
      have := h1.inner j (by omega)
      exact ⟨Kd.R_grown this.1 hg (fun k hk => by rw [hk]; exact hne _ (ch_typed h1 j (by omega))), this.2⟩
  · rw [List.length_append, List.length_singleton] at hj hj'
    rw [ch_getD_app _ _ _ (by omega), ch_getD_app _ _ _ (by omega), hl]
    have key : ∀ i, i < us.length → p.1 ≠ (ps.getD i chz).1 := fun i hi e => by
      obtain ⟨c, hc⟩ := ch_typed h i hi
      have := blk_lt hc
      omega
    by_cases e : j = us.length
    · rw [if_pos e]
      by_cases e' : j' = us.length
      · intro _; omega
      · rw [if_neg e']; exact fun e2 => absurd e2 (key j' (by omega))
    · rw [if_neg e]
      by_cases e' : j' = us.length
      · rw [if_pos e']; exact fun e2 => absurd e2.symm (key j (by omega))
      · rw [if_neg e']; exact h.apart j j' (by omega) (by omega)
theorem ch_idx : ∀ (ps : List (Nat × Nat × Nat)) (j : Nat), j < ps.length → (∀ u u', u < ps.length → u' < ps.length → (ps.getD u chz).1 = (ps.getD u' chz).1 → u = u') → ps.findIdx (fun p => p.1 == (ps.getD j chz).1) = j := by
  intro ps j hj h
  rw [List.findIdx_eq hj]
  have g : ∀ u (hu : u < ps.length), ps.getD u chz = ps[u] := fun u hu => by rw [List.getD_eq_getElem?_getD, List.getElem?_eq_getElem hu]; rfl
  refine ⟨by rw [g j hj]; simp, fun i hi => ?_⟩
  have := h i j (by omega) hj
  rw [g i (by omega)] at this
  rw [beq_eq_false_iff_ne]
  intro e
  have := this e
  omega
/-- The units' rows as rows of rows that lie apart. -/
theorem ch_rows {W : World} {base : Nat} {ob : Option Nat} {v : Value} {ps : List (Nat × Nat × Nat)} {us : List (List Int)} (h : Ch W base ob v ps us) : Kd.S (Kd.slice 3 (Kd.int .i64)) 39 W base (fun _ => True) v us := by
  refine ⟨fun k => ps.findIdx (fun p => p.1 == k), fun _ _ => trivial, encs chv ps, ?_, ?_⟩
  · have := Kd.own_of_R h.outer
    rw [h.len] at this
    rw [List.length_zipIdx]
    exact this
  · have hl := h.len
    refine ⟨by simp [encs, hl, Kd.slice, Kd.tag], fun j p hj => ?_⟩
    rw [List.getElem?_zipIdx, Option.map_eq_some_iff] at hj
    obtain ⟨x, hx, rfl⟩ := hj
    have hjl : j < us.length := (List.getElem?_eq_some_iff.1 hx).1
    have hp : chl us j = x := by unfold chl; rw [List.getD_eq_getElem?_getD, hx]; rfl
    obtain ⟨i1, i2, i3⟩ := h.inner j hjl
    rw [hp] at i1
    obtain ⟨c, hc⟩ := ch_typed h j hjl
    refine ⟨chv (ps.getD j chz), ?_, Kd.R_mono i1 (fun k hk => ⟨⟨trivial, fun e => ?_⟩, ?_⟩)⟩
    · apply List.ext_getElem?
      intro m
      simp only [Kd.slice, Kd.tag]
      rw [List.getElem?_take]
      by_cases e : m = 0
      · subst e
        simp [encs, List.getElem?_drop, List.getD_eq_getElem?_getD, show j < ps.length by omega]
      · rw [if_neg (by omega), List.getElem?_eq_none (by simp; omega)]
    · obtain ⟨_, c', hc'⟩ := ch_oty h k e.symm
      rw [hk, hc] at hc'
      simp at hc'
    · show ps.findIdx (fun p => p.1 == k) = 0 + j
      rw [hk, ch_idx ps j (by omega) (by rw [hl]; exact h.apart)]
      omega
end Go.Proofs.Ytoalolbifakpiaa.P
