/- The law FnSplit, over lists and numbers alone: a split costs what its tickets cost, never more than one ticket or than any cut into two. -/
import Derived.Test.YtcihaeggjfpacaaS3
namespace Go.Proofs.Ytcihaeggjfpacaa.Pure
open Go.RowKit Go.Proofs.Ytcihaeggjfpacaa.P Go.Proofs.YtcihaeggjfpacaaW.PrintWords Go.Proofs.YtcihaeggjfpacaaW.PrintLast

section
variable {b s : Int} {j : List Int} {r : Int} {stops : List Int} {cards : List S57} {minute : Int} {L : Nat}
theorem same_ints (l : List Int) (h : l.length ≤ 1048576) : Ev (fun k => laws_sameInts.f k l l) true := by
  have key := ev_true l.length (fun k i => laws_sameInts.l0 k l l i) (fun k => by simp [laws_sameInts.l0]) (fun k i hi => by simp [laws_sameInts.l0, w64s hi (by omega), hi])
  simpa [laws_sameInts.f] using key
/-- One ticket of the walk is paid. -/
theorem law_step (H : Rg b s j r stops cards minute L) {res : Bool} {d i : Nat} {pre : List Int} (hi : i < L) (hd : L - nxt (prc b s j r stops cards minute) L i ≤ d) (hpre : pre.length ≤ i)
    (hr : Ev (fun k => laws_FnSplit.l1 k cards stops minute (cst (prc b s j r stops cards minute) L 0) (pre ++ wlk (prc b s j r stops cards minute) L d (nxt (prc b s j r stops cards minute) L i)) (cst (prc b s j r stops cards minute) L 0) 1 b s j r) res)
    (next : nxt (prc b s j r stops cards minute) L i < L → Ev (fun k => laws_FnSplit.l0 k cards stops minute (cst (prc b s j r stops cards minute) L 0) (pre ++ wlk (prc b s j r stops cards minute) L d (nxt (prc b s j r stops cards minute) L i)) (cst (prc b s j r stops cards minute) L 0 - cst (prc b s j r stops cards minute) L (nxt (prc b s j r stops cards minute) L i)) (nxt (prc b s j r stops cards minute) L i) ((pre.length + 1 : Nat) : Int) b s j r) res) :
    Ev (fun k => laws_FnSplit.l0 k cards stops minute (cst (prc b s j r stops cards minute) L 0) (pre ++ wlk (prc b s j r stops cards minute) L d (nxt (prc b s j r stops cards minute) L i)) (cst (prc b s j r stops cards minute) L 0 - cst (prc b s j r stops cards minute) L i) i pre.length b s j r) res := by
  have hn := H.nums
  have hl := H.len
  obtain ⟨h1, h2, h3, h4, _, _⟩ := nxt_is H.hP hi
  have hb0 := cst_b H.hP (show 0 ≤ L by omega)
  have hbi := cst_b H.hP (show i ≤ L by omega)
  have hbt := cst_b H.hP h2
  have hp := H.prc (x := i) (y := nxt (prc b s j r stops cards minute) L i) (by omega) h2
  have hend := cst_end (L := L) H.hP
  obtain ⟨t, ht⟩ : ∃ t, nxt (prc b s j r stops cards minute) L i = t := ⟨_, rfl⟩
  rw [ht] at h1 h2 h4 hbt hp hd hr next ⊢
  clear h3
  have hwl := wlk_len (prc b s j r stops cards minute) L d t
  obtain ⟨W, hW⟩ : ∃ W, wlk (prc b s j r stops cards minute) L d t = W := ⟨_, rfl⟩
  have hhead : t < L → ∃ W', W = (t : Int) :: W' := fun h => by
    rw [← hW]
    obtain ⟨d', rfl⟩ : ∃ d', d = d' + 1 := ⟨d - 1, by omega⟩
    exact ⟨_, by simp only [wlk, h, if_true]; rfl⟩
  have hnil : ¬ t < L → W = [] := fun h => by
    rw [← hW, show t = L by omega]
    exact wlk_end _ _ _
  rw [hW] at hr next ⊢
  have e1 : (pre ++ W).length = pre.length + W.length := List.length_append
  /- behind the ticket -/
  have go : Ev (fun k => laws_FnSplit.l0 k cards stops minute (cst (prc b s j r stops cards minute) L 0) (pre ++ W) (cst (prc b s j r stops cards minute) L 0 - cst (prc b s j r stops cards minute) L t) t ((pre.length + 1 : Nat) : Int) b s j r) res := by
    by_cases htl : t < L
    · exact next htl
    · have htL : t = L := by omega
      rw [htL, hend, Int.sub_zero]
      have e2 : W.length = 0 := by rw [hnil htl]; rfl
      have c1 : ¬ (((pre.length + 1 : Nat) : Int) ≤ (pre ++ W).length) := by omega
      exact ev_at hr (fun k => by simp only [laws_FnSplit.l0, if_neg c1])
  have hiL : i ≤ L := by omega
  have f1 : (pre.length : Int) ≤ (pre ++ W).length := by omega
  have g1 : ¬ (t : Int) ≤ i := by omega
  have g2 : ¬ (t : Int) ≥ stops.length := by omega
  have g3 : ¬ (t : Int) < i := by omega
  have g4 : (0 : Int) ≤ i := by omega
  have g5 : (i : Int) < stops.length := by omega
  have g6 : (0 : Int) ≤ t := by omega
  have g7 : (t : Int) < stops.length := by omega
  have hb1 : -9223372036854775808 ≤ cst (prc b s j r stops cards minute) L 0 - cst (prc b s j r stops cards minute) L i + prc b s j r stops cards minute i t ∧ cst (prc b s j r stops cards minute) L 0 - cst (prc b s j r stops cards minute) L i + prc b s j r stops cards minute i t ≤ 9223372036854775807 := by omega
  have hb2 : cst (prc b s j r stops cards minute) L 0 - cst (prc b s j r stops cards minute) L i + prc b s j r stops cards minute i t = cst (prc b s j r stops cards minute) L 0 - cst (prc b s j r stops cards minute) L t := by omega
  have hb3 : pre.length < pre.length + 1 ∧ pre.length + 1 ≤ 1000000000 := by omega
  have hto : (t : Int) = if (pre.length : Int) < ((pre ++ W).length : Int) then rd (pre ++ W) (pre.length : Int) else (L : Int) := by
    by_cases htl : t < L
    · obtain ⟨W', hW'⟩ := hhead htl
      have e4 : W.length = W'.length + 1 := by rw [hW']; rfl
      rw [if_pos (by omega), hW', rdn]
      simp [List.getD_eq_getElem?_getD]
    · have e4 : W.length = 0 := by rw [hnil htl]; rfl
      rw [if_neg (by omega)]
      omega
  have hcase : (pre.length : Int) < ((pre ++ W).length : Int) ∨ ¬ (pre.length : Int) < ((pre ++ W).length : Int) := Classical.em _
  have hv1 := w64 hb1.1 hb1.2
  have hy1 := w64s hb3.1 hb3.2
  have j3 : Ev (fun k => laws_FnSplit.j3 k cards stops minute (cst (prc b s j r stops cards minute) L 0) (pre ++ W) (cst (prc b s j r stops cards minute) L 0 - cst (prc b s j r stops cards minute) L i) i pre.length t false b s j r) res := by
    refine ev_at (impl_prc_all H (x := i) (y := t) hiL h2 (f := fun k t620 => laws_FnSplit.l0 k cards stops minute (cst (prc b s j r stops cards minute) L 0) (pre ++ W) (wrap64 (cst (prc b s j r stops cards minute) L 0 - cst (prc b s j r stops cards minute) L i + t620)) t ((pre.length + 1 : Nat) : Int) b s j r) ?_)
      (fun k => by simp only [laws_FnSplit.j3, Bool.false_eq_true, if_false, if_pos g4, if_pos g5, if_pos g6, if_pos g7, rdn, hy1])
    rw [hv1, hb2]
    exact go
  have j2 : Ev (fun k => laws_FnSplit.j2 k cards stops minute (cst (prc b s j r stops cards minute) L 0) (pre ++ W) (cst (prc b s j r stops cards minute) L 0 - cst (prc b s j r stops cards minute) L i) i pre.length t b s j r) res :=
    ev_at j3 (fun k => by simp only [laws_FnSplit.j2, if_neg g1, if_neg g2, decide_eq_false g3])
  refine ev_at j2 (fun k => ?_)
  have e0 : wrap64 ((stops.length : Int) - 1) = (L : Int) := by rw [w64 (by clear hv1 hy1; omega) (by clear hv1 hy1; omega)]; clear hv1 hy1; omega
  have g8 : (0 : Int) ≤ pre.length := by clear hv1 hy1 e0; omega
  simp only [laws_FnSplit.l0, if_pos f1, e0]
  rcases hcase with hc | hc
  · rw [if_pos hc] at hto
    rw [if_pos hc, if_pos g8, ← hto]
  · rw [if_neg hc] at hto
    rw [if_neg hc, ← hto]
theorem law_l0 (H : Rg b s j r stops cards minute L) {res : Bool} : ∀ (d i : Nat) (pre : List Int), i < L → L - nxt (prc b s j r stops cards minute) L i ≤ d → pre.length ≤ i →
    Ev (fun k => laws_FnSplit.l1 k cards stops minute (cst (prc b s j r stops cards minute) L 0) (pre ++ wlk (prc b s j r stops cards minute) L d (nxt (prc b s j r stops cards minute) L i)) (cst (prc b s j r stops cards minute) L 0) 1 b s j r) res →
    Ev (fun k => laws_FnSplit.l0 k cards stops minute (cst (prc b s j r stops cards minute) L 0) (pre ++ wlk (prc b s j r stops cards minute) L d (nxt (prc b s j r stops cards minute) L i)) (cst (prc b s j r stops cards minute) L 0 - cst (prc b s j r stops cards minute) L i) i pre.length b s j r) res := by
  have hn := H.nums
  have hl := H.len
  intro d
  induction d with
  | zero =>
    intro i pre hi hd hp hr
    exact law_step H hi hd hp hr (fun h => by omega)
  | succ d ihd =>
    intro i pre hi hd hp hr
    refine law_step H hi hd hp hr (fun h => ?_)
    have h0 := (nxt_is H.hP hi).1
    have h1 := (nxt_is H.hP h).1
    have e : wlk (prc b s j r stops cards minute) L (d + 1) (nxt (prc b s j r stops cards minute) L i) = (nxt (prc b s j r stops cards minute) L i : Int) :: wlk (prc b s j r stops cards minute) L d (nxt (prc b s j r stops cards minute) L (nxt (prc b s j r stops cards minute) L i)) := by
      simp only [wlk, h, if_true]
    have ih := ihd (nxt (prc b s j r stops cards minute) L i) (pre ++ [(nxt (prc b s j r stops cards minute) L i : Int)]) h (by omega) (by simp; omega)
    rw [List.append_assoc, List.singleton_append, ← e] at ih
    have e2 : ((pre ++ [(nxt (prc b s j r stops cards minute) L i : Int)]).length : Int) = ((pre.length + 1 : Nat) : Int) := by simp
    rw [e2] at ih
    exact ih hr
end

theorem FnSplit : laws_FnSplit.Pure := by
  intro l hl0 _ hw
  refine Ev.rounds ?_
  unfold laws_FnSplit.f
  by_cases hbig : (l.length : Int) > 1048576
  · simp only [big_true hbig, Option.bind_some, if_true]
    exact Ev.now true
  have hl : l.length ≤ 1048576 := by omega
  simp only [big_false hbig, Option.bind_some, Bool.false_eq_true, if_false]
  refine evp_true (evp_bind (draw_tariff l hl) (fun x hx => ?_))
  obtain ⟨b, s, j, r, cards, stops, minute⟩ := x
  obtain ⟨ht, hc, hs, hm0, hm1⟩ := hx
  simp only at ht hc hs hm0 hm1 ⊢
  have hst := (stopsOk_parts hs).1
  obtain ⟨L, hL⟩ : ∃ L, stops.length = L + 1 := ⟨stops.length - 1, by omega⟩
  have H : Rg b s j r stops cards minute L := ⟨ht, hc, hs, ⟨hm0, by omega⟩, hL⟩
  have hn := H.nums
  have hP := H.hP
  refine evp_of (r := true) ?_ rfl
  refine Ev.bind (impl_split H) ?_
  refine Ev.bind (impl_through b s j r stops cards minute hn.2.2.2 hn.2.2.1 (by omega)) ?_
  rw [through_prc H]
  have hb := cst_b hP (show 0 ≤ L by omega)
  have hone := ((nxt_is hP (show 0 < L by omega)).2.2.2.2.2 L (by omega) (Nat.le_refl _)).1
  rw [cst_end hP] at hone
  have c1 : ¬ cst (prc b s j r stops cards minute) L 0 < 0 := by omega
  have c2 : ¬ cst (prc b s j r stops cards minute) L 0 > prc b s j r stops cards minute 0 L := by omega
  have c3 : (0 : Int) < stops.length := by omega
  have e1 : wrap64 ((stops.length : Int) - 1) = (L : Int) := by rw [w64 (by omega) (by omega)]; omega
  have c4 : (0 : Int) ≤ L := by clear e1; omega
  have c5 : (L : Int) < stops.length := by clear e1; omega
  have er0 : rd stops 0 = stops.getD 0 0 := rdn stops 0
  simp only [splitV, if_neg c1, if_neg c2, e1, if_pos c3, if_pos c4, if_pos c5, rdn, er0]
  refine impl_prc_all H (x := 0) (y := L) (Nat.zero_le _) (Nat.le_refl _) (f := fun k t => laws_FnSplit.j0 k cards stops minute (cst (prc b s j r stops cards minute) L 0) (wlk (prc b s j r stops cards minute) L L (nxt (prc b s j r stops cards minute) L 0)) (prc b s j r stops cards minute 0 L != t) b s j r) ?_
  rw [bne_self_eq_false]
  have hlen := wlk_len (prc b s j r stops cards minute) L L (nxt (prc b s j r stops cards minute) L 0)
  /- the end: the reference tells the same -/
  have fin : Ev (fun k => (spec_Split.f k b s j r stops cards minute).bind fun bt621 => if cst (prc b s j r stops cards minute) L 0 = cst (prc b s j r stops cards minute) L 0 then if bt621.1 = cst (prc b s j r stops cards minute) L 0 then (laws_sameInts.f k bt621.2 (wlk (prc b s j r stops cards minute) L L (nxt (prc b s j r stops cards minute) L 0))).bind fun t625 => some t625 else some false else some false) true := by
    refine Ev.bind (spec_split H) ?_
    simp only [splitV, if_true]
    exact Ev.bind (same_ints _ (by omega)) (Ev.now _)
  /- no cut into two costs less -/
  have two : ∀ y, y ≤ L → 1 ≤ y → Ev (fun k => laws_FnSplit.l1 k cards stops minute (cst (prc b s j r stops cards minute) L 0) (wlk (prc b s j r stops cards minute) L L (nxt (prc b s j r stops cards minute) L 0)) (cst (prc b s j r stops cards minute) L 0) y b s j r) true := by
    refine down L (fun _ => ?_) (fun y hy ih hy1 => ?_)
    · have d1 : ¬ ((L + 1 : Nat) : Int) < stops.length := by clear e1; omega
      have d2 : wrap64 ((L : Int) + 1) = ((L + 1 : Nat) : Int) := w64s (show L < L + 1 by clear e1; omega) (by clear e1; omega)
      exact ev_at fin (fun k => by simp only [laws_FnSplit.l1, d2, if_neg d1])
    · have hyL : y ≤ L := by omega
      have d1 : ((y + 1 : Nat) : Int) < stops.length := by clear e1; omega
      have d3 : (0 : Int) ≤ y := by omega
      have d4 : (y : Int) < stops.length := by clear e1; omega
      have p1 := H.prc (x := 0) (y := y) (Nat.zero_le _) hyL
      have p2 := H.prc (x := y) (y := L) hyL (Nat.le_refl _)
      have k1 := ((nxt_is hP (show 0 < L by omega)).2.2.2.2.2 y (by omega) hyL).1
      have k2 := ((nxt_is hP hy).2.2.2.2.2 L (by omega) (Nat.le_refl _)).1
      rw [cst_end hP] at k2
      have d5 : ¬ prc b s j r stops cards minute 0 y + prc b s j r stops cards minute y L < cst (prc b s j r stops cards minute) L 0 := by clear e1; omega
      have d6 : wrap64 (prc b s j r stops cards minute 0 y + prc b s j r stops cards minute y L) = prc b s j r stops cards minute 0 y + prc b s j r stops cards minute y L := w64 (by clear e1; omega) (by clear e1; omega)
      have d2 : wrap64 ((y : Int) + 1) = ((y + 1 : Nat) : Int) := w64s (show y < y + 1 by clear e1 d6; omega) (by clear e1 d6; omega)
      have ih' := ih (by clear e1 d6 d2; omega)
      refine ev_at (impl_prc_all H (x := 0) (y := y) (Nat.zero_le _) hyL (f := fun k t629 => (impl_Fare.f k b s j r (stops.getD y 0) (stops.getD L 0)).bind fun t632 => (impl_Carded.f k b s j r t632 cards minute).bind fun t633 => if wrap64 (t629 + t633) < cst (prc b s j r stops cards minute) L 0 then some false else laws_FnSplit.l1 k cards stops minute (cst (prc b s j r stops cards minute) L 0) (wlk (prc b s j r stops cards minute) L L (nxt (prc b s j r stops cards minute) L 0)) (cst (prc b s j r stops cards minute) L 0) ((y + 1 : Nat) : Int) b s j r) ?_)
        (fun k => by simp only [laws_FnSplit.l1, d2, if_pos d1, if_pos c3, if_pos d3, if_pos d4, e1, if_pos c4, if_pos c5, rdn, er0])
      refine impl_prc_all H (x := y) (y := L) hyL (Nat.le_refl _) (f := fun k t633 => if wrap64 (prc b s j r stops cards minute 0 y + t633) < cst (prc b s j r stops cards minute) L 0 then some false else laws_FnSplit.l1 k cards stops minute (cst (prc b s j r stops cards minute) L 0) (wlk (prc b s j r stops cards minute) L L (nxt (prc b s j r stops cards minute) L 0)) (cst (prc b s j r stops cards minute) L 0) ((y + 1 : Nat) : Int) b s j r) ?_
      simp only [d6, if_neg d5]
      exact ih'
  have key := law_l0 H (res := true) L 0 [] (by clear e1; omega) (by clear e1; omega) (by simp) (by rw [List.nil_append]; exact two 1 (by clear e1; omega) (Nat.le_refl _))
  rw [List.nil_append, Int.sub_self] at key
  exact ev_at key (fun k => by simp only [laws_FnSplit.j0, Bool.false_eq_true, if_false]; rfl)
end Go.Proofs.Ytcihaeggjfpacaa.Pure
