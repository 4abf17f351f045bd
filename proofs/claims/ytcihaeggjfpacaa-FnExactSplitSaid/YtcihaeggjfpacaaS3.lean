/- A way cut into tickets: the walk along the cuts, and what both programs tell. -/
import Derived.Test.YtcihaeggjfpacaaS2
namespace Go.Proofs.Ytcihaeggjfpacaa.Pure
open Go.RowKit Go.Proofs.Ytcihaeggjfpacaa.P Go.Proofs.YtcihaeggjfpacaaW.PrintWords Go.Proofs.YtcihaeggjfpacaaW.PrintLast

/-- What both tell. -/
def splitV (P : Nat → Nat → Int) (L : Nat) : Int × List Int := (cst P L 0, wlk P L L (nxt P L 0))
section
variable {b s : Int} {j : List Int} {r : Int} {stops : List Int} {cards : List S57} {minute : Int} {L : Nat}
theorem through_prc (H : Rg b s j r stops cards minute L) : throughV b s j r stops cards minute = prc b s j r stops cards minute 0 L := by
  unfold throughV
  have e : ((stops.length : Int) - 1) = (L : Int) := by have := H.len; omega
  rw [H.st, e, rdn, show rd stops 0 = stops.getD 0 0 from rdn stops 0]
  exact H.cardedV (Nat.zero_le _) (Nat.le_refl _)
theorem impl_walk (H : Rg b s j r stops cards minute L) : ∀ (d i : Nat) (out : List Int), i ≤ L → L - i ≤ d → out.length ≤ i →
    Ev (fun k => impl_Split.l2 k L (implRw (prc b s j r stops cards minute) L).c (implRw (prc b s j r stops cards minute) L).x out i) (cst (prc b s j r stops cards minute) L 0, out ++ wlk (prc b s j r stops cards minute) L d i) := by
  have l1 := (implRw_all (L := L) H.hP).1.l1
  have l3 := (implRw_all (L := L) H.hP).1.l3
  have hn := H.nums
  have e0 : rd (implRw (prc b s j r stops cards minute) L).c 0 = cst (prc b s j r stops cards minute) L 0 := rdn _ 0
  have fin : ∀ (d : Nat) (out : List Int), Ev (fun k => impl_Split.l2 k L (implRw (prc b s j r stops cards minute) L).c (implRw (prc b s j r stops cards minute) L).x out (L : Int)) (cst (prc b s j r stops cards minute) L 0, out ++ wlk (prc b s j r stops cards minute) L d L) := by
    intro d out
    rw [wlk_end, List.append_nil]
    refine ev_some (fun k => ?_)
    simp only [impl_Split.l2, e0]
    rw [if_neg (by omega), if_pos (by omega)]
  intro d
  induction d with
  | zero =>
    intro i out hi hd _
    have : i = L := by omega
    subst this
    exact fin 0 out
  | succ d ihd =>
    intro i out hi hd ho
    by_cases hlt : i < L
    · obtain ⟨h1, h2, h3, _⟩ := nxt_is H.hP hlt
      have ih := ihd (nxt (prc b s j r stops cards minute) L i) (out ++ [(i : Int)]) h2 (by omega) (by simp; omega)
      simp only [wlk, hlt, if_true]
      rw [show out ++ (i : Int) :: wlk (prc b s j r stops cards minute) L d (nxt (prc b s j r stops cards minute) L i) = (out ++ [(i : Int)]) ++ wlk (prc b s j r stops cards minute) L d (nxt (prc b s j r stops cards minute) L i) by simp]
      refine ev_at ih (fun k => ?_)
      simp only [impl_Split.l2, rdn, h3]
      rw [if_pos (by omega), if_pos (by omega), if_pos (by omega), if_pos (by omega)]
    · have : i = L := by omega
      subst this
      exact fin (d + 1) out
theorem spec_walk (H : Rg b s j r stops cards minute L) : ∀ (d i : Nat) (out : List Int), i < L → L - i ≤ d → out.length ≤ i →
    Ev (fun k => spec_Split.l3 k stops cards minute (specRw (prc b s j r stops cards minute) L).c (specRw (prc b s j r stops cards minute) L).k L out i b s j r) (cst (prc b s j r stops cards minute) L 0, out ++ wlk (prc b s j r stops cards minute) L d (nxt (prc b s j r stops cards minute) L i))
  | 0, i, out, hi, hd, _ => by omega
  | d + 1, i, out, hi, hd, ho => by
    have hn := H.nums
    have hl := H.len
    have l1 := (specRw_all (L := L) H.hP).1.l1
    have l2 := (specRw_all (L := L) H.hP).1.l2
    obtain ⟨h1, h2, h3, h4, h5, h6⟩ := nxt_is H.hP hi
    obtain ⟨t, ht⟩ : ∃ t, nxt (prc b s j r stops cards minute) L i = t := ⟨_, rfl⟩
    have e0 : rd (specRw (prc b s j r stops cards minute) L).c 0 = cst (prc b s j r stops cards minute) L 0 := by rw [show rd (specRw (prc b s j r stops cards minute) L).c 0 = _ from rdn _ 0]; exact (spec_same H.hP (Nat.zero_le _)).1
    rw [ht] at h1 h2 h4 h5 h6 ⊢
    clear h3
    /- where the ticket leads -/
    have last : Ev (fun k => if (t : Int) = (L : Int) then spec_Split.l3 k stops cards minute (specRw (prc b s j r stops cards minute) L).c (specRw (prc b s j r stops cards minute) L).k L out t b s j r else if out.length < 17592186044416 then spec_Split.l3 k stops cards minute (specRw (prc b s j r stops cards minute) L).c (specRw (prc b s j r stops cards minute) L).k L (out ++ [(t : Int)]) t b s j r else none) (cst (prc b s j r stops cards minute) L 0, out ++ wlk (prc b s j r stops cards minute) L (d + 1) t) := by
      by_cases htl : t = L
      · have e1 : (t : Int) = (L : Int) := by omega
        simp only [e1, if_true]
        rw [htl, wlk_end, List.append_nil]
        refine ev_some (fun k => ?_)
        simp only [spec_Split.l3, e0, if_true]
        rw [if_pos (by omega)]
      · have e1 : ¬ (t : Int) = (L : Int) := by omega
        have e2 : out.length < 17592186044416 := by omega
        have e3 : t < L := by omega
        have ih := spec_walk H d t (out ++ [(t : Int)]) e3 (by omega) (by simp; omega)
        simp only [e1, if_false, e2, if_true]
        simp only [wlk, e3, if_true]
        simpa using ih
    have key : ∀ y, y ≤ t → i < y → Ev (fun k => spec_Split.l4 k stops cards minute (specRw (prc b s j r stops cards minute) L).c (specRw (prc b s j r stops cards minute) L).k L out i y b s j r) (cst (prc b s j r stops cards minute) L 0, out ++ wlk (prc b s j r stops cards minute) L (d + 1) t) := by
      have step : ∀ y, i < y → y ≤ t → ∀ (res : Int × List Int),
          (prc b s j r stops cards minute i y + cst (prc b s j r stops cards minute) L y = cst (prc b s j r stops cards minute) L i ∧ cnt (prc b s j r stops cards minute) L y + 1 = cnt (prc b s j r stops cards minute) L i → Ev (fun k => if (y : Int) = (L : Int) then spec_Split.l3 k stops cards minute (specRw (prc b s j r stops cards minute) L).c (specRw (prc b s j r stops cards minute) L).k L out y b s j r else if out.length < 17592186044416 then spec_Split.l3 k stops cards minute (specRw (prc b s j r stops cards minute) L).c (specRw (prc b s j r stops cards minute) L).k L (out ++ [(y : Int)]) y b s j r else none) res) →
          (¬ (prc b s j r stops cards minute i y + cst (prc b s j r stops cards minute) L y = cst (prc b s j r stops cards minute) L i ∧ cnt (prc b s j r stops cards minute) L y + 1 = cnt (prc b s j r stops cards minute) L i) → Ev (fun k => spec_Split.l4 k stops cards minute (specRw (prc b s j r stops cards minute) L).c (specRw (prc b s j r stops cards minute) L).k L out i ((y + 1 : Nat) : Int) b s j r) res) →
          Ev (fun k => spec_Split.l4 k stops cards minute (specRw (prc b s j r stops cards minute) L).c (specRw (prc b s j r stops cards minute) L).k L out i y b s j r) res := by
        intro y hiy hyt res hyes hno
        have hyL : y ≤ L := by omega
        have hiL : i ≤ L := by omega
        have f1 : (y : Int) ≤ (L : Int) := by omega
        have f2 : (0 : Int) ≤ y := by omega
        have f3 : (y : Int) < (specRw (prc b s j r stops cards minute) L).c.length := by omega
        have f4 : (0 : Int) ≤ i := by omega
        have f5 : (i : Int) < stops.length := by omega
        have f6 : (y : Int) < stops.length := by omega
        have f7 : (i : Int) < (specRw (prc b s j r stops cards minute) L).c.length := by omega
        have f8 : (y : Int) < (specRw (prc b s j r stops cards minute) L).k.length := by omega
        have f9 : (i : Int) < (specRw (prc b s j r stops cards minute) L).k.length := by omega
        have ey := spec_same H.hP hyL
        have ei := spec_same H.hP hiL
        have hb := cst_b H.hP hyL
        have hp := H.hP i y hiy hyL
        obtain ⟨q, hq⟩ : ∃ q, prc b s j r stops cards minute i y = q := ⟨_, rfl⟩
        rw [hq] at hp hyes hno
        have hb1 : -9223372036854775808 ≤ cst (prc b s j r stops cards minute) L y + q ∧ cst (prc b s j r stops cards minute) L y + q ≤ 9223372036854775807 := by omega
        have hb2 : -9223372036854775808 ≤ cnt (prc b s j r stops cards minute) L y + 1 ∧ cnt (prc b s j r stops cards minute) L y + 1 ≤ 9223372036854775807 := by omega
        have hb3 : y < y + 1 ∧ y + 1 ≤ 1000000000 := by omega
        have hv1 : wrap64 (cst (prc b s j r stops cards minute) L y + q) = q + cst (prc b s j r stops cards minute) L y := by rw [w64 hb1.1 hb1.2, Int.add_comm]
        have hv2 : wrap64 (cnt (prc b s j r stops cards minute) L y + 1) = cnt (prc b s j r stops cards minute) L y + 1 := w64 hb2.1 hb2.2
        have hy1 : wrap64 ((y : Int) + 1) = ((y + 1 : Nat) : Int) := w64s hb3.1 hb3.2
        refine ev_at (spec_prc H (x := i) (y := y) hiL hyL (f := fun k u => if wrap64 (cst (prc b s j r stops cards minute) L y + u) = cst (prc b s j r stops cards minute) L i then if cnt (prc b s j r stops cards minute) L y + 1 = cnt (prc b s j r stops cards minute) L i then (if (y : Int) = (L : Int) then spec_Split.l3 k stops cards minute (specRw (prc b s j r stops cards minute) L).c (specRw (prc b s j r stops cards minute) L).k L out y b s j r else if out.length < 17592186044416 then spec_Split.l3 k stops cards minute (specRw (prc b s j r stops cards minute) L).c (specRw (prc b s j r stops cards minute) L).k L (out ++ [(y : Int)]) y b s j r else none) else spec_Split.l4 k stops cards minute (specRw (prc b s j r stops cards minute) L).c (specRw (prc b s j r stops cards minute) L).k L out i ((y + 1 : Nat) : Int) b s j r else spec_Split.l4 k stops cards minute (specRw (prc b s j r stops cards minute) L).c (specRw (prc b s j r stops cards minute) L).k L out i ((y + 1 : Nat) : Int) b s j r) ?_)
          (fun k => by simp only [spec_Split.l4, rdn, ey.1, ey.2, ei.1, ei.2, hv2, hy1, if_pos f1, if_pos f2, if_pos f3, if_pos f4, if_pos f5, if_pos f6, if_pos f7, if_pos f8, if_pos f9])
        rw [hq]
        simp only [hv1]
        by_cases c1 : q + cst (prc b s j r stops cards minute) L y = cst (prc b s j r stops cards minute) L i
        · simp only [c1, if_true]
          by_cases c2 : cnt (prc b s j r stops cards minute) L y + 1 = cnt (prc b s j r stops cards minute) L i
          · simp only [c2, if_true]
            exact hyes ⟨c1, c2⟩
          · simp only [c2, if_false]
            exact hno (fun h => c2 h.2)
        · simp only [c1, if_false]
          exact hno (fun h => c1 h.1)
      refine down t (fun hit => ?_) (fun y hy ihy hiy => ?_)
      · exact step t hit (Nat.le_refl _) _ (fun _ => last) (fun hn => absurd ⟨h4.symm, h5.symm⟩ hn)
      · refine step y hiy (by omega) _ (fun ⟨y1, y2⟩ => ?_) (fun _ => ihy (by omega))
        have := (h6 y hiy (by omega)).2 hy
        omega
    have key1 := key (i + 1) (by omega) (by omega)
    clear key last
    have hc : ¬ (i : Int) = (L : Int) := by omega
    have hi1 : wrap64 ((i : Int) + 1) = ((i + 1 : Nat) : Int) := w64s (show i < i + 1 by omega) (by omega)
    exact ev_at key1 (fun k => by simp only [spec_Split.l3, hi1, if_neg hc])

theorem impl_split (H : Rg b s j r stops cards minute L) : Ev (fun k => impl_Split.f k b s j r stops cards minute) (splitV (prc b s j r stops cards minute) L) := by
  have hn := H.nums
  have hl := H.len
  unfold impl_Split.f
  refine Ev.bind (impl_through b s j r stops cards minute hn.2.2.2 hn.2.2.1 (by omega)) ?_
  rw [through_prc H]
  have hp := H.prc (x := 0) (y := L) (Nat.zero_le _) (Nat.le_refl _)
  have l3 := (implRw_all (L := L) H.hP).1.l3
  have e1 : wrap64 ((stops.length : Int) - 1) = (L : Int) := by rw [w64 (by omega) (by omega)]; omega
  have e2 : wrap64 ((L : Int) + 1) = ((L + 1 : Nat) : Int) := w64s (show L < L + 1 by clear e1; omega) (by clear e1; omega)
  have e3 : wrap64 ((L : Int) - 1) = (L : Int) - 1 := w64 (by clear e1 e2; omega) (by clear e1 e2; omega)
  have f1 : (0 : Int) ≤ ((L + 1 : Nat) : Int) := by clear e1 e2 e3; omega
  have f2 : L + 1 ≤ 35184372088832 := by clear e1 e2 e3; omega
  have f3 : ¬ prc b s j r stops cards minute 0 L < 0 := by clear e1 e2 e3; omega
  simp only [if_neg f3, e1, e2, e3, if_pos f1, Int.toNat_natCast, if_pos f2]
  clear e1 e2 e3
  have hs : Sh true L L ⟨List.replicate (L + 1) 0, List.replicate (L + 1) 0, List.replicate (L + 1) 0⟩ := by
    refine ⟨by simp, by simp, by simp, fun y hy => ?_, ?_, fun y h1 h2 => ?_⟩
    · simp only [rep_at 0 (show y < L + 1 by omega)]
      omega
    · simp only [rep_at 0 (show L < L + 1 by omega), and_self]
    · simp only [rep_at 0 (show y < L + 1 by omega)]
      omega
  refine impl_outr H L _ (Nat.le_refl _) hs (fun i hi => by simp only [fresh, if_true, rep_at 0 (show i < L + 1 by omega), decide_true]) ?_
  obtain ⟨h1, h2, h3, _⟩ := nxt_is H.hP (show 0 < L by omega)
  have hw := impl_walk H L (nxt (prc b s j r stops cards minute) L 0) [] h2 (by omega) (by simp)
  have ex : rd (implRw (prc b s j r stops cards minute) L).x 0 = (nxt (prc b s j r stops cards minute) L 0 : Int) := (rdn _ 0).trans h3
  refine ev_at (f := fun k => impl_Split.l2 k L (implRw (prc b s j r stops cards minute) L).c (implRw (prc b s j r stops cards minute) L).x [] (nxt (prc b s j r stops cards minute) L 0 : Int)) (by simpa [splitV] using hw) (fun k => ?_)
  have c1 : ¬ ((-1 : Int) ≥ 0) := by omega
  have c2 : (0 : Int) < (implRw (prc b s j r stops cards minute) L).x.length := by rw [l3]; omega
  show impl_Split.l0 (k + 1) stops cards minute L (implRw (prc b s j r stops cards minute) L).c (implRw (prc b s j r stops cards minute) L).k (implRw (prc b s j r stops cards minute) L).x (-1) b s j r = _
  simp only [impl_Split.l0, ex, if_neg c1, if_pos c2]
theorem spec_split (H : Rg b s j r stops cards minute L) : Ev (fun k => spec_Split.f k b s j r stops cards minute) (splitV (prc b s j r stops cards minute) L) := by
  have hn := H.nums
  have hl := H.len
  unfold spec_Split.f
  refine Ev.bind (spec_through b s j r stops cards minute hn.2.2.2 hn.2.2.1 (by omega)) ?_
  rw [through_prc H]
  have hp := H.prc (x := 0) (y := L) (Nat.zero_le _) (Nat.le_refl _)
  have f3 : ¬ prc b s j r stops cards minute 0 L < 0 := by omega
  simp only [if_neg f3]
  have hs : Sh false L L ⟨(List.replicate (L + 1) (-1)).set L 0, List.replicate (L + 1) 0, List.replicate (L + 1) 0⟩ := by
    have e0 : ((List.replicate (L + 1) (-1 : Int)).set L 0).getD L 0 = 0 := getD_set_self 0 _ L 0 (by simp)
    have e1 : ∀ y, y < L → ((List.replicate (L + 1) (-1 : Int)).set L 0).getD y 0 = -1 := fun y hy => by rw [getD_set_at 0 _ L y 0 (by omega), rep_at (-1) (by omega)]
    refine ⟨by simp, by simp, by simp, fun y hy => ?_, ?_, fun y h1 h2 => ?_⟩
    · simp only [rep_at 0 (show y < L + 1 by omega)]
      by_cases e : y = L
      · subst e
        rw [e0]
        omega
      · rw [e1 y (by omega)]
        omega
    · simp only [rep_at 0 (show L < L + 1 by omega), e0, and_self]
    · have : y = L := by omega
      subst this
      simp only [e0]
      omega
  have hfr : ∀ i, i < L → fresh false ⟨(List.replicate (L + 1) (-1)).set L 0, List.replicate (L + 1) 0, List.replicate (L + 1) 0⟩ i = true := fun i hi => by
    simp only [fresh, Bool.false_eq_true, if_false, decide_eq_true_eq]
    rw [getD_set_at 0 _ L i 0 (by omega), rep_at (-1) (by omega)]
    omega
  have walk : Ev (fun k => spec_Split.l1 k stops cards minute (specRw (prc b s j r stops cards minute) L).c (specRw (prc b s j r stops cards minute) L).k L (-1) b s j r) (splitV (prc b s j r stops cards minute) L) := by
    have hw := spec_walk H L 0 [] (by omega) (by omega) (by simp)
    have c1 : ¬ ((-1 : Int) ≥ 0) := by omega
    exact ev_at (f := fun k => spec_Split.l3 k stops cards minute (specRw (prc b s j r stops cards minute) L).c (specRw (prc b s j r stops cards minute) L).k L [] 0 b s j r) (by simpa [splitV] using hw) (fun k => by simp only [spec_Split.l1, if_neg c1])
  have mid := spec_outr H (res := splitV (prc b s j r stops cards minute) L) L _ (Nat.le_refl _) hs hfr walk
  have key : ∀ i, i ≤ stops.length → Ev (fun k => spec_Split.l0 k stops cards minute (List.replicate i (-1)) (List.replicate i 0) (i : Int) b s j r) (splitV (prc b s j r stops cards minute) L) := by
    refine down stops.length ?_ (fun i hi ih => ?_)
    · have e1 : wrap64 ((stops.length : Int) - 1) = (L : Int) := by rw [w64 (by omega) (by omega)]; omega
      have e3 : wrap64 ((L : Int) - 1) = (L : Int) - 1 := w64 (by clear e1; omega) (by clear e1; omega)
      have c1 : ¬ ((stops.length : Int) < stops.length) := Int.lt_irrefl _
      have c2 : (0 : Int) ≤ L := by clear e1 e3; omega
      have c3 : (L : Int) < ((List.replicate stops.length (-1 : Int)).length : Int) := by clear e1 e3; simp; omega
      rw [hl] at c3 ⊢
      rw [hl] at e1 c1
      refine ev_at mid (fun k => ?_)
      simp only [spec_Split.l0, hl, e1, e3, if_neg c1, if_pos c2, if_pos c3, Int.toNat_natCast]
    · have c1 : (i : Int) < stops.length := by omega
      have c2 : (List.replicate i (-1 : Int)).length < 17592186044416 := by simp; omega
      have c3 : (List.replicate i (0 : Int)).length < 17592186044416 := by simp; omega
      have r1 : List.replicate i (-1 : Int) ++ [-1] = List.replicate (i + 1) (-1) := by rw [List.replicate_succ']
      have r2 : List.replicate i (0 : Int) ++ [0] = List.replicate (i + 1) 0 := by rw [List.replicate_succ']
      have hw := w64s hi (by omega)
      refine ev_at ih (fun k => ?_)
      simp only [spec_Split.l0, if_pos c1, if_pos c2, if_pos c3, r1, r2, hw]
  exact key 0 (Nat.zero_le _)
end

/-- What a split tells in every case. -/
def splitV0 (b s : Int) (j : List Int) (r : Int) (stops : List Int) (cards : List S57) (minute : Int) : Int × List Int :=
  if throughV b s j r stops cards minute < 0 then (-1, []) else splitV (prc b s j r stops cards minute) (stops.length - 1)
theorem through_ok {b s : Int} {j : List Int} {r : Int} {stops : List Int} {cards : List S57} {minute : Int} (h : ¬ throughV b s j r stops cards minute < 0) : Rg b s j r stops cards minute (stops.length - 1) := by
  unfold throughV at h
  cases hs : stopsOk stops
  · rw [hs] at h
    simp at h
  · rw [hs] at h
    simp only [if_true] at h
    unfold cardedV at h
    split at h
    · rename_i hc
      simp only [Bool.and_eq_true, inB_iff] at hc
      have := (stopsOk_parts hs).1
      exact ⟨hc.1.1.1, hc.1.1.2, hs, hc.2, by omega⟩
    · simp at h
theorem impl_split_all (b s : Int) (j : List Int) (r : Int) (stops : List Int) (cards : List S57) (minute : Int) (h : j.length ≤ 1048576) (hl : cards.length ≤ 1048576) (hs : stops.length ≤ 1048576) :
    Ev (fun k => impl_Split.f k b s j r stops cards minute) (splitV0 b s j r stops cards minute) := by
  unfold splitV0
  by_cases ht : throughV b s j r stops cards minute < 0
  · rw [if_pos ht]
    unfold impl_Split.f
    refine Ev.bind (impl_through b s j r stops cards minute h hl hs) ?_
    simp only [ht, if_true]
    exact Ev.now _
  · rw [if_neg ht]
    exact impl_split (through_ok ht)
theorem spec_split_all (b s : Int) (j : List Int) (r : Int) (stops : List Int) (cards : List S57) (minute : Int) (h : j.length ≤ 1048576) (hl : cards.length ≤ 1048576) (hs : stops.length ≤ 1048576) :
    Ev (fun k => spec_Split.f k b s j r stops cards minute) (splitV0 b s j r stops cards minute) := by
  unfold splitV0
  by_cases ht : throughV b s j r stops cards minute < 0
  · rw [if_pos ht]
    unfold spec_Split.f
    refine Ev.bind (spec_through b s j r stops cards minute h hl hs) ?_
    simp only [ht, if_true]
    exact Ev.now _
  · rw [if_neg ht]
    exact spec_split (through_ok ht)
theorem split_len (b s : Int) (j : List Int) (r : Int) (stops : List Int) (cards : List S57) (minute : Int) (hs : stops.length ≤ 1048576) : (splitV0 b s j r stops cards minute).2.length ≤ 1048576 := by
  unfold splitV0
  split
  · simp
  · have := wlk_len (prc b s j r stops cards minute) (stops.length - 1) (stops.length - 1) (nxt (prc b s j r stops cards minute) (stops.length - 1) 0)
    unfold splitV
    simp only
    omega
end Go.Proofs.Ytcihaeggjfpacaa.Pure
