/- A way cut into tickets: both programs tell the least cost and its cuts. -/
import Derived.Test.YtcihaeggjfpacaaS1
import Derived.Test.YtcihaeggjfpacaaA7
namespace Go.Proofs.Ytcihaeggjfpacaa.Pure
open Go.RowKit Go.Proofs.Ytcihaeggjfpacaa.P Go.Proofs.YtcihaeggjfpacaaW.PrintWords Go.Proofs.YtcihaeggjfpacaaW.PrintLast

theorem rdn (l : List Int) (i : Nat) : rd l (i : Int) = l.getD i 0 := by simp [rd]
/-- What is right: tariff, stops, cards, minute; L is the last place. -/
structure Rg (b s : Int) (j : List Int) (r : Int) (stops : List Int) (cards : List S57) (minute : Int) (L : Nat) : Prop where
  t : tariffOk b s j r = true
  c : cardsOk cards = true
  st : stopsOk stops = true
  m : 0 ≤ minute ∧ minute ≤ 100000
  len : stops.length = L + 1
/-- The price of one ticket between two places. -/
def prc (b s : Int) (j : List Int) (r : Int) (stops : List Int) (cards : List S57) (minute : Int) (x y : Nat) : Int :=
  cardedV0 r (fareV0 b s j r (min (stops.getD x 0) (stops.getD y 0)) (max (stops.getD x 0) (stops.getD y 0))) cards minute
section
variable {b s : Int} {j : List Int} {r : Int} {stops : List Int} {cards : List S57} {minute : Int} {L : Nat}
theorem Rg.nums (H : Rg b s j r stops cards minute L) : 1 ≤ L ∧ L ≤ 19 ∧ cards.length ≤ 1048576 ∧ j.length ≤ 1048576 := by
  have h1 := (stopsOk_parts H.st).1
  have h2 := (cardsOk_parts H.c).2
  have h3 := (tariffOk_parts H.t).2.2.1
  have := H.len
  omega
theorem Rg.at (H : Rg b s j r stops cards minute L) {x : Nat} (hx : x ≤ L) : 0 ≤ stops.getD x 0 ∧ stops.getD x 0 ≤ 19 :=
  (stopsOk_parts H.st).2 _ (getD_mem 0 stops x (by rw [H.len]; omega))
theorem Rg.fare (H : Rg b s j r stops cards minute L) {x y : Nat} (hx : x ≤ L) (hy : y ≤ L) : 0 ≤ fareV0 b s j r (min (stops.getD x 0) (stops.getD y 0)) (max (stops.getD x 0) (stops.getD y 0)) ∧ fareV0 b s j r (min (stops.getD x 0) (stops.getD y 0)) (max (stops.getD x 0) (stops.getD y 0)) ≤ 4000100 := by
  have h1 := H.at hx
  have h2 := H.at hy
  exact fareV0_bounds H.t (by omega) (by omega)
theorem Rg.prc (H : Rg b s j r stops cards minute L) {x y : Nat} (hx : x ≤ L) (hy : y ≤ L) : 0 ≤ prc b s j r stops cards minute x y ∧ prc b s j r stops cards minute x y ≤ 5000000 := by
  have h := H.fare hx hy
  unfold Pure.prc cardedV0
  have h1 := cards_le r (fareV0 b s j r (min (stops.getD x 0) (stops.getD y 0)) (max (stops.getD x 0) (stops.getD y 0))) minute cards (fareV0 b s j r (min (stops.getD x 0) (stops.getD y 0)) (max (stops.getD x 0) (stops.getD y 0)))
  have h2 := cards_pos r (fareV0 b s j r (min (stops.getD x 0) (stops.getD y 0)) (max (stops.getD x 0) (stops.getD y 0))) minute cards (cardsOk_parts H.c).1 _ h.1
  exact ⟨h2, by omega⟩
theorem Rg.hP (H : Rg b s j r stops cards minute L) : ∀ x y, x < y → y ≤ L → 0 ≤ Pure.prc b s j r stops cards minute x y ∧ Pure.prc b s j r stops cards minute x y ≤ 5000000 := fun x y h1 h2 => H.prc (by omega) h2
theorem Rg.fareV (H : Rg b s j r stops cards minute L) {x y : Nat} (hx : x ≤ L) (hy : y ≤ L) : fareV b s j r (stops.getD x 0) (stops.getD y 0) = fareV0 b s j r (min (stops.getD x 0) (stops.getD y 0)) (max (stops.getD x 0) (stops.getD y 0)) := fareV_ok H.t (H.at hx) (H.at hy)
theorem Rg.cardedV (H : Rg b s j r stops cards minute L) {x y : Nat} (hx : x ≤ L) (hy : y ≤ L) : cardedV b s j r (Pure.fareV b s j r (stops.getD x 0) (stops.getD y 0)) cards minute = Pure.prc b s j r stops cards minute x y := by
  rw [H.fareV hx hy, cardedV_ok H.t H.c ⟨(H.fare hx hy).1, by have := (H.fare hx hy).2; omega⟩ H.m]
  rfl

/-- One ticket, by the program's own functions. -/
theorem impl_prc (H : Rg b s j r stops cards minute L) {x y : Nat} (hx : x ≤ L) (hy : y ≤ L) {α : Type} {f : Nat → Int → Option α} {res : α} (h : Ev (fun k => f k (prc b s j r stops cards minute x y)) res) :
    Ev (fun k => (impl_fare.f k b s j r (stops.getD x 0) (stops.getD y 0)).bind fun t => (impl_carded.f k b s j r t cards minute).bind (f k)) res := by
  have hf := H.fare hx hy
  refine Ev.bind (impl_fare_low H.t (H.at hx) (H.at hy)) ?_
  exact Ev.bind (impl_carded_low (tariffOk_round H.t) cards (cardsOk_parts H.c).1 H.nums.2.2.1 ⟨hf.1, by omega⟩ H.m) h
theorem spec_prc (H : Rg b s j r stops cards minute L) {x y : Nat} (hx : x ≤ L) (hy : y ≤ L) {α : Type} {f : Nat → Int → Option α} {res : α} (h : Ev (fun k => f k (prc b s j r stops cards minute x y)) res) :
    Ev (fun k => (spec_Fare.f k b s j r (stops.getD x 0) (stops.getD y 0)).bind fun t => (spec_Carded.f k b s j r t cards minute).bind (f k)) res := by
  refine Ev.bind (spec_fare_all b s j r _ _ H.nums.2.2.2) ?_
  refine Ev.bind (spec_carded_all b s j r _ cards minute H.nums.2.2.2 H.nums.2.2.1) ?_
  rw [H.cardedV hx hy]
  exact h
theorem impl_prc_all (H : Rg b s j r stops cards minute L) {x y : Nat} (hx : x ≤ L) (hy : y ≤ L) {α : Type} {f : Nat → Int → Option α} {res : α} (h : Ev (fun k => f k (prc b s j r stops cards minute x y)) res) :
    Ev (fun k => (impl_Fare.f k b s j r (stops.getD x 0) (stops.getD y 0)).bind fun t => (impl_Carded.f k b s j r t cards minute).bind (f k)) res := by
  refine Ev.bind (impl_fare_all b s j r _ _ H.nums.2.2.2) ?_
  refine Ev.bind (impl_carded_all b s j r _ cards minute H.nums.2.2.2 H.nums.2.2.1) ?_
  rw [H.cardedV hx hy]
  exact h

theorem impl_inn (H : Rg b s j r stops cards minute L) {res : Int × List Int} {i : Nat} (hi : i < L) : ∀ (e y : Nat) (p : Rw), Sh true L (i + 1) p → i < y → y + e = L + 1 → BestTo (prc b s j r stops cards minute) true i y p →
    Ev (fun k => impl_Split.l0 k stops cards minute L (inn (prc b s j r stops cards minute) true i e y p).c (inn (prc b s j r stops cards minute) true i e y p).k (inn (prc b s j r stops cards minute) true i e y p).x ((i : Int) - 1) b s j r) res →
    Ev (fun k => impl_Split.l1 k stops cards minute L p.c p.k p.x i y b s j r) res
  | 0, y, p, h, hij, hje, hb, hr => by
    have hn := H.nums
    have hw1 : wrap64 ((i : Int) - 1) = (i : Int) - 1 := w64 (by omega) (by omega)
    refine ev_at hr (fun k => ?_)
    simp only [impl_Split.l1, hw1]
    rw [if_neg (by omega)]
    rfl
  | e + 1, y, p, h, hij, hje, hb, hr => by
    have hn := H.nums
    have hl := H.len
    have ih := impl_inn H (res := res) hi e (y + 1) (stp (prc b s j r stops cards minute) true i y p) (stp_sh H.hP h hi hij (by omega)) (by omega) (by omega) (stp_best H.hP h hi hij (by omega) hb) hr
    have hp := H.hP i y hij (by omega)
    have hby := h.b y (by omega)
    have f1 : (y : Int) ≤ (L : Int) := by omega
    have f2 : (0 : Int) ≤ i := by omega
    have f3 : (i : Int) < stops.length := by omega
    have f4 : (0 : Int) ≤ y := by omega
    have f5 : (y : Int) < stops.length := by omega
    have g1 : (y : Int) < p.c.length := by rw [h.l1]; omega
    have g2 : (y : Int) < p.k.length := by rw [h.l2]; omega
    have g3 : (i : Int) < p.x.length := by rw [h.l3]; omega
    have g4 : (i : Int) < p.c.length := by rw [h.l1]; omega
    have g5 : (i : Int) < p.k.length := by rw [h.l2]; omega
    obtain ⟨q, hq⟩ : ∃ q, prc b s j r stops cards minute i y = q := ⟨_, rfl⟩
    rw [hq] at hp
    have hb1 : -9223372036854775808 ≤ q + p.c.getD y 0 ∧ q + p.c.getD y 0 ≤ 9223372036854775807 := by omega
    have hb2 : -9223372036854775808 ≤ p.k.getD y 0 + 1 ∧ p.k.getD y 0 + 1 ≤ 9223372036854775807 := by omega
    have hb3 : y < y + 1 ∧ y + 1 ≤ 1000000000 := by omega
    have hiL : i ≤ L := by omega
    have hyL : y ≤ L := by omega
    have hv1 : wrap64 (q + p.c.getD y 0) = q + p.c.getD y 0 := w64 hb1.1 hb1.2
    have hv2 : wrap64 (p.k.getD y 0 + 1) = p.k.getD y 0 + 1 := w64 hb2.1 hb2.2
    have hy1 : wrap64 ((y : Int) + 1) = ((y + 1 : Nat) : Int) := w64s hb3.1 hb3.2
    unfold stp at ih
    rw [hq] at ih
    refine ev_at (impl_prc H (x := i) (y := y) hiL hyL (f := fun k t513 => if (p.x.getD i 0) = 0 then impl_Split.l1 k stops cards minute L (p.c.set i (wrap64 (t513 + p.c.getD y 0))) (p.k.set i (p.k.getD y 0 + 1)) (p.x.set i y) i ((y + 1 : Nat) : Int) b s j r else
      if wrap64 (t513 + p.c.getD y 0) < p.c.getD i 0 then impl_Split.l1 k stops cards minute L (p.c.set i (wrap64 (t513 + p.c.getD y 0))) (p.k.set i (p.k.getD y 0 + 1)) (p.x.set i y) i ((y + 1 : Nat) : Int) b s j r else
      if wrap64 (t513 + p.c.getD y 0) = p.c.getD i 0 then if p.k.getD y 0 + 1 < p.k.getD i 0 then impl_Split.l1 k stops cards minute L (p.c.set i (wrap64 (t513 + p.c.getD y 0))) (p.k.set i (p.k.getD y 0 + 1)) (p.x.set i y) i ((y + 1 : Nat) : Int) b s j r else impl_Split.l1 k stops cards minute L p.c p.k p.x i ((y + 1 : Nat) : Int) b s j r
      else impl_Split.l1 k stops cards minute L p.c p.k p.x i ((y + 1 : Nat) : Int) b s j r) ?_)
      (fun k => by simp only [impl_Split.l1, rdn, hv2, hy1, if_pos f1, if_pos f2, if_pos f3, if_pos f4, if_pos f5, if_pos g1, if_pos g2, if_pos g3, if_pos g4, if_pos g5, Int.toNat_natCast])
    rw [hq]
    clear hy1 hv2 f1 f2 f3 f4 f5 g1 g2 g3 g4 g5 hby hp hb h hr
    simp only [hv1]
    clear hv1
    by_cases c1 : p.x.getD i 0 = 0
    · simp only [c1, if_true]
      have hc : (fresh true p i = true ∨ q + p.c.getD y 0 < p.c.getD i 0 ∨ (q + p.c.getD y 0 = p.c.getD i 0 ∧ p.k.getD y 0 + 1 < p.k.getD i 0)) := .inl (by simp only [fresh, if_true, decide_eq_true_eq]; exact c1)
      rw [if_pos hc] at ih
      exact ih
    · have c1' : ¬ fresh true p i = true := by simp only [fresh, if_true, decide_eq_true_eq]; exact c1
      simp only [c1, if_false]
      by_cases c2 : q + p.c.getD y 0 < p.c.getD i 0
      · simp only [c2, if_true]
        have hc : (fresh true p i = true ∨ q + p.c.getD y 0 < p.c.getD i 0 ∨ (q + p.c.getD y 0 = p.c.getD i 0 ∧ p.k.getD y 0 + 1 < p.k.getD i 0)) := .inr (.inl c2)
        rw [if_pos hc] at ih
        exact ih
      · simp only [c2, if_false]
        by_cases c3 : q + p.c.getD y 0 = p.c.getD i 0
        · simp only [c3, if_true]
          by_cases c4 : p.k.getD y 0 + 1 < p.k.getD i 0
          · simp only [c4, if_true]
            have hc : (fresh true p i = true ∨ q + p.c.getD y 0 < p.c.getD i 0 ∨ (q + p.c.getD y 0 = p.c.getD i 0 ∧ p.k.getD y 0 + 1 < p.k.getD i 0)) := .inr (.inr ⟨c3, c4⟩)
            rw [if_pos hc, c3] at ih
            exact ih
          · simp only [c4, if_false]
            have hc : ¬ (fresh true p i = true ∨ q + p.c.getD y 0 < p.c.getD i 0 ∨ (q + p.c.getD y 0 = p.c.getD i 0 ∧ p.k.getD y 0 + 1 < p.k.getD i 0)) := fun hh => hh.elim c1' (fun hh => hh.elim c2 (fun hh => c4 hh.2))
            rw [if_neg hc] at ih
            exact ih
        · simp only [c3, if_false]
          have hc : ¬ (fresh true p i = true ∨ q + p.c.getD y 0 < p.c.getD i 0 ∨ (q + p.c.getD y 0 = p.c.getD i 0 ∧ p.k.getD y 0 + 1 < p.k.getD i 0)) := fun hh => hh.elim c1' (fun hh => hh.elim c2 (fun hh => c3 hh.1))
          rw [if_neg hc] at ih
          exact ih
theorem impl_outr (H : Rg b s j r stops cards minute L) {res : Int × List Int} : ∀ (d : Nat) (p : Rw), d ≤ L → Sh true L d p → (∀ i, i < d → fresh true p i = true) →
    Ev (fun k => impl_Split.l0 k stops cards minute L (outr (prc b s j r stops cards minute) true L d p).c (outr (prc b s j r stops cards minute) true L d p).k (outr (prc b s j r stops cards minute) true L d p).x (-1) b s j r) res →
    Ev (fun k => impl_Split.l0 k stops cards minute L p.c p.k p.x ((d : Int) - 1) b s j r) res
  | 0, p, _, _, _, hr => hr
  | d + 1, p, hd, h, hf, hr => by
    have hn := H.nums
    have hb0 : BestTo (prc b s j r stops cards minute) true d (d + 1) p := .inl ⟨rfl, hf d (Nat.lt_succ_self d)⟩
    obtain ⟨g1, g2, g3⟩ := inn_all (P := prc b s j r stops cards minute) H.hP (show d < L by omega) (L - d) (d + 1) p h (Nat.lt_succ_self d) (by omega) hb0
    rw [show d + 1 + (L - d) = L + 1 by omega] at g2
    have g2' : Least (prc b s j r stops cards minute) d (L + 1) (inn (prc b s j r stops cards minute) true d (L - d) (d + 1) p) := by
      rcases g2 with ⟨e, _⟩ | ⟨_, g⟩
      · omega
      · exact g
    have ih := impl_outr H (res := res) d (inn (prc b s j r stops cards minute) true d (L - d) (d + 1) p) (by omega) ⟨g1.l1, g1.l2, g1.l3, g1.b, g1.e, fun y h1 h2 => by
      by_cases e : y = d
      · subst e
        exact least_pos H.hP g1 (Nat.le_refl _) g2'
      · exact g1.pos y (by omega) h2⟩ (fun i hi => by
      have := hf i (by omega)
      obtain ⟨e1, _, e3⟩ := g3 i (by omega)
      unfold fresh at this ⊢
      rw [e1, e3]
      exact this) hr
    have := impl_inn H (res := res) (show d < L by omega) (L - d) (d + 1) p h (Nat.lt_succ_self d) (by omega) hb0 ih
    refine ev_at this (fun k => ?_)
    have e : (((d + 1 : Nat) : Int) - 1) = (d : Int) := by omega
    have hw : wrap64 ((d : Int) + 1) = ((d + 1 : Nat) : Int) := w64s (show d < d + 1 by omega) (by omega)
    rw [e]
    simp only [impl_Split.l0, hw]
    rw [if_pos (by omega)]
theorem spec_inn (H : Rg b s j r stops cards minute L) {res : Int × List Int} {i : Nat} (hi : i < L) : ∀ (e y : Nat) (p : Rw), Sh false L (i + 1) p → i < y → y + e = L + 1 → BestTo (prc b s j r stops cards minute) false i y p →
    Ev (fun k => spec_Split.l1 k stops cards minute (inn (prc b s j r stops cards minute) false i e y p).c (inn (prc b s j r stops cards minute) false i e y p).k L ((i : Int) - 1) b s j r) res →
    Ev (fun k => spec_Split.l2 k stops cards minute p.c p.k L i y b s j r) res
  | 0, y, p, h, hij, hje, hb, hr => by
    have hn := H.nums
    have hw1 : wrap64 ((i : Int) - 1) = (i : Int) - 1 := w64 (by omega) (by omega)
    refine ev_at hr (fun k => ?_)
    simp only [spec_Split.l2, hw1]
    rw [if_neg (by omega)]
    rfl
  | e + 1, y, p, h, hij, hje, hb, hr => by
    have hn := H.nums
    have hl := H.len
    have ih := spec_inn H (res := res) hi e (y + 1) (stp (prc b s j r stops cards minute) false i y p) (stp_sh H.hP h hi hij (by omega)) (by omega) (by omega) (stp_best H.hP h hi hij (by omega) hb) hr
    have hp := H.hP i y hij (by omega)
    have hby := h.b y (by omega)
    have f1 : (y : Int) ≤ (L : Int) := by omega
    have f2 : (0 : Int) ≤ i := by omega
    have f3 : (i : Int) < stops.length := by omega
    have f4 : (0 : Int) ≤ y := by omega
    have f5 : (y : Int) < stops.length := by omega
    have g1 : (y : Int) < p.c.length := by rw [h.l1]; omega
    have g2 : (y : Int) < p.k.length := by rw [h.l2]; omega
    have g4 : (i : Int) < p.c.length := by rw [h.l1]; omega
    have g5 : (i : Int) < p.k.length := by rw [h.l2]; omega
    obtain ⟨q, hq⟩ : ∃ q, prc b s j r stops cards minute i y = q := ⟨_, rfl⟩
    rw [hq] at hp
    have hb1 : -9223372036854775808 ≤ p.c.getD y 0 + q ∧ p.c.getD y 0 + q ≤ 9223372036854775807 := by omega
    have hb2 : -9223372036854775808 ≤ p.k.getD y 0 + 1 ∧ p.k.getD y 0 + 1 ≤ 9223372036854775807 := by omega
    have hb3 : y < y + 1 ∧ y + 1 ≤ 1000000000 := by omega
    have hiL : i ≤ L := by omega
    have hyL : y ≤ L := by omega
    have hv1 : wrap64 (p.c.getD y 0 + q) = q + p.c.getD y 0 := by rw [w64 hb1.1 hb1.2, Int.add_comm]
    have hv2 : wrap64 (p.k.getD y 0 + 1) = p.k.getD y 0 + 1 := w64 hb2.1 hb2.2
    have hy1 : wrap64 ((y : Int) + 1) = ((y + 1 : Nat) : Int) := w64s hb3.1 hb3.2
    unfold stp at ih
    rw [hq] at ih
    refine ev_at (spec_prc H (x := i) (y := y) hiL hyL (f := fun k t513 => if (p.c.getD i 0) < 0 then spec_Split.l2 k stops cards minute (p.c.set i (wrap64 (p.c.getD y 0 + t513))) (p.k.set i (p.k.getD y 0 + 1)) L i ((y + 1 : Nat) : Int) b s j r else
      if wrap64 (p.c.getD y 0 + t513) < p.c.getD i 0 then spec_Split.l2 k stops cards minute (p.c.set i (wrap64 (p.c.getD y 0 + t513))) (p.k.set i (p.k.getD y 0 + 1)) L i ((y + 1 : Nat) : Int) b s j r else
      if wrap64 (p.c.getD y 0 + t513) = p.c.getD i 0 then if p.k.getD y 0 + 1 < p.k.getD i 0 then spec_Split.l2 k stops cards minute (p.c.set i (wrap64 (p.c.getD y 0 + t513))) (p.k.set i (p.k.getD y 0 + 1)) L i ((y + 1 : Nat) : Int) b s j r else spec_Split.l2 k stops cards minute p.c p.k L i ((y + 1 : Nat) : Int) b s j r
      else spec_Split.l2 k stops cards minute p.c p.k L i ((y + 1 : Nat) : Int) b s j r) ?_)
      (fun k => by simp only [spec_Split.l2, rdn, hv2, hy1, if_pos f1, if_pos f2, if_pos f3, if_pos f4, if_pos f5, if_pos g1, if_pos g2, if_pos g4, if_pos g5, Int.toNat_natCast])
    rw [hq]
    clear hy1 hv2 f1 f2 f3 f4 f5 g1 g2 g4 g5 hby hp hb h hr
    simp only [hv1]
    clear hv1
    by_cases c1 : p.c.getD i 0 < 0
    · simp only [c1, if_true]
      have hc : (fresh false p i = true ∨ q + p.c.getD y 0 < p.c.getD i 0 ∨ (q + p.c.getD y 0 = p.c.getD i 0 ∧ p.k.getD y 0 + 1 < p.k.getD i 0)) := .inl (by simp only [fresh, Bool.false_eq_true, if_false, decide_eq_true_eq]; exact c1)
      rw [if_pos hc] at ih
      exact ih
    · have c1' : ¬ fresh false p i = true := by simp only [fresh, Bool.false_eq_true, if_false, decide_eq_true_eq]; exact c1
      simp only [c1, if_false]
      by_cases c2 : q + p.c.getD y 0 < p.c.getD i 0
      · simp only [c2, if_true]
        have hc : (fresh false p i = true ∨ q + p.c.getD y 0 < p.c.getD i 0 ∨ (q + p.c.getD y 0 = p.c.getD i 0 ∧ p.k.getD y 0 + 1 < p.k.getD i 0)) := .inr (.inl c2)
        rw [if_pos hc] at ih
        exact ih
      · simp only [c2, if_false]
        by_cases c3 : q + p.c.getD y 0 = p.c.getD i 0
        · simp only [c3, if_true]
          by_cases c4 : p.k.getD y 0 + 1 < p.k.getD i 0
          · simp only [c4, if_true]
            have hc : (fresh false p i = true ∨ q + p.c.getD y 0 < p.c.getD i 0 ∨ (q + p.c.getD y 0 = p.c.getD i 0 ∧ p.k.getD y 0 + 1 < p.k.getD i 0)) := .inr (.inr ⟨c3, c4⟩)
            rw [if_pos hc, c3] at ih
            exact ih
          · simp only [c4, if_false]
            have hc : ¬ (fresh false p i = true ∨ q + p.c.getD y 0 < p.c.getD i 0 ∨ (q + p.c.getD y 0 = p.c.getD i 0 ∧ p.k.getD y 0 + 1 < p.k.getD i 0)) := fun hh => hh.elim c1' (fun hh => hh.elim c2 (fun hh => c4 hh.2))
            rw [if_neg hc] at ih
            exact ih
        · simp only [c3, if_false]
          have hc : ¬ (fresh false p i = true ∨ q + p.c.getD y 0 < p.c.getD i 0 ∨ (q + p.c.getD y 0 = p.c.getD i 0 ∧ p.k.getD y 0 + 1 < p.k.getD i 0)) := fun hh => hh.elim c1' (fun hh => hh.elim c2 (fun hh => c3 hh.1))
          rw [if_neg hc] at ih
          exact ih
theorem spec_outr (H : Rg b s j r stops cards minute L) {res : Int × List Int} : ∀ (d : Nat) (p : Rw), d ≤ L → Sh false L d p → (∀ i, i < d → fresh false p i = true) →
    Ev (fun k => spec_Split.l1 k stops cards minute (outr (prc b s j r stops cards minute) false L d p).c (outr (prc b s j r stops cards minute) false L d p).k L (-1) b s j r) res →
    Ev (fun k => spec_Split.l1 k stops cards minute p.c p.k L ((d : Int) - 1) b s j r) res
  | 0, p, _, _, _, hr => hr
  | d + 1, p, hd, h, hf, hr => by
    have hn := H.nums
    have hb0 : BestTo (prc b s j r stops cards minute) false d (d + 1) p := .inl ⟨rfl, hf d (Nat.lt_succ_self d)⟩
    obtain ⟨g1, g2, g3⟩ := inn_all (P := prc b s j r stops cards minute) H.hP (show d < L by omega) (L - d) (d + 1) p h (Nat.lt_succ_self d) (by omega) hb0
    rw [show d + 1 + (L - d) = L + 1 by omega] at g2
    have g2' : Least (prc b s j r stops cards minute) d (L + 1) (inn (prc b s j r stops cards minute) false d (L - d) (d + 1) p) := by
      rcases g2 with ⟨e, _⟩ | ⟨_, g⟩
      · omega
      · exact g
    have ih := spec_outr H (res := res) d (inn (prc b s j r stops cards minute) false d (L - d) (d + 1) p) (by omega) ⟨g1.l1, g1.l2, g1.l3, g1.b, g1.e, fun y h1 h2 => by
      by_cases e : y = d
      · subst e
        exact least_pos H.hP g1 (Nat.le_refl _) g2'
      · exact g1.pos y (by omega) h2⟩ (fun i hi => by
      have := hf i (by omega)
      obtain ⟨e1, _, e3⟩ := g3 i (by omega)
      unfold fresh at this ⊢
      rw [e1, e3]
      exact this) hr
    have := spec_inn H (res := res) (show d < L by omega) (L - d) (d + 1) p h (Nat.lt_succ_self d) (by omega) hb0 ih
    refine ev_at this (fun k => ?_)
    have e : (((d + 1 : Nat) : Int) - 1) = (d : Int) := by omega
    have hw : wrap64 ((d : Int) + 1) = ((d + 1 : Nat) : Int) := w64s (show d < d + 1 by omega) (by omega)
    rw [e]
    simp only [spec_Split.l1, hw]
    rw [if_pos (by omega)]
end
end Go.Proofs.Ytcihaeggjfpacaa.Pure
