/- A way cut into tickets: the least cost and number from each place on, and the place the first ticket leads to. -/
import Derived.Test.YtcihaeggjfpacaaE
namespace Go.Proofs.Ytcihaeggjfpacaa.Pure
open Go.RowKit Go.Proofs.Ytcihaeggjfpacaa.P Go.Proofs.YtcihaeggjfpacaaW.PrintWords Go.Proofs.YtcihaeggjfpacaaW.PrintLast

theorem getD_set_at {β : Type} (z : β) (l : List β) (i x : Nat) (v : β) (h : x ≠ i) : (l.set i v).getD x z = l.getD x z := by
  simp [List.getD_eq_getElem?_getD, Ne.symm h]

/-- The rows: cost, number, next place. -/
structure Rw where
  c : List Int
  k : List Int
  x : List Int
/-- Was nothing told yet for a place? By the program, and by the reference. -/
def fresh (md : Bool) (p : Rw) (i : Nat) : Bool := if md then decide (p.x.getD i 0 = 0) else decide (p.c.getD i 0 < 0)
def stp (P : Nat → Nat → Int) (md : Bool) (i j : Nat) (p : Rw) : Rw :=
  if fresh md p i = true ∨ P i j + p.c.getD j 0 < p.c.getD i 0 ∨ (P i j + p.c.getD j 0 = p.c.getD i 0 ∧ p.k.getD j 0 + 1 < p.k.getD i 0) then ⟨p.c.set i (P i j + p.c.getD j 0), p.k.set i (p.k.getD j 0 + 1), p.x.set i (j : Int)⟩ else p
def inn (P : Nat → Nat → Int) (md : Bool) (i : Nat) : Nat → Nat → Rw → Rw
  | 0, _, p => p
  | e + 1, j, p => inn P md i e (j + 1) (stp P md i j p)
def outr (P : Nat → Nat → Int) (md : Bool) (L : Nat) : Nat → Rw → Rw
  | 0, p => p
  | d + 1, p => outr P md L d (inn P md d (L - d) (d + 1) p)

def Least (P : Nat → Nat → Int) (i m : Nat) (p : Rw) : Prop :=
  ∃ t : Nat, i < t ∧ t < m ∧ p.x.getD i 0 = (t : Int) ∧ p.c.getD i 0 = P i t + p.c.getD t 0 ∧ p.k.getD i 0 = p.k.getD t 0 + 1 ∧
    ∀ j, i < j → j < m → (p.c.getD i 0 < P i j + p.c.getD j 0 ∨ (p.c.getD i 0 = P i j + p.c.getD j 0 ∧ p.k.getD i 0 ≤ p.k.getD j 0 + 1)) ∧
      (j < t → p.c.getD i 0 < P i j + p.c.getD j 0 ∨ (p.c.getD i 0 = P i j + p.c.getD j 0 ∧ p.k.getD i 0 < p.k.getD j 0 + 1))
def BestTo (P : Nat → Nat → Int) (md : Bool) (i m : Nat) (p : Rw) : Prop := (m = i + 1 ∧ fresh md p i = true) ∨ (fresh md p i = false ∧ Least P i m p)
structure Sh (md : Bool) (L d : Nat) (p : Rw) : Prop where
  l1 : p.c.length = L + 1
  l2 : p.k.length = L + 1
  l3 : p.x.length = L + 1
  b : ∀ y, y ≤ L → -1 ≤ p.c.getD y 0 ∧ p.c.getD y 0 ≤ 5000000 * ((L : Int) - y) ∧ 0 ≤ p.k.getD y 0 ∧ p.k.getD y 0 ≤ (L : Int) - y
  e : p.c.getD L 0 = 0 ∧ p.k.getD L 0 = 0
  pos : ∀ y, d ≤ y → y ≤ L → 0 ≤ p.c.getD y 0

section
variable {P : Nat → Nat → Int} {md : Bool} {L : Nat}
theorem stp_keeps {i j y : Nat} (p : Rw) (hy : y ≠ i) : (stp P md i j p).c.getD y 0 = p.c.getD y 0 ∧ (stp P md i j p).k.getD y 0 = p.k.getD y 0 ∧ (stp P md i j p).x.getD y 0 = p.x.getD y 0 := by
  unfold stp
  split
  · exact ⟨getD_set_at 0 p.c i y _ hy, getD_set_at 0 p.k i y _ hy, getD_set_at 0 p.x i y _ hy⟩
  · exact ⟨rfl, rfl, rfl⟩
theorem stp_sh {i j : Nat} {p : Rw} (hP : ∀ i j, i < j → j ≤ L → 0 ≤ P i j ∧ P i j ≤ 5000000) (h : Sh md L (i + 1) p) (hi : i < L) (hij : i < j) (hj : j ≤ L) : Sh md L (i + 1) (stp P md i j p) := by
  have hp := hP i j hij hj
  have hb := h.b j hj
  refine ⟨?_, ?_, ?_, fun y hy => ?_, ?_, fun y h1 h2 => ?_⟩
  · unfold stp; split <;> simp [h.l1]
  · unfold stp; split <;> simp [h.l2]
  · unfold stp; split <;> simp [h.l3]
  · by_cases e : y = i
    · subst e
      unfold stp
      split
      · simp only
        rw [getD_set_self 0 p.c y _ (by rw [h.l1]; omega), getD_set_self 0 p.k y _ (by rw [h.l2]; omega)]
        omega
      · exact h.b y hy
    · obtain ⟨e1, e2, _⟩ := stp_keeps (P := P) (md := md) (j := j) p e
      rw [e1, e2]
      exact h.b y hy
  · obtain ⟨e1, e2, _⟩ := stp_keeps (P := P) (md := md) (i := i) (j := j) p (show L ≠ i by omega)
    rw [e1, e2]
    exact h.e
  · obtain ⟨e1, _, _⟩ := stp_keeps (P := P) (md := md) (i := i) (j := j) p (show y ≠ i by omega)
    rw [e1]
    exact h.pos y h1 h2
theorem stp_best {i j : Nat} {p : Rw} (hP : ∀ i j, i < j → j ≤ L → 0 ≤ P i j ∧ P i j ≤ 5000000) (h : Sh md L (i + 1) p) (hi : i < L) (hij : i < j) (hj : j ≤ L) (hb : BestTo P md i j p) : BestTo P md i (j + 1) (stp P md i j p) := by
  have hp := hP i j hij hj
  have hpos := h.pos j (by omega) hj
  by_cases hc : fresh md p i = true ∨ P i j + p.c.getD j 0 < p.c.getD i 0 ∨ (P i j + p.c.getD j 0 = p.c.getD i 0 ∧ p.k.getD j 0 + 1 < p.k.getD i 0)
  · have ec : (stp P md i j p).c.getD i 0 = P i j + p.c.getD j 0 := by
      unfold stp
      rw [if_pos hc]
      exact getD_set_self 0 p.c i _ (by rw [h.l1]; omega)
    have ek : (stp P md i j p).k.getD i 0 = p.k.getD j 0 + 1 := by
      unfold stp
      rw [if_pos hc]
      exact getD_set_self 0 p.k i _ (by rw [h.l2]; omega)
    have ex : (stp P md i j p).x.getD i 0 = (j : Int) := by
      unfold stp
      rw [if_pos hc]
      exact getD_set_self 0 p.x i _ (by rw [h.l3]; omega)
    refine .inr ⟨?_, j, hij, Nat.lt_succ_self j, ex, ?_, ?_, fun y hy hym => ?_⟩
    · unfold fresh
      cases md
      · simp only [Bool.false_eq_true, if_false, ec, decide_eq_false_iff_not]
        omega
      · simp only [if_true, ex, decide_eq_false_iff_not]
        omega
    · rw [(stp_keeps p (show j ≠ i by omega)).1]; exact ec
    · rw [(stp_keeps p (show j ≠ i by omega)).2.1]; exact ek
    · obtain ⟨e1, e2, _⟩ := stp_keeps (P := P) (md := md) (i := i) (j := j) p (show y ≠ i by omega)
      rw [e1, e2, ec, ek]
      by_cases e : y = j
      · subst e
        exact ⟨.inr ⟨rfl, Int.le_refl _⟩, fun hh => absurd hh (Nat.lt_irrefl _)⟩
      · rcases hb with ⟨hm, _⟩ | ⟨hf, t, _, _, _, _, _, hall⟩
        · omega
        · have hh := (hall y hy (by omega)).1
          rw [hf] at hc
          simp only [Bool.false_eq_true, false_or] at hc
          omega
  · have es : stp P md i j p = p := by unfold stp; rw [if_neg hc]
    rw [es]
    rcases hb with ⟨_, hf⟩ | ⟨hf, t, h1, h2, h3, h4, h5, hall⟩
    · exact absurd (.inl hf) hc
    · refine .inr ⟨hf, t, h1, by omega, h3, h4, h5, fun y hy hym => ?_⟩
      by_cases e : y = j
      · subst e
        rw [hf] at hc
        simp only [Bool.false_eq_true, false_or] at hc
        refine ⟨by omega, fun hh => by omega⟩
      · exact hall y hy (by omega)
theorem inn_all {i : Nat} (hP : ∀ i j, i < j → j ≤ L → 0 ≤ P i j ∧ P i j ≤ 5000000) (hi : i < L) : ∀ (e j : Nat) (p : Rw), Sh md L (i + 1) p → i < j → j + e ≤ L + 1 → BestTo P md i j p →
    Sh md L (i + 1) (inn P md i e j p) ∧ BestTo P md i (j + e) (inn P md i e j p) ∧ ∀ y, y ≠ i → (inn P md i e j p).c.getD y 0 = p.c.getD y 0 ∧ (inn P md i e j p).k.getD y 0 = p.k.getD y 0 ∧ (inn P md i e j p).x.getD y 0 = p.x.getD y 0
  | 0, j, p, h, _, _, hb => ⟨h, hb, fun _ _ => ⟨rfl, rfl, rfl⟩⟩
  | e + 1, j, p, h, hij, hje, hb => by
    have := inn_all hP hi e (j + 1) (stp P md i j p) (stp_sh hP h hi hij (by omega)) (by omega) (by omega) (stp_best hP h hi hij (by omega) hb)
    rw [show j + 1 + e = j + (e + 1) by omega] at this
    refine ⟨this.1, this.2.1, fun y hy => ?_⟩
    have h1 := this.2.2 y hy
    have h2 := stp_keeps (P := P) (md := md) (j := j) p hy
    exact ⟨h1.1.trans h2.1, h1.2.1.trans h2.2.1, h1.2.2.trans h2.2.2⟩
theorem least_congr {i m : Nat} {p q : Rw} (h : ∀ y, i ≤ y → p.c.getD y 0 = q.c.getD y 0 ∧ p.k.getD y 0 = q.k.getD y 0 ∧ p.x.getD y 0 = q.x.getD y 0) (hb : Least P i m p) : Least P i m q := by
  obtain ⟨t, h1, h2, h3, h4, h5, hall⟩ := hb
  have hi := h i (Nat.le_refl _)
  have ht := h t (by omega)
  refine ⟨t, h1, h2, by rw [← hi.2.2]; exact h3, by rw [← hi.1, ← ht.1]; exact h4, by rw [← hi.2.1, ← ht.2.1]; exact h5, fun j hj hm => ?_⟩
  have hj' := h j (by omega)
  rw [← hi.1, ← hi.2.1, ← hj'.1, ← hj'.2.1]
  exact hall j hj hm
theorem least_pos {i m : Nat} {p : Rw} (hP : ∀ i j, i < j → j ≤ L → 0 ≤ P i j ∧ P i j ≤ 5000000) (h : Sh md L (i + 1) p) (hm : m ≤ L + 1) (hb : Least P i m p) : 0 ≤ p.c.getD i 0 := by
  obtain ⟨t, h1, h2, _, h4, _, _⟩ := hb
  have := hP i t h1 (by omega)
  have := h.pos t (by omega) (by omega)
  omega
theorem outr_all (hP : ∀ i j, i < j → j ≤ L → 0 ≤ P i j ∧ P i j ≤ 5000000) : ∀ (d : Nat) (p : Rw), d ≤ L → Sh md L d p → (∀ i, i < d → fresh md p i = true) → (∀ i, d ≤ i → i < L → Least P i (L + 1) p) →
    Sh md L 0 (outr P md L d p) ∧ ∀ i, i < L → Least P i (L + 1) (outr P md L d p)
  | 0, p, _, h, _, hb => ⟨h, fun i hi => hb i (Nat.zero_le _) hi⟩
  | d + 1, p, hd, h, hf, hb => by
    obtain ⟨g1, g2, g3⟩ := inn_all (P := P) hP (show d < L by omega) (L - d) (d + 1) p h (Nat.lt_succ_self d) (by omega) (.inl ⟨rfl, hf d (Nat.lt_succ_self d)⟩)
    rw [show d + 1 + (L - d) = L + 1 by omega] at g2
    have g2' : Least P d (L + 1) (inn P md d (L - d) (d + 1) p) := by
      rcases g2 with ⟨e, _⟩ | ⟨_, g⟩
      · omega
      · exact g
    refine outr_all hP d _ (by omega) ⟨g1.l1, g1.l2, g1.l3, g1.b, g1.e, fun y h1 h2 => ?_⟩ (fun i hi => ?_) (fun i hi hiL => ?_)
    · by_cases e : y = d
      · subst e
        exact least_pos hP g1 (Nat.le_refl _) g2'
      · exact g1.pos y (by omega) h2
    · have := hf i (by omega)
      obtain ⟨e1, _, e3⟩ := g3 i (by omega)
      unfold fresh at this ⊢
      rw [e1, e3]
      exact this
    · by_cases e : i = d
      · subst e
        exact g2'
      · refine least_congr (p := p) (fun y hy => ?_) (hb i (by omega) hiL)
        have := g3 y (by omega)
        exact ⟨this.1.symm, this.2.1.symm, this.2.2.symm⟩
/-- What is least is least: two such rows are the same. -/
theorem least_same {p q : Rw} (hp : ∀ i, i < L → Least P i (L + 1) p) (hq : ∀ i, i < L → Least P i (L + 1) q) (ep : p.c.getD L 0 = 0 ∧ p.k.getD L 0 = 0) (eq : q.c.getD L 0 = 0 ∧ q.k.getD L 0 = 0) :
    ∀ i, i ≤ L → (p.c.getD i 0 = q.c.getD i 0 ∧ p.k.getD i 0 = q.k.getD i 0) ∧ (i < L → p.x.getD i 0 = q.x.getD i 0) := by
  have key : ∀ i, i ≤ L → ∀ y, i ≤ y → y ≤ L → (p.c.getD y 0 = q.c.getD y 0 ∧ p.k.getD y 0 = q.k.getD y 0) ∧ (y < L → p.x.getD y 0 = q.x.getD y 0) := by
    refine down L ?_ (fun i hi ih => ?_)
    · intro y h1 h2
      have : y = L := by omega
      subst this
      exact ⟨⟨by rw [ep.1, eq.1], by rw [ep.2, eq.2]⟩, fun h => by omega⟩
    · intro y h1 h2
      by_cases e : y = i
      · subst e
        obtain ⟨t, t1, t2, t3, t4, t5, ha⟩ := hp y hi
        obtain ⟨s, s1, s2, s3, s4, s5, hb⟩ := hq y hi
        have it := (ih t (by omega) (by omega)).1
        have is := (ih s (by omega) (by omega)).1
        have a1 := ha s s1 s2
        have a2 := hb t t1 t2
        have ec : p.c.getD y 0 = q.c.getD y 0 ∧ p.k.getD y 0 = q.k.getD y 0 := by omega
        refine ⟨ec, fun _ => ?_⟩
        have hst : s = t := by
          rcases Nat.lt_trichotomy s t with hlt | he | hgt
          · have := a1.2 hlt
            omega
          · exact he
          · have := a2.2 hgt
            omega
        rw [t3, s3, hst]
      · exact ih y (by omega) h2
  exact fun i hi => key i hi i (Nat.le_refl _) hi
end

/-- The rows the program reckons, and those of the reference. -/
def implRw (P : Nat → Nat → Int) (L : Nat) : Rw := outr P true L L ⟨List.replicate (L + 1) 0, List.replicate (L + 1) 0, List.replicate (L + 1) 0⟩
def specRw (P : Nat → Nat → Int) (L : Nat) : Rw := outr P false L L ⟨(List.replicate (L + 1) (-1)).set L 0, List.replicate (L + 1) 0, List.replicate (L + 1) 0⟩
theorem rep_at {n y : Nat} (v : Int) (h : y < n) : (List.replicate n v).getD y 0 = v := by simp [List.getD_eq_getElem?_getD, h]
theorem implRw_all {P : Nat → Nat → Int} {L : Nat} (hP : ∀ i j, i < j → j ≤ L → 0 ≤ P i j ∧ P i j ≤ 5000000) : Sh true L 0 (implRw P L) ∧ ∀ i, i < L → Least P i (L + 1) (implRw P L) := by
  refine outr_all hP L _ (Nat.le_refl _) ⟨by simp, by simp, by simp, fun y hy => ?_, ?_, fun y h1 h2 => ?_⟩ (fun i hi => ?_) (fun i h1 h2 => by omega)
  · simp only [rep_at 0 (show y < L + 1 by omega)]
    omega
  · simp only [rep_at 0 (show L < L + 1 by omega), and_self]
  · simp only [rep_at 0 (show y < L + 1 by omega)]
    omega
  · simp only [fresh, if_true, rep_at 0 (show i < L + 1 by omega), decide_true]
theorem specRw_all {P : Nat → Nat → Int} {L : Nat} (hP : ∀ i j, i < j → j ≤ L → 0 ≤ P i j ∧ P i j ≤ 5000000) : Sh false L 0 (specRw P L) ∧ ∀ i, i < L → Least P i (L + 1) (specRw P L) := by
  have e0 : ((List.replicate (L + 1) (-1 : Int)).set L 0).getD L 0 = 0 := getD_set_self 0 _ L 0 (by simp)
  have e1 : ∀ y, y < L → ((List.replicate (L + 1) (-1 : Int)).set L 0).getD y 0 = -1 := fun y hy => by rw [getD_set_at 0 _ L y 0 (by omega), rep_at (-1) (by omega)]
  refine outr_all hP L _ (Nat.le_refl _) ⟨by simp, by simp, by simp, fun y hy => ?_, ?_, fun y h1 h2 => ?_⟩ (fun i hi => ?_) (fun i h1 h2 => by omega)
  · simp only [rep_at 0 (show y < L + 1 by omega)]
    by_cases e : y = L
    · subst e
      rw [e0]
      omega
    · rw [e1 y (by omega)]
      omega
  · simp only [rep_at 0 (show L < L + 1 by omega), e0, and_self]
  · have : y = L := by omega
    subst this
    simp only [e0]
    omega
  · simp only [fresh, Bool.false_eq_true, if_false, e1 i hi, decide_eq_true_eq]
    omega
def cst (P : Nat → Nat → Int) (L i : Nat) : Int := (implRw P L).c.getD i 0
def cnt (P : Nat → Nat → Int) (L i : Nat) : Int := (implRw P L).k.getD i 0
def nxt (P : Nat → Nat → Int) (L i : Nat) : Nat := ((implRw P L).x.getD i 0).toNat
section
variable {P : Nat → Nat → Int} {L : Nat}
theorem spec_same (hP : ∀ i j, i < j → j ≤ L → 0 ≤ P i j ∧ P i j ≤ 5000000) {i : Nat} (hi : i ≤ L) : (specRw P L).c.getD i 0 = cst P L i ∧ (specRw P L).k.getD i 0 = cnt P L i := by
  have := (least_same (specRw_all hP).2 (implRw_all hP).2 (specRw_all hP).1.e (implRw_all hP).1.e i hi).1
  exact this
theorem nxt_is (hP : ∀ i j, i < j → j ≤ L → 0 ≤ P i j ∧ P i j ≤ 5000000) {i : Nat} (hi : i < L) : i < nxt P L i ∧ nxt P L i ≤ L ∧ (implRw P L).x.getD i 0 = (nxt P L i : Int) ∧ cst P L i = P i (nxt P L i) + cst P L (nxt P L i) ∧ cnt P L i = cnt P L (nxt P L i) + 1 ∧
    ∀ j, i < j → j ≤ L → (cst P L i < P i j + cst P L j ∨ (cst P L i = P i j + cst P L j ∧ cnt P L i ≤ cnt P L j + 1)) ∧ (j < nxt P L i → cst P L i < P i j + cst P L j ∨ (cst P L i = P i j + cst P L j ∧ cnt P L i < cnt P L j + 1)) := by
  obtain ⟨t, h1, h2, h3, h4, h5, hall⟩ := (implRw_all hP).2 i hi
  have e : nxt P L i = t := by unfold nxt; rw [h3]; omega
  rw [e]
  exact ⟨h1, by omega, h3, h4, h5, fun j a b => hall j a (by omega)⟩
theorem cst_end (hP : ∀ i j, i < j → j ≤ L → 0 ≤ P i j ∧ P i j ≤ 5000000) : cst P L L = 0 := (implRw_all hP).1.e.1
theorem cst_b (hP : ∀ i j, i < j → j ≤ L → 0 ≤ P i j ∧ P i j ≤ 5000000) {i : Nat} (hi : i ≤ L) : 0 ≤ cst P L i ∧ cst P L i ≤ 5000000 * ((L : Int) - i) ∧ 0 ≤ cnt P L i ∧ cnt P L i ≤ (L : Int) - i := by
  have h1 := (implRw_all hP).1.b i hi
  have h2 := (implRw_all hP).1.pos i (Nat.zero_le _) hi
  exact ⟨h2, h1.2.1, h1.2.2⟩
end
/-- The places where it is cut, from a place on. -/
def wlk (P : Nat → Nat → Int) (L : Nat) : Nat → Nat → List Int
  | 0, _ => []
  | d + 1, i => if i < L then (i : Int) :: wlk P L d (nxt P L i) else []
theorem wlk_end (P : Nat → Nat → Int) (L : Nat) : ∀ d, wlk P L d L = []
  | 0 => rfl
  | d + 1 => by simp [wlk]
theorem wlk_len (P : Nat → Nat → Int) (L : Nat) : ∀ d i, (wlk P L d i).length ≤ d
  | 0, _ => Nat.le_refl _
  | d + 1, i => by
    have := wlk_len P L d (nxt P L i)
    simp only [wlk]
    split
    · simp only [List.length_cons]; omega
    · simp
end Go.Proofs.Ytcihaeggjfpacaa.Pure
