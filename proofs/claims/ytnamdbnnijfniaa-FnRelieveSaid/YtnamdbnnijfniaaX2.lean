/- The duties told for a chain: both programs tell the walk along the fewest duties. -/
import Derived.Test.YtnamdbnnijfniaaX1
namespace Go.Proofs.Ytnamdbnnijfniaa.Pure
open Go.RowKit Go.Proofs.Ytnamdbnnijfniaa.P Go.Proofs.YtnamdbnnijfniaaW.PrintWords Go.Proofs.YtnamdbnnijfniaaW.PrintLast

theorem rdn (l : List Int) (i : Nat) : rd l (i : Int) = l.getD i 0 := by simp [rd]

theorem placesB_iff {N : Int} {l : List Int} : placesB N l = true ↔ ∀ i, i < l.length → (0 ≤ l.getD i 0 ∧ l.getD i 0 < N) ∧ ∀ j, j < i → l.getD j 0 ≠ l.getD i 0 := by
  have hany : ∀ i, i < l.length → ((l.take i).any (fun y => decide (y = l.getD i 0)) = false ↔ ∀ j, j < i → l.getD j 0 ≠ l.getD i 0) := by
    intro i hi
    rw [List.any_eq_false]
    constructor
    · intro h j hj e
      refine h (l.getD j 0) ?_ (by simpa using e)
      refine List.mem_iff_getElem.2 ⟨j, by simp; omega, ?_⟩
      rw [List.getElem_take]
      simp [List.getD_eq_getElem?_getD, List.getElem?_eq_getElem (show j < l.length by omega)]
    · intro h x hx
      obtain ⟨j, hj, rfl⟩ := List.mem_iff_getElem.1 hx
      have hj' : j < i := by simp at hj; omega
      rw [List.getElem_take]
      have := h j hj'
      simpa [List.getD_eq_getElem?_getD, List.getElem?_eq_getElem (show j < l.length by omega)] using this
  have key : ∀ d, d ≤ l.length → (placesFrom N l d = true ↔ ∀ i, l.length - d ≤ i → i < l.length → (0 ≤ l.getD i 0 ∧ l.getD i 0 < N) ∧ ∀ j, j < i → l.getD j 0 ≠ l.getD i 0) := by
    intro d
    induction d with
    | zero => intro _; exact ⟨fun _ i h1 h2 => by omega, fun _ => rfl⟩
    | succ d ih =>
      intro hd
      have ih := ih (by omega)
      unfold placesFrom
      simp only [Bool.and_eq_true, inB_iff, Bool.not_eq_true', ih, hany (l.length - (d + 1)) (by omega)]
      constructor
      · intro ⟨⟨⟨h1, h2⟩, h3⟩, h4⟩ i hi1 hi2
        by_cases e : i = l.length - (d + 1)
        · subst e
          exact ⟨⟨h1, by omega⟩, h3⟩
        · exact h4 i (by omega) hi2
      · intro h
        have := h (l.length - (d + 1)) (Nat.le_refl _) (by omega)
        exact ⟨⟨⟨this.1.1, by omega⟩, this.2⟩, fun i h1 h2 => h i (by omega) h2⟩
  unfold placesB
  rw [key l.length (Nat.le_refl _)]
  exact ⟨fun h i hi => h i (by omega) hi, fun h i _ hi => h i hi⟩

/-- A piece of a row. -/
def sl (l : List Int) (i j : Nat) : List Int := (l.take j).drop i
theorem sl_len {l : List Int} {i j : Nat} (hj : j ≤ l.length) : (sl l i j).length = j - i := by simp [sl]; omega
theorem sl_at {l : List Int} {i j x : Nat} (hx : x < j - i) : (sl l i j).getD x 0 = l.getD (i + x) 0 := by
  unfold sl
  simp only [List.getD_eq_getElem?_getD, List.getElem?_drop, List.getElem?_take, show i + x < j by omega, if_true]
theorem sl_duty {n : List S52} {l : List Int} (ht : tasksB n = true) (hp : placesB n.length l = true) {i j : Nat} (hij : i < j) (hj : j ≤ l.length) (h12 : j ≤ i + 12) : dutyB n (sl l i j) = true := by
  unfold dutyB
  simp only [Bool.and_eq_true, inB_iff, ht, sl_len hj]
  refine ⟨⟨trivial, by omega⟩, placesB_iff.2 (fun x hx => ?_)⟩
  rw [sl_len hj] at hx
  have h := placesB_iff.1 hp (i + x) (by omega)
  rw [sl_at hx]
  refine ⟨h.1, fun y hy => ?_⟩
  rw [sl_at (by omega)]
  exact h.2 _ (by omega)
/-- Is a piece of the chain a duty that is fine? -/
def fnB (n : List S52) (l : List Int) (a b c d : Int) (i j : Nat) : Bool := decide (codeV n (sl l i j) a b c d = 0)
theorem fnB_long {n : List S52} {l : List Int} {a b c d : Int} {i j : Nat} (hj : j ≤ l.length) (h : i + 12 < j) : fnB n l a b c d i j = false := by
  unfold fnB codeV dutyB
  have : inB ((sl l i j).length : Int) 1 12 = false := by
    rw [sl_len hj]
    simp [inB]
    omega
  simp [this]

/-- A chain and a rule that are right. -/
structure Hc (n : List S52) (l : List Int) (a b c d : Int) : Prop where
  t : tasksB n = true
  p : placesB n.length l = true
  r : ruleB a b c d = true
  le : l.length ≤ 40
section
variable {n : List S52} {l : List Int} {a b c d : Int}
theorem Hc.nle (H : Hc n l a b c d) : n.length ≤ 1048576 := by have := (tasksB_parts H.t).1; omega
theorem impl_code_sl (H : Hc n l a b c d) {i j : Nat} (hij : i < j) (hj : j ≤ l.length) (h12 : j ≤ i + 12) : Ev (fun k => impl_dutyCode.f k n (sl l i j) a b c d) (codeV n (sl l i j) a b c d) := by
  have hd := sl_duty H.t H.p hij hj h12
  have := impl_code_low hd a b c d
  unfold codeV
  rw [hd, H.r]
  simpa using this
theorem spec_code_sl (H : Hc n l a b c d) (i j : Nat) : Ev (fun k => spec_DutyCode.f k n (sl l i j) a b c d) (codeV n (sl l i j) a b c d) :=
  spec_code_all n _ a b c d H.nle (by have := H.le; simp [sl]; omega)

theorem impl_inn (H : Hc n l a b c d) {r : List Int × Bool} {i : Nat} (hi : i < l.length) : ∀ (e j : Nat) (p : List Int × List Int), Sh l.length p → i < j → j + e = min l.length (i + 12) + 1 →
    Ev (fun k => impl_Relieve.l0 k n l l.length (inn (fnB n l a b c d) i e j p).1 (inn (fnB n l a b c d) i e j p).2 ((i : Int) - 1) a b c d) r → Ev (fun k => impl_Relieve.l1 k n l l.length p.1 p.2 i j a b c d) r
  | 0, j, p, h, hij, hje, hr => by
    have hle := H.le
    have hw : wrap64 ((i : Int) + 12) = (i : Int) + 12 := w64 (by omega) (by omega)
    have hw1 : wrap64 ((i : Int) - 1) = (i : Int) - 1 := w64 (by omega) (by omega)
    have hm : mn (l.length : Int) ((i : Int) + 12) = ((min l.length (i + 12) : Nat) : Int) := by unfold mn; split <;> omega
    refine ev_at hr (fun k => ?_)
    simp only [impl_Relieve.l1, hw, hm, hw1]
    rw [if_neg (by omega)]
    rfl
  | e + 1, j, p, h, hij, hje, hr => by
    have hle := H.le
    have hw : wrap64 ((i : Int) + 12) = (i : Int) + 12 := w64 (by omega) (by omega)
    have hm : mn (l.length : Int) ((i : Int) + 12) = ((min l.length (i + 12) : Nat) : Int) := by unfold mn; split <;> omega
    have hj1 : wrap64 ((j : Int) + 1) = ((j + 1 : Nat) : Int) := w64s (show j < j + 1 by omega) (by omega)
    have hb := h.b j (by omega)
    have hv : wrap64 (p.1.getD j 0 + 1) = p.1.getD j 0 + 1 := w64 (by omega) (by omega)
    have ih := impl_inn H (r := r) hi e (j + 1) (stp (fnB n l a b c d) i j p) (stp_sh h hi hij (by omega)) (by omega) (by omega) hr
    have l1 := h.l1
    have l2 := h.l2
    have go : ∀ q : Bool, stp (fnB n l a b c d) i j p = p → q = true → Ev (fun k => impl_Relieve.j3 k n l l.length p.1 p.2 i j q a b c d) r := fun q hs hq => by
      rw [hs] at ih
      subst hq
      exact ev_at ih (fun k => by simp [impl_Relieve.j3, hj1])
    refine ev_at (f := fun k => if p.1.getD j 0 < 0 then impl_Relieve.j3 k n l l.length p.1 p.2 i j true a b c d else (impl_dutyCode.f k n (sl l i j) a b c d).bind fun t => impl_Relieve.j3 k n l l.length p.1 p.2 i j (t != 0) a b c d) ?_ (fun k => ?_)
    · by_cases h0 : p.1.getD j 0 < 0
      · simp only [h0, if_true]
        exact go true (by unfold stp; rw [if_neg (by omega)]) rfl
      · simp only [h0, if_false]
        refine Ev.bind (impl_code_sl H hij (by omega) (by omega)) ?_
        by_cases hc : codeV n (sl l i j) a b c d = 0
        · have hF : fnB n l a b c d i j = true := by simp [fnB, hc]
          rw [hc]
          refine ev_at ih (fun k => ?_)
          have f1 : ((i : Int) < p.1.length) := by omega
          have f2 : ((j : Int) < p.1.length) := by omega
          have f3 : ((i : Int) < p.2.length) := by omega
          have f4 : (0 : Int) ≤ i := by omega
          have f5 : (0 : Int) ≤ j := by omega
          simp only [impl_Relieve.j3, bne_self_eq_false, Bool.false_eq_true, if_false, rdn, hv, hj1, if_pos f1, if_pos f2, if_pos f3, if_pos f4, if_pos f5, Int.toNat_natCast]
          unfold stp
          by_cases g1 : p.1.getD i 0 < 0
          · rw [if_pos g1, if_pos ⟨by omega, hF, .inl g1⟩]
          · rw [if_neg g1]
            by_cases g2 : p.1.getD j 0 + 1 < p.1.getD i 0
            · rw [if_pos g2, if_pos ⟨by omega, hF, .inr g2⟩]
            · rw [if_neg g2, if_neg (by omega)]
        · have hF : fnB n l a b c d i j = false := by simp [fnB, hc]
          exact go _ (by unfold stp; rw [if_neg (by simp [hF])]) (by simp [hc])
    · have f1 : (j : Int) ≤ ((min l.length (i + 12) : Nat) : Int) := by omega
      have f2 : ((j : Int) < p.1.length) := by omega
      have f3 : (0 : Int) ≤ j := by omega
      have f4 : (0 : Int) ≤ i := by omega
      have f5 : (i : Int) ≤ j := by omega
      have f6 : (j : Int) ≤ l.length := by omega
      simp only [impl_Relieve.l1, hw, hm, rdn, if_pos f1, if_pos f2, if_pos f3, if_pos f4, if_pos f5, if_pos f6, Int.toNat_natCast]
      rfl

theorem impl_outr (H : Hc n l a b c d) {r : List Int × Bool} : ∀ (x : Nat) (p : List Int × List Int), x ≤ l.length → Sh l.length p →
    Ev (fun k => impl_Relieve.l0 k n l l.length (outr (fnB n l a b c d) l.length x p).1 (outr (fnB n l a b c d) l.length x p).2 (-1) a b c d) r → Ev (fun k => impl_Relieve.l0 k n l l.length p.1 p.2 ((x : Int) - 1) a b c d) r
  | 0, p, _, _, hr => hr
  | x + 1, p, hx, h, hr => by
    have hle := H.le
    have h0 : Sh l.length (p.1.set x (-1), p.2) := set_sh h hx
    have hb0 : BestTo (fnB n l a b c d) x (x + 1) (p.1.set x (-1), p.2) := .inl ⟨getD_set_self 0 p.1 x _ (by rw [h.l1]; omega), fun j h1 h2 => by omega⟩
    have ih := impl_outr H (r := r) x (inn (fnB n l a b c d) x (min l.length (x + 12) - x) (x + 1) (p.1.set x (-1), p.2)) (by omega) (inn_all hx _ _ _ h0 (Nat.lt_succ_self x) (by omega) hb0).1 hr
    have := impl_inn H (r := r) hx (min l.length (x + 12) - x) (x + 1) (p.1.set x (-1), p.2) h0 (Nat.lt_succ_self x) (by omega) ih
    refine ev_at this (fun k => ?_)
    have l1 := h.l1
    have e : (((x + 1 : Nat) : Int) - 1) = (x : Int) := by omega
    have hw : wrap64 ((x : Int) + 1) = ((x + 1 : Nat) : Int) := w64s (show x < x + 1 by omega) (by omega)
    rw [e]
    simp only [impl_Relieve.l0, hw, Int.toNat_natCast]
    rw [if_pos (by omega), if_pos (by omega), if_pos (by omega)]
theorem spec_inn (H : Hc n l a b c d) {r : List Int × Bool} {i : Nat} (hi : i < l.length) : ∀ (e j : Nat) (p : List Int × List Int), Sh l.length p → i < j → j + e = min l.length (i + 12) + 1 →
    Ev (fun k => spec_Relieve.l0 k n l (inn (fnB n l a b c d) i e j p).1 ((i : Int) - 1) a b c d) r → Ev (fun k => spec_Relieve.l1 k n l p.1 i j a b c d) r
  | 0, j, p, h, hij, hje, hr => by
    have hle := H.le
    have hw : wrap64 ((i : Int) + 12) = (i : Int) + 12 := w64 (by omega) (by omega)
    have hw1 : wrap64 ((i : Int) - 1) = (i : Int) - 1 := w64 (by omega) (by omega)
    have hr2 : Ev (fun k => spec_Relieve.j3 k n l p.1 i j false a b c d) r := ev_at hr (fun k => by simp only [spec_Relieve.j3, hw1, Bool.false_eq_true, if_false]; rfl)
    refine ev_at hr2 (fun k => ?_)
    simp only [spec_Relieve.l1, hw]
    by_cases h1 : (j : Int) ≤ l.length
    · rw [if_pos h1, decide_eq_false (by omega)]
    · rw [if_neg h1]
  | e + 1, j, p, h, hij, hje, hr => by
    have hle := H.le
    have hw : wrap64 ((i : Int) + 12) = (i : Int) + 12 := w64 (by omega) (by omega)
    have hj1 : wrap64 ((j : Int) + 1) = ((j + 1 : Nat) : Int) := w64s (show j < j + 1 by omega) (by omega)
    have hb := h.b j (by omega)
    have hv : wrap64 (p.1.getD j 0 + 1) = p.1.getD j 0 + 1 := w64 (by omega) (by omega)
    have ih := spec_inn H (r := r) hi e (j + 1) (stp (fnB n l a b c d) i j p) (stp_sh h hi hij (by omega)) (by omega) (by omega) hr
    have l1 := h.l1
    have f1 : ((i : Int) < p.1.length) := by omega
    have f2 : ((j : Int) < p.1.length) := by omega
    have f4 : (0 : Int) ≤ i := by omega
    have f5 : (0 : Int) ≤ j := by omega
    have f6 : (i : Int) ≤ j := by omega
    have f7 : (j : Int) ≤ l.length := by omega
    have f8 : (j : Int) ≤ (i : Int) + 12 := by omega
    refine ev_at (f := fun k => spec_Relieve.j3 k n l p.1 i j true a b c d) ?_ (fun k => by simp only [spec_Relieve.l1, hw, if_pos f7, decide_eq_true f8])
    refine ev_at (f := fun k => if p.1.getD j 0 ≥ 0 then (spec_DutyCode.f k n (sl l i j) a b c d).bind fun t => if t = 0 then if p.1.getD i 0 < 0 then spec_Relieve.l1 k n l (p.1.set i (p.1.getD j 0 + 1)) i ((j + 1 : Nat) : Int) a b c d else if p.1.getD j 0 + 1 < p.1.getD i 0 then spec_Relieve.l1 k n l (p.1.set i (p.1.getD j 0 + 1)) i ((j + 1 : Nat) : Int) a b c d else spec_Relieve.l1 k n l p.1 i ((j + 1 : Nat) : Int) a b c d else spec_Relieve.l1 k n l p.1 i ((j + 1 : Nat) : Int) a b c d else spec_Relieve.l1 k n l p.1 i ((j + 1 : Nat) : Int) a b c d) ?_
      (fun k => by simp only [spec_Relieve.j3, if_true, rdn, hv, hj1, if_pos f1, if_pos f2, if_pos f4, if_pos f5, if_pos f6, if_pos f7, Int.toNat_natCast]; rfl)
    by_cases h0 : p.1.getD j 0 ≥ 0
    · simp only [h0, if_true]
      refine Ev.bind (spec_code_sl H i j) ?_
      by_cases hc : codeV n (sl l i j) a b c d = 0
      · have hF : fnB n l a b c d i j = true := by simp [fnB, hc]
        simp only [hc, if_true]
        unfold stp at ih
        by_cases g1 : p.1.getD i 0 < 0
        · rw [if_pos ⟨h0, hF, .inl g1⟩] at ih
          simp only [g1, if_true]
          exact ih
        · simp only [g1, if_false]
          by_cases g2 : p.1.getD j 0 + 1 < p.1.getD i 0
          · rw [if_pos ⟨h0, hF, .inr g2⟩] at ih
            simp only [g2, if_true]
            exact ih
          · rw [if_neg (by omega)] at ih
            simp only [g2, if_false]
            exact ih
      · have hF : fnB n l a b c d i j = false := by simp [fnB, hc]
        unfold stp at ih
        rw [if_neg (by simp [hF])] at ih
        simp only [hc, if_false]
        exact ih
    · unfold stp at ih
      rw [if_neg (by omega)] at ih
      simp only [h0, if_false]
      exact ih

theorem spec_outr (H : Hc n l a b c d) {r : List Int × Bool} : ∀ (x : Nat) (p : List Int × List Int), x ≤ l.length → Sh l.length p →
    Ev (fun k => spec_Relieve.l0 k n l (outr (fnB n l a b c d) l.length x p).1 (-1) a b c d) r → Ev (fun k => spec_Relieve.l0 k n l p.1 ((x : Int) - 1) a b c d) r
  | 0, p, _, _, hr => hr
  | x + 1, p, hx, h, hr => by
    have hle := H.le
    have h0 : Sh l.length (p.1.set x (-1), p.2) := set_sh h hx
    have hb0 : BestTo (fnB n l a b c d) x (x + 1) (p.1.set x (-1), p.2) := .inl ⟨getD_set_self 0 p.1 x _ (by rw [h.l1]; omega), fun j h1 h2 => by omega⟩
    have ih := spec_outr H (r := r) x (inn (fnB n l a b c d) x (min l.length (x + 12) - x) (x + 1) (p.1.set x (-1), p.2)) (by omega) (inn_all hx _ _ _ h0 (Nat.lt_succ_self x) (by omega) hb0).1 hr
    have := spec_inn H (r := r) hx (min l.length (x + 12) - x) (x + 1) (p.1.set x (-1), p.2) h0 (Nat.lt_succ_self x) (by omega) ih
    refine ev_at this (fun k => ?_)
    have l1 := h.l1
    have e : (((x + 1 : Nat) : Int) - 1) = (x : Int) := by omega
    have hw : wrap64 ((x : Int) + 1) = ((x + 1 : Nat) : Int) := w64s (show x < x + 1 by omega) (by omega)
    rw [e]
    simp only [spec_Relieve.l0, hw, Int.toNat_natCast]
    rw [if_pos (by omega), if_pos (by omega), if_pos (by omega)]

end
end Go.Proofs.Ytnamdbnnijfniaa.Pure
