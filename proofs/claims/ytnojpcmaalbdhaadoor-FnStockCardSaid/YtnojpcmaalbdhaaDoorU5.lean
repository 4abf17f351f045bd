/- A drawn formation is right. -/
import Derived.Test.YtnojpcmaalbdhaaDoorX1
import Derived.Test.YtnojpcmaalbdhaaDoorF
namespace Go.Proofs.YtnojpcmaalbdhaaDoor.Pure
open Go.RowKit Go.Proofs.YtnojpcmaalbdhaaDoor.P Go.Proofs.YtnojpcmaalbdhaaDoorW.PrintWords Go.Proofs.YtnojpcmaalbdhaaDoorW.PrintLast
set_option linter.unusedSimpArgs false
set_option linter.unusedVariables false

theorem once_then {α : Type} {Q : α → Prop} (b : List Int) (i h n : Int) (hb : b.length ≤ 1048576) (hi : At b i) (hn : 1 ≤ n) (hn2 : n ≤ 1000000) {f : Nat → Bool × Int × Int → Option α}
    (k : ∀ v i' h', At b i' → EvP (fun m => f m (v, i', h')) Q) : EvP (fun m => (spec_l01Once.f b i h n).bind (f m)) Q := by
  obtain ⟨v, i', h', e, hv, hi'⟩ := l01Below b i h n hb hi hn hn2
  unfold spec_l01Once.f
  simp only [e, Option.bind_some]
  exact k _ i' h' hi'
theorem size_l (l : List Int) (hl : l.length ≤ 1048576) : ∃ t : Nat, spec_l01Size.f l 7 = some (t : Int) ∧ 1 ≤ t ∧ t ≤ 7 := by
  unfold spec_l01Size.f
  have h1 : 0 ≤ (l.length : Int) / 16 ∧ (l.length : Int) / 16 ≤ 1048576 := by omega
  rw [w64 (x := (l.length : Int) / 16) (by omega) (by omega), w64 (x := 2 + (l.length : Int) / 16) (by omega) (by omega)]
  by_cases h : 2 + (l.length : Int) / 16 > 7
  · rw [if_pos h]; exact ⟨7, rfl, by omega, by omega⟩
  · rw [if_neg h]; exact ⟨(2 + (l.length : Int) / 16).toNat, by rw [Int.toNat_of_nonneg (by omega)], by omega, by omega⟩
/-- Units as they are drawn: each one's number in a span of its own, all in bounds. -/
def Ord (base : Int) (l : List S43) : Prop := ∀ (j : Nat) (h : j < l.length), (base + 3 * j ≤ l[j].f0 ∧ l[j].f0 < base + 3 * j + 3) ∧ (1 ≤ l[j].f1 ∧ l[j].f1 ≤ 9) ∧ 1 ≤ l[j].f2 ∧ l[j].f2 ≤ 200
theorem ord_snoc {base : Int} {l : List S43} (h : Ord base l) (u : S43) (hu : (base + 3 * l.length ≤ u.f0 ∧ u.f0 < base + 3 * l.length + 3) ∧ (1 ≤ u.f1 ∧ u.f1 ≤ 9) ∧ 1 ≤ u.f2 ∧ u.f2 ≤ 200) : Ord base (l ++ [u]) := by
  intro j hj
  rw [List.length_append, List.length_singleton] at hj
  by_cases c : j < l.length
  · have e : (l ++ [u])[j]'(by rw [List.length_append, List.length_singleton]; omega) = l[j] := by simp [List.getElem_append, c]
    rw [e]; exact h j c
  · have hj' : j = l.length := by omega
    subst hj'
    have e : (l ++ [u])[l.length]'(by rw [List.length_append, List.length_singleton]; omega) = u := by simp
    rw [e]; exact hu
theorem ord_form {base : Int} (hb : 1 ≤ base ∧ base ≤ 100) {l : List S43} (hl : l.length ≤ 7) (h : Ord base l) : formB l = true := by
  rw [formB_iff]
  refine ⟨by omega, fun u hu => ?_, ?_⟩
  · obtain ⟨j, hj, rfl⟩ := List.mem_iff_getElem.1 hu
    have := h j hj
    rw [unit_iff]; omega
  · unfold List.Nodup
    rw [List.pairwise_map, List.pairwise_iff_getElem]
    intro a b ha hb' hab
    have h1 := h a ha
    have h2 := h b hb'
    omega
abbrev Row (base : Int) (n : Nat) (r : List S43 × Int × Int) : Prop := r.1.length = n ∧ Ord base r.1
theorem draw_right (b : List Int) (hb : b.length ≤ 1048576) (n : Nat) (hn : n ≤ 7) (i h base : Int) (hbase : 1 ≤ base ∧ base ≤ 100) (flag : Bool) (hi : At b i) : EvP (fun k => spec_l15DrawRight.f k b i h n base flag) (Row base n) := by
  have key : ∀ c : Nat, ∀ (acc : List S43) (cl i h : Int), acc.length + c = n → Ord base acc → (1 ≤ cl ∧ cl ≤ 9) → At b i → EvP (fun k => spec_l15DrawRight.l0 k n base flag acc cl acc.length b i h) (Row base n) := by
    intro c
    induction c with
    | zero =>
      intro acc cl i h hc ho hcl hi
      refine evp_of (ev_some (r := (acc, i, h)) (fun k => ?_)) ⟨by simpa using hc, ho⟩
      simp only [spec_l15DrawRight.l0, show ¬ ((acc.length : Int) < (n : Int)) by omega, if_false]
    | succ c ih =>
      intro acc cl i h hc ho hcl hi
      have e1 : wrap64 ((acc.length : Int) + 1) = ((acc.length + 1 : Nat) : Int) := w64s (n := 101) (by omega) (by omega)
      have e2 : acc.length < 4398046511104 := by omega
      have e3 : (acc.length : Int) < (n : Int) := by omega
      have next : ∀ (u : S43) (cl i h : Int), ((base + 3 * acc.length ≤ u.f0 ∧ u.f0 < base + 3 * acc.length + 3) ∧ (1 ≤ u.f1 ∧ u.f1 ≤ 9) ∧ 1 ≤ u.f2 ∧ u.f2 ≤ 200) → (1 ≤ cl ∧ cl ≤ 9) → At b i → EvP (fun k => spec_l15DrawRight.l0 k n base flag (acc ++ [u]) cl ((acc.length + 1 : Nat) : Int) b i h) (Row base n) := by
        intro u cl i h hu hcl hi
        have := ih (acc ++ [u]) cl i h (by simp; omega) (ord_snoc ho u hu) hcl hi
        simpa using this
      cases flag with
      | true =>
        refine evp_at (f := fun k => (spec_l01Below.f b i h 3).bind fun b1 => (spec_l01Below.f b b1.2.1 b1.2.2 40).bind fun b2 => (spec_l01Once.f b b2.2.1 b2.2.2 3).bind fun b3 =>
          spec_l15DrawRight.l0 k n base true (acc ++ [⟨wrap64 ((wrap64 (base + (wrap64 ((acc.length : Int) * 3)))) + b1.1), cl, wrap64 (10 + b2.1), b3.1⟩]) cl ((acc.length + 1 : Nat) : Int) b b3.2.1 b3.2.2) ?_ (fun k => ?_)
        · refine below_then b i h 3 hb hi (by omega) (by omega) (fun v1 i1 h1 a1 b1 hi1 => ?_)
          refine below_then b i1 h1 40 hb hi1 (by omega) (by omega) (fun v2 i2 h2 a2 b2 hi2 => ?_)
          exact once_then b i2 h2 3 hb hi2 (by omega) (by omega) (fun v3 i3 h3 hi3 => next _ _ _ _ (by
            have e4 : wrap64 ((acc.length : Int) * 3) = (acc.length : Int) * 3 := w64 (by omega) (by omega)
            have e5 : wrap64 (base + (acc.length : Int) * 3) = base + (acc.length : Int) * 3 := w64 (by omega) (by omega)
            have e6 : wrap64 (base + (acc.length : Int) * 3 + v1) = base + (acc.length : Int) * 3 + v1 := w64 (by omega) (by omega)
            have e7 : wrap64 (10 + v2) = 10 + v2 := w64 (by omega) (by omega)
            dsimp only
            rw [e4, e5, e6, e7]
            omega) hcl hi3)
        · simp only [spec_l15DrawRight.l0, e3, if_true, e2, e1]
      | false =>
        refine evp_at (f := fun k => (spec_l01Below.f b i h 9).bind fun b0 => (spec_l01Below.f b b0.2.1 b0.2.2 3).bind fun b1 => (spec_l01Below.f b b1.2.1 b1.2.2 40).bind fun b2 => (spec_l01Once.f b b2.2.1 b2.2.2 3).bind fun b3 =>
          spec_l15DrawRight.l0 k n base false (acc ++ [⟨wrap64 ((wrap64 (base + (wrap64 ((acc.length : Int) * 3)))) + b1.1), wrap64 (1 + b0.1), wrap64 (10 + b2.1), b3.1⟩]) (wrap64 (1 + b0.1)) ((acc.length + 1 : Nat) : Int) b b3.2.1 b3.2.2) ?_ (fun k => ?_)
        · refine below_then b i h 9 hb hi (by omega) (by omega) (fun v0 i0 h0 a0 b0 hi0 => ?_)
          refine below_then b i0 h0 3 hb hi0 (by omega) (by omega) (fun v1 i1 h1 a1 b1 hi1 => ?_)
          refine below_then b i1 h1 40 hb hi1 (by omega) (by omega) (fun v2 i2 h2 a2 b2 hi2 => ?_)
          exact once_then b i2 h2 3 hb hi2 (by omega) (by omega) (fun v3 i3 h3 hi3 => next _ _ _ _ (by
            have e4 : wrap64 ((acc.length : Int) * 3) = (acc.length : Int) * 3 := w64 (by omega) (by omega)
            have e5 : wrap64 (base + (acc.length : Int) * 3) = base + (acc.length : Int) * 3 := w64 (by omega) (by omega)
            have e6 : wrap64 (base + (acc.length : Int) * 3 + v1) = base + (acc.length : Int) * 3 + v1 := w64 (by omega) (by omega)
            have e7 : wrap64 (10 + v2) = 10 + v2 := w64 (by omega) (by omega)
            have e8 : wrap64 (1 + v0) = 1 + v0 := w64 (by omega) (by omega)
            dsimp only
            rw [e4, e5, e6, e7, e8]
            omega) (by rw [w64 (x := 1 + v0) (by omega) (by omega)]; omega) hi3)
        · simp only [spec_l15DrawRight.l0, e3, if_true, e2, e1, Bool.false_eq_true, if_false]
  unfold spec_l15DrawRight.f
  refine below_then b i h 9 hb hi (by omega) (by omega) (fun v i' h' a9 b9 hi' => ?_)
  simpa using key n [] (wrap64 (1 + v)) i' h' (by simp) (fun j hj => absurd hj (by simp)) (by rw [w64 (x := 1 + v) (by omega) (by omega)]; omega) hi'

theorem draw_form (l : List Int) (hl : l.length ≤ 1048576) : EvP (fun k => spec_DrawRightForm.f k l) (fun r => formB r = true ∧ r.length ≤ 7) := by
  unfold spec_DrawRightForm.f
  refine evp_bind (l01New l hl) (fun c hc => ?_)
  obtain ⟨b, i, h⟩ := c
  obtain ⟨rfl, hi⟩ := hc
  dsimp only at hl hi ⊢
  obtain ⟨t, et, t1, t7⟩ := size_l b hl
  simp only [et, Option.bind_some]
  refine below_then b i h t hl hi (by omega) (by omega) (fun v1 i1 h1 a1 b1 hi1 => ?_)
  refine below_then b i1 h1 90 hl hi1 (by omega) (by omega) (fun v2 i2 h2 a2 b2 hi2 => ?_)
  refine once_then b i2 h2 2 hl hi2 (by omega) (by omega) (fun v3 i3 h3 hi3 => ?_)
  dsimp only
  rw [w64 (x := 1 + v2) (by omega) (by omega)]
  obtain ⟨n, rfl⟩ := Int.eq_ofNat_of_zero_le a1
  refine evp_bind (draw_right b hl n (by omega) i3 h3 (1 + v2) (by omega) v3 hi3) (fun r hr => ?_)
  obtain ⟨r1, r2⟩ := hr
  exact evp_now _ ⟨ord_form (by omega) (by omega) r2, by omega⟩
end Go.Proofs.YtnojpcmaalbdhaaDoor.Pure
