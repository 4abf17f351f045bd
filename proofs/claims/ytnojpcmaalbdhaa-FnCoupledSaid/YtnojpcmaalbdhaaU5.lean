/- What is drawn for a coupling ends, and is short. -/
import Derived.Test.YtnojpcmaalbdhaaU4
import Derived.Test.YtnojpcmaalbdhaaF0
namespace Go.Proofs.Ytnojpcmaalbdhaa.Pure
open Go.RowKit Go.Proofs.Ytnojpcmaalbdhaa.P Go.Proofs.YtnojpcmaalbdhaaW.PrintWords Go.Proofs.YtnojpcmaalbdhaaW.PrintLast
set_option linter.unusedSimpArgs false

theorem once_then {α : Type} {Q : α → Prop} (b : List Int) (i h n : Int) (hb : b.length ≤ 1048576) (hi : At b i) (hn : 1 ≤ n) (hn2 : n ≤ 1000000) {f : Nat → Bool × Int × Int → Option α}
    (k : ∀ v i' h', At b i' → EvP (fun m => f m (v, i', h')) Q) : EvP (fun m => (spec_l01Once.f b i h n).bind (f m)) Q := by
  obtain ⟨v, i', h', e, hv, hi'⟩ := l01Below b i h n hb hi hn hn2
  unfold spec_l01Once.f
  simp only [e, Option.bind_some]
  exact k _ i' h' hi'
theorem pick_then {α : Type} {Q : α → Prop} (b : List Int) (i h : Int) (l : List Int) (hb : b.length ≤ 1048576) (hi : At b i) (hn : 1 ≤ l.length) (hn2 : l.length ≤ 1000000) {f : Nat → Int × Int × Int → Option α}
    (k : ∀ v i' h', v ∈ l → At b i' → EvP (fun m => f m (v, i', h')) Q) : EvP (fun m => (spec_l01PickInt.f b i h l).bind (f m)) Q := by
  obtain ⟨v, i', h', e, hv, hi'⟩ := l01Below b i h l.length hb hi (by omega) (by omega)
  unfold spec_l01PickInt.f
  simp only [e, Option.bind_some, hv.1, hv.2, if_true]
  exact k _ i' h' (getD_mem 0 l v.toNat (by omega)) hi'

abbrev Row (b : List Int) (n : Nat) (r : List S25 × Int × Int) : Prop := r.1.length = n ∧ At b r.2.1
theorem draw_right (b : List Int) (hb : b.length ≤ 1048576) (n : Nat) (hn : n ≤ 100) (i h base : Int) (flag : Bool) (hi : At b i) : EvP (fun k => spec_l15DrawRight.f k b i h n base flag) (Row b n) := by
  have key : ∀ c : Nat, ∀ (acc : List S25) (cl i h : Int), acc.length + c = n → At b i → EvP (fun k => spec_l15DrawRight.l0 k n base flag acc cl acc.length b i h) (Row b n) := by
    intro c
    induction c with
    | zero =>
      intro acc cl i h hc hi
      refine evp_of (ev_some (r := (acc, i, h)) (fun k => ?_)) ⟨hc, hi⟩
      simp only [spec_l15DrawRight.l0, show ¬ ((acc.length : Int) < (n : Int)) by omega, if_false]
    | succ c ih =>
      intro acc cl i h hc hi
      have e1 : wrap64 ((acc.length : Int) + 1) = ((acc.length + 1 : Nat) : Int) := w64s (n := 101) (by omega) (by omega)
      have e2 : acc.length < 4398046511104 := by omega
      have e3 : (acc.length : Int) < (n : Int) := by omega
      have next : ∀ (u : S25) (cl i h : Int), At b i → EvP (fun k => spec_l15DrawRight.l0 k n base flag (acc ++ [u]) cl ((acc.length + 1 : Nat) : Int) b i h) (Row b n) := by
        intro u cl i h hi
        have := ih (acc ++ [u]) cl i h (by simp; omega) hi
        simpa using this
      cases flag with
      | true =>
        refine evp_at (f := fun k => (spec_l01Below.f b i h 3).bind fun b1 => (spec_l01Below.f b b1.2.1 b1.2.2 40).bind fun b2 => (spec_l01Once.f b b2.2.1 b2.2.2 3).bind fun b3 =>
          spec_l15DrawRight.l0 k n base true (acc ++ [⟨wrap64 ((wrap64 (base + (wrap64 ((acc.length : Int) * 3)))) + b1.1), cl, wrap64 (10 + b2.1), b3.1⟩]) cl ((acc.length + 1 : Nat) : Int) b b3.2.1 b3.2.2) ?_ (fun k => ?_)
        · refine below_then b i h 3 hb hi (by omega) (by omega) (fun v1 i1 h1 _ _ hi1 => ?_)
          refine below_then b i1 h1 40 hb hi1 (by omega) (by omega) (fun v2 i2 h2 _ _ hi2 => ?_)
          exact once_then b i2 h2 3 hb hi2 (by omega) (by omega) (fun v3 i3 h3 hi3 => next _ _ _ _ hi3)
        · simp only [spec_l15DrawRight.l0, e3, if_true, e2, e1]
      | false =>
        refine evp_at (f := fun k => (spec_l01Below.f b i h 9).bind fun b0 => (spec_l01Below.f b b0.2.1 b0.2.2 3).bind fun b1 => (spec_l01Below.f b b1.2.1 b1.2.2 40).bind fun b2 => (spec_l01Once.f b b2.2.1 b2.2.2 3).bind fun b3 =>
          spec_l15DrawRight.l0 k n base false (acc ++ [⟨wrap64 ((wrap64 (base + (wrap64 ((acc.length : Int) * 3)))) + b1.1), wrap64 (1 + b0.1), wrap64 (10 + b2.1), b3.1⟩]) (wrap64 (1 + b0.1)) ((acc.length + 1 : Nat) : Int) b b3.2.1 b3.2.2) ?_ (fun k => ?_)
        · refine below_then b i h 9 hb hi (by omega) (by omega) (fun v0 i0 h0 _ _ hi0 => ?_)
          refine below_then b i0 h0 3 hb hi0 (by omega) (by omega) (fun v1 i1 h1 _ _ hi1 => ?_)
          refine below_then b i1 h1 40 hb hi1 (by omega) (by omega) (fun v2 i2 h2 _ _ hi2 => ?_)
          exact once_then b i2 h2 3 hb hi2 (by omega) (by omega) (fun v3 i3 h3 hi3 => next _ _ _ _ hi3)
        · simp only [spec_l15DrawRight.l0, e3, if_true, e2, e1, Bool.false_eq_true, if_false]
  unfold spec_l15DrawRight.f
  refine below_then b i h 9 hb hi (by omega) (by omega) (fun v i' h' _ _ hi' => ?_)
  simpa using key n [] (wrap64 (1 + v)) i' h' (by simp) hi'

abbrev Short (b : List Int) (r : List S25 × Int × Int) : Prop := r.1.length ≤ 200 ∧ At b r.2.1
theorem size_l (l : List Int) (hl : l.length ≤ 1048576) : ∃ t : Nat, spec_l01Size.f l 7 = some (t : Int) ∧ 1 ≤ t ∧ t ≤ 7 := by
  unfold spec_l01Size.f
  have h1 : 0 ≤ (l.length : Int) / 16 ∧ (l.length : Int) / 16 ≤ 1048576 := by omega
  rw [w64 (x := (l.length : Int) / 16) (by omega) (by omega), w64 (x := 2 + (l.length : Int) / 16) (by omega) (by omega)]
  by_cases h : 2 + (l.length : Int) / 16 > 7
  · rw [if_pos h]; exact ⟨7, rfl, by omega, by omega⟩
  · rw [if_neg h]; exact ⟨(2 + (l.length : Int) / 16).toNat, by rw [Int.toNat_of_nonneg (by omega)], by omega, by omega⟩
theorem draw_any (l b : List Int) (hl : l.length ≤ 1048576) (hb : b.length ≤ 1048576) (i h base : Int) (hi : At b i) : EvP (fun k => spec_l15DrawAny.f k b i h l base) (Short b) := by
  unfold spec_l15DrawAny.f
  obtain ⟨t, et, ht1, ht7⟩ := size_l l hl
  simp only [et, Option.bind_some]
  refine below_then b i h t hb hi (by omega) (by omega) (fun v i1 h1 hv0 hv1 hi1 => ?_)
  obtain ⟨n, rfl⟩ : ∃ n : Nat, v = (n : Int) := ⟨v.toNat, by omega⟩
  refine once_then b i1 h1 2 hb hi1 (by omega) (by omega) (fun fl i2 h2 hi2 => ?_)
  refine evp_bind (draw_right b hb n (by omega) i2 h2 base fl hi2) (fun r hr => ?_)
  obtain ⟨row, i3, h3⟩ := r
  obtain ⟨hr1, hi3⟩ := hr
  dsimp only at hr1 hi3 ⊢
  refine below_then b i3 h3 25 hb hi3 (by omega) (by omega) (fun c i4 h4 hc0 hc1 hi4 => ?_)
  have hroom : row.length < 4398046511104 := by omega
  dsimp only
  by_cases c0 : c = 0
  · simp only [c0, if_true]
    refine pick_then b i4 h4 _ hb hi4 (by simp) (by simp) (fun v5 i5 h5 _ hi5 => ?_)
    refine pick_then b i5 h5 _ hb hi5 (by simp) (by simp) (fun v6 i6 h6 _ hi6 => ?_)
    refine pick_then b i6 h6 _ hb hi6 (by simp) (by simp) (fun v7 i7 h7 _ hi7 => ?_)
    simp only [hroom, if_true]
    exact evp_now _ ⟨by simp; omega, hi7⟩
  · simp only [c0, if_false]
    by_cases c1 : c = 1
    · simp only [c1, if_true]
      by_cases hp : (row.length : Int) > 0
      · simp only [hp, show 0 < (row.length : Int) from hp, hroom, if_true]
        exact evp_now _ ⟨by simp; omega, hi4⟩
      · simp only [hp, if_false]
        exact evp_now _ ⟨by simp; omega, hi4⟩
    · simp only [c1, if_false]
      by_cases c2 : c = 2
      · simp only [c2, if_true]
        refine below_then b i4 h4 2 hb hi4 (by omega) (by omega) (fun v5 i5 h5 hv50 hv51 hi5 => ?_)
        obtain ⟨n5, rfl⟩ : ∃ n : Nat, v5 = (n : Int) := ⟨v5.toNat, by omega⟩
        have e : wrap64 (30 + (n5 : Int)) = ((n5 + 30 : Nat) : Int) := by rw [w64 (by omega) (by omega)]; omega
        simp only [e]
        exact evp_bind (draw_right b hb (n5 + 30) (by omega) i5 h5 base true hi5) (fun r hr => evp_now _ ⟨by have := hr.1; show r.1.length ≤ 200; omega, hr.2⟩)
      · simp only [c2, if_false]
        by_cases c3 : c = 3
        · simp only [c3, if_true]
          refine below_then b i4 h4 6 hb hi4 (by omega) (by omega) (fun v5 i5 h5 hv50 hv51 hi5 => ?_)
          obtain ⟨n5, rfl⟩ : ∃ n : Nat, v5 = (n : Int) := ⟨v5.toNat, by omega⟩
          have e : wrap64 (12 + (n5 : Int)) = ((n5 + 12 : Nat) : Int) := by rw [w64 (by omega) (by omega)]; omega
          simp only [e]
          exact evp_bind (draw_right b hb (n5 + 12) (by omega) i5 h5 5 true hi5) (fun r hr => evp_now _ ⟨by have := hr.1; show r.1.length ≤ 200; omega, hr.2⟩)
        · simp only [c3, if_false]
          exact evp_now _ ⟨by simp; omega, hi4⟩
abbrev Both (r : List S25 × List S25) : Prop := r.1.length ≤ 200 ∧ r.2.length ≤ 200
theorem draw_same (x : List S25) (hx : 0 < x.length) (hx2 : x.length ≤ 200) : ∀ (y : List S25), y.length ≤ 200 → EvP (fun k => spec_DrawCouple.l0 k x y 0) Both := by
  intro y hy
  have key : ∀ i, i ≤ y.length → ∀ z : List S25, z.length = y.length → EvP (fun k => spec_DrawCouple.l0 k x z (i : Int)) Both := by
    refine down y.length (fun z hz => ?_) (fun i hi ih z hz => ?_)
    · exact evp_of (ev_some (r := (x, z)) (fun k => by simp [spec_DrawCouple.l0, hz])) ⟨hx2, by show z.length ≤ 200; omega⟩
    · refine evp_at (ih (z.set i ⟨(rd_T25 z i).f0, (rd_T25 x 0).f1, (rd_T25 z i).f2, (rd_T25 z i).f3⟩) (by simpa using hz)) (fun k => ?_)
      simp only [spec_DrawCouple.l0, show (i : Int) < (z.length : Int) by omega, show 0 < (x.length : Int) by omega, if_true, Int.natCast_nonneg, Int.toNat_natCast, w64s hi (by omega)]
  exact key 0 (Nat.zero_le _) y rfl
theorem draw_couple (l : List Int) (hl : l.length ≤ 1048576) : EvP (fun k => spec_DrawCouple.f k l) Both := by
  unfold spec_DrawCouple.f
  refine evp_bind (l01New l hl) (fun r hr => ?_)
  obtain ⟨b, i, h⟩ := r
  obtain ⟨rfl, hi⟩ := hr
  dsimp only at hi hl ⊢
  refine below_then b i h 4 hl hi (by omega) (by omega) (fun v1 i1 h1 hv10 hv11 hi1 => ?_)
  obtain ⟨n1, rfl⟩ : ∃ n : Nat, v1 = (n : Int) := ⟨v1.toNat, by omega⟩
  have e1 : wrap64 (1 + (n1 : Int)) = ((n1 + 1 : Nat) : Int) := by rw [w64 (by omega) (by omega)]; omega
  simp only [e1]
  refine evp_bind (draw_right b hl (n1 + 1) (by omega) i1 h1 1 true hi1) (fun r1 hr1 => ?_)
  obtain ⟨x, i2, h2⟩ := r1
  obtain ⟨hx, hi2⟩ := hr1
  dsimp only at hx hi2 ⊢
  refine below_then b i2 h2 4 hl hi2 (by omega) (by omega) (fun v3 i3 h3 hv30 hv31 hi3 => ?_)
  obtain ⟨n3, rfl⟩ : ∃ n : Nat, v3 = (n : Int) := ⟨v3.toNat, by omega⟩
  have e3 : wrap64 (1 + (n3 : Int)) = ((n3 + 1 : Nat) : Int) := by rw [w64 (by omega) (by omega)]; omega
  simp only [e3]
  refine evp_bind (draw_right b hl (n3 + 1) (by omega) i3 h3 100 true hi3) (fun r4 hr4 => ?_)
  obtain ⟨y, i4, h4⟩ := r4
  obtain ⟨hy, hi4⟩ := hr4
  dsimp only at hy hi4 ⊢
  refine below_then b i4 h4 5 hl hi4 (by omega) (by omega) (fun c i5 h5 hc0 hc1 hi5 => ?_)
  dsimp only
  by_cases c0 : c = 0
  · simp only [c0, if_true]
    exact evp_bind (draw_any b b hl hl i5 h5 2 hi5) (fun r hr => evp_now _ ⟨by simp; omega, hr.1⟩)
  · simp only [c0, if_false]
    by_cases c1 : c = 1
    · simp only [c1, if_true]
      exact evp_bind (draw_any b b hl hl i5 h5 90 hi5) (fun r hr => evp_now _ ⟨hr.1, by simp; omega⟩)
    · simp only [c1, if_false]
      by_cases c2 : c = 2
      · simp only [c2, if_true]
        exact draw_same x (by omega) (by omega) y (by omega)
      · simp only [c2, if_false]
        exact evp_now _ ⟨by simp; omega, by simp; omega⟩
end Go.Proofs.Ytnojpcmaalbdhaa.Pure
