/- Fares: program and reference tell one value; what cards make of it. -/
import Derived.Test.YtcihaeggjfpacaaA3
namespace Go.Proofs.Ytcihaeggjfpacaa.Pure
open Go.RowKit Go.Proofs.Ytcihaeggjfpacaa.P Go.Proofs.YtcihaeggjfpacaaW.PrintWords Go.Proofs.YtcihaeggjfpacaaW.PrintLast

def fareV (b s : Int) (j : List Int) (r from_ to_ : Int) : Int :=
  if tariffOk b s j r && inB from_ 0 19 && inB to_ 0 19 then fareV0 b s j r (min from_ to_) (max from_ to_) else -1

theorem tariffOk_parts {b s : Int} {j : List Int} {r : Int} (h : tariffOk b s j r = true) : (0 ≤ b ∧ b ≤ 100000) ∧ (0 ≤ s ∧ s ≤ 100000) ∧ j.length ≤ 20 ∧ (1 ≤ r ∧ r ≤ 100) ∧ ∀ x, x ∈ j → 0 ≤ x ∧ x ≤ 100000 := by
  simp only [tariffOk, Bool.and_eq_true, inB_iff, decide_eq_true_eq, List.all_eq_true] at h
  obtain ⟨⟨⟨⟨h1, h2⟩, h3⟩, h4⟩, h5⟩ := h
  exact ⟨h1, h2, by omega, h4, h5⟩

theorem mul_b {s d : Int} (h0 : 0 ≤ s) (h1 : s ≤ 100000) (d0 : 0 ≤ d) (d1 : d ≤ 19) : 0 ≤ s * d ∧ s * d ≤ 1900000 := by
  have h := Int.mul_le_mul h1 d1 d0 (by omega)
  have h' := Int.mul_nonneg h0 d0
  omega

theorem up_val {x r : Int} (h0 : 0 ≤ x) (h1 : x ≤ 10000000) (hr : 1 ≤ r) (hr' : r ≤ 100) : wrap64 ((wrap64 (Int.tdiv (wrap64 ((wrap64 (x + r)) - 1)) r)) * r) = roundUp x r := by
  rw [w64 (x := x + r) (by omega) (by omega), w64 (x := x + r - 1) (by omega) (by omega), down_impl (by omega) (by omega) hr]
  rfl

theorem impl_fare_low {b s : Int} {j : List Int} {r : Int} (h : tariffOk b s j r = true) {x y : Int} (hx : 0 ≤ x ∧ x ≤ 19) (hy : 0 ≤ y ∧ y ≤ 19) : Ev (fun k => impl_fare.f k b s j r x y) (fareV0 b s j r (min x y) (max x y)) := by
  obtain ⟨hb, hs, hl, hr, hj⟩ := tariffOk_parts h
  obtain ⟨lo, hlo⟩ : ∃ n : Nat, (n : Int) = min x y := ⟨(min x y).toNat, by omega⟩
  obtain ⟨hi, hhi⟩ : ∃ n : Nat, (n : Int) = max x y := ⟨(max x y).toNat, by omega⟩
  have hm := mul_b hs.1 hs.2 (d := hi - lo) (by omega) (by omega)
  unfold impl_fare.f fareV0 jumps
  rw [show mx x y = (hi : Int) by unfold mx; split <;> omega, show mn x y = (lo : Int) by unfold mn; split <;> omega, ← hlo, ← hhi]
  simp only [Int.toNat_natCast]
  rw [w64 (x := (hi : Int) - lo) (by omega) (by omega), w64 (x := s * ((hi : Int) - lo)) (by omega) (by omega), w64 (x := b + s * ((hi : Int) - lo)) (by omega) (by omega)]
  refine ev_fare j hj hl hi (fun k acc i => impl_fare.l0 k hi acc i b s j r) (fun x => roundUp x r) (fun k acc i h1 h2 => ?_) (fun k acc i h1 h2 h3 => ?_) (min hi j.length - lo) lo (by omega) _ (by omega) (by omega)
  · simp [impl_fare.l0, h1, h2, rd]
  · simp only [impl_fare.l0]
    split
    · rw [if_neg (by omega), if_neg (by omega), up_val h2 h3 hr.1 hr.2]
    · rw [if_neg (by omega), up_val h2 h3 hr.1 hr.2]

theorem impl_fare_all (b s : Int) (j : List Int) (r x y : Int) (h : j.length ≤ 1048576) : Ev (fun k => impl_Fare.f k b s j r x y) (fareV b s j r x y) := by
  unfold impl_Fare.f fareV impl_zoneOk.f
  refine Ev.bind (impl_tariff b s j r h) ?_
  cases ht : tariffOk b s j r
  · simpa using Ev.now _
  · simp only [if_true, between, Option.bind_some, Bool.true_and]
    cases hx : inB x 0 19
    · simpa using Ev.now _
    · cases hy : inB y 0 19
      · simpa using Ev.now _
      · simp only [if_true, Bool.and_self]
        exact Ev.bind (impl_fare_low ht (inB_iff.1 hx) (inB_iff.1 hy)) (Ev.now _)

theorem spec_fare_low {b s : Int} {j : List Int} {r : Int} (h : tariffOk b s j r = true) {x y : Int} (hx : 0 ≤ x ∧ x ≤ y) (hy : y ≤ 19) : Ev (fun k => spec_Fare.j1 k x y b s j r) (fareV0 b s j r x y) := by
  obtain ⟨hb, hs, hl, hr, hj⟩ := tariffOk_parts h
  obtain ⟨lo, rfl⟩ : ∃ n : Nat, x = (n : Int) := ⟨x.toNat, by omega⟩
  obtain ⟨hi, rfl⟩ : ∃ n : Nat, y = (n : Int) := ⟨y.toNat, by omega⟩
  have hm := mul_b hs.1 hs.2 (d := hi - lo) (by omega) (by omega)
  unfold fareV0 jumps
  simp only [Int.toNat_natCast]
  refine ev_at (f := fun k => spec_Fare.l0 k hi (b + s * ((hi : Int) - lo)) lo b s j r) ?_ (fun k => ?_)
  · refine ev_fare j hj hl hi (fun k acc i => spec_Fare.l0 k hi acc i b s j r) (fun x => roundUp x r) (fun k acc i h1 h2 => ?_) (fun k acc i h1 h2 h3 => ?_) (min hi j.length - lo) lo (by omega) _ (by omega) (by omega)
    · simp [spec_Fare.l0, h1, h2, rd]
    · simp only [spec_Fare.l0]
      split
      · rw [if_neg (by omega), if_neg (by omega), up_val h2 h3 hr.1 hr.2]
      · rw [if_neg (by omega), up_val h2 h3 hr.1 hr.2]
  · simp only [spec_Fare.j1]
    rw [w64 (x := (hi : Int) - lo) (by omega) (by omega), w64 (x := s * ((hi : Int) - lo)) (by omega) (by omega), w64 (x := b + s * ((hi : Int) - lo)) (by omega) (by omega)]

theorem spec_fare_all (b s : Int) (j : List Int) (r x y : Int) (h : j.length ≤ 1048576) : Ev (fun k => spec_Fare.f k b s j r x y) (fareV b s j r x y) := by
  unfold spec_Fare.f fareV
  have j2 : Ev (fun k => spec_Fare.j0 k x y true b s j r) (-1) := ev_some (fun k => by simp [spec_Fare.j0])
  refine Ev.bind (spec_tariff b s j r h) ?_
  cases ht : tariffOk b s j r
  · simpa using j2
  · simp only [if_true, l01In, Option.bind_some, Bool.true_and]
    cases hx : inB x 0 19
    · simpa using j2
    · cases hy : inB y 0 19
      · simpa using j2
      · simp only [if_true, Bool.and_self, Bool.not_true]
        have hx' := inB_iff.1 hx
        have hy' := inB_iff.1 hy
        by_cases hxy : x > y
        · refine ev_at (f := fun k => spec_Fare.j1 k y x b s j r) ?_ (fun k => by simp [spec_Fare.j0, hxy])
          rw [show min x y = y by omega, show max x y = x by omega]
          exact spec_fare_low ht ⟨hy'.1, by omega⟩ hx'.2
        · refine ev_at (f := fun k => spec_Fare.j1 k x y b s j r) ?_ (fun k => by simp [spec_Fare.j0, hxy])
          rw [show min x y = x by omega, show max x y = y by omega]
          exact spec_fare_low ht ⟨hx'.1, by omega⟩ hy'.2

theorem fareV0_bounds {b s : Int} {j : List Int} {r : Int} (h : tariffOk b s j r = true) {x y : Int} (hx : 0 ≤ x ∧ x ≤ y) (hy : y ≤ 19) : 0 ≤ fareV0 b s j r x y ∧ fareV0 b s j r x y ≤ 4000100 := by
  obtain ⟨hb, hs, hl, hr, hj⟩ := tariffOk_parts h
  have hm := mul_b hs.1 hs.2 (d := y - x) (by omega) (by omega)
  have hs := sum_bounds ((j.take y.toNat).drop x.toNat) (fun z hz => hj z (List.mem_of_mem_take (List.mem_of_mem_drop hz)))
  have hl2 : ((j.take y.toNat).drop x.toNat).length ≤ 20 := by simp; omega
  unfold fareV0 roundUp
  have e : (j.take y.toNat).drop x.toNat = (j.take y.toNat).drop x.toNat := rfl
  have hk : jumps j x y = ((j.take y.toNat).drop x.toNat).sum := rfl
  have := round_le (a := b + s * (y - x) + jumps j x y + r - 1) (r := r) (by omega) hr.1
  omega
theorem fareV_bounds (b s : Int) (j : List Int) (r x y : Int) : -1 ≤ fareV b s j r x y ∧ fareV b s j r x y ≤ 4000100 := by
  unfold fareV
  split
  · rename_i h
    simp only [Bool.and_eq_true, inB_iff] at h
    have := fareV0_bounds h.1.1 (x := min x y) (y := max x y) (by omega) (by omega)
    omega
  · omega
end Go.Proofs.Ytcihaeggjfpacaa.Pure
