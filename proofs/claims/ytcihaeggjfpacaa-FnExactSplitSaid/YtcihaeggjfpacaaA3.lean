/- What is paid back, and what a ride costs. -/
import Derived.Test.YtcihaeggjfpacaaA2
namespace Go.Proofs.Ytcihaeggjfpacaa.Pure
open Go.RowKit Go.Proofs.Ytcihaeggjfpacaa.P Go.Proofs.YtcihaeggjfpacaaW.PrintWords Go.Proofs.YtcihaeggjfpacaaW.PrintLast

theorem tdiv_pos {a r : Int} (h0 : 0 ≤ a) : Int.tdiv a r = a / r := Int.tdiv_eq_ediv_of_nonneg h0
theorem tmod_pos {a r : Int} (h0 : 0 ≤ a) : Int.tmod a r = a % r := Int.tmod_eq_emod_of_nonneg h0
theorem round_le {a r : Int} (h0 : 0 ≤ a) (hr : 1 ≤ r) : 0 ≤ a / r * r ∧ a / r * r ≤ a ∧ a / r ≤ a ∧ 0 ≤ a / r := by
  have h1 := Int.ediv_mul_le a (show r ≠ 0 by omega)
  have h2 : 0 ≤ a / r := Int.ediv_nonneg h0 (by omega)
  have h3 : a / r ≤ a := Int.ediv_le_self r h0
  have h4 : 0 ≤ a / r * r := Int.mul_nonneg h2 (by omega)
  omega
theorem down_spec {a r : Int} (h0 : 0 ≤ a) (h1 : a ≤ 1000000000) (hr : 1 ≤ r) : wrap64 (a - Int.tmod a r) = a / r * r := by
  have h := Int.mul_ediv_add_emod a r
  have := round_le h0 hr
  rw [tmod_pos h0, w64 (by have := Int.emod_nonneg a (show r ≠ 0 by omega); have := Int.emod_lt_of_pos a (show 0 < r by omega); rw [Int.mul_comm] at h; omega) (by have := Int.emod_nonneg a (show r ≠ 0 by omega); omega)]
  rw [Int.mul_comm] at h
  omega
theorem down_impl {a r : Int} (h0 : 0 ≤ a) (h1 : a ≤ 1000000000) (hr : 1 ≤ r) : wrap64 (wrap64 (Int.tdiv a r) * r) = a / r * r := by
  have := round_le h0 hr
  rw [tdiv_pos h0, w64 (x := a / r) (by omega) (by omega), w64 (by omega) (by omega)]

def backOf (paid hours : Int) : Int := if hours ≥ 72 then paid else if hours ≥ 24 then paid * 3 / 4 else if hours ≥ 1 then paid / 2 else 0
def refundV (b s : Int) (j : List Int) (r paid hours : Int) : Int := if tariffOk b s j r && inB paid 0 10000000 then backOf paid hours / r * r else -1

theorem tariffOk_round {b s : Int} {j : List Int} {r : Int} (h : tariffOk b s j r = true) : 1 ≤ r ∧ r ≤ 100 := by
  simp only [tariffOk, Bool.and_eq_true, inB_iff] at h
  exact h.1.2

theorem spec_refund (b s : Int) (j : List Int) (r paid hours : Int) (h : j.length ≤ 1048576) : Ev (fun k => spec_Refund.f k b s j r paid hours) (refundV b s j r paid hours) := by
  unfold spec_Refund.f refundV
  refine Ev.bind (spec_tariff b s j r h) ?_
  have j2 : Ev (fun k => spec_Refund.j0 k paid hours true b s j r) (-1) := ev_some (fun k => by simp [spec_Refund.j0])
  cases ht : tariffOk b s j r
  · simpa using j2
  · simp only [if_true, l01In, Option.bind_some, Bool.true_and]
    cases hp : inB paid 0 10000000
    · simpa using j2
    · have hr := tariffOk_round ht
      have hp' := inB_iff.1 hp
      simp only [Bool.not_true, if_true]
      refine ev_some (fun k => ?_)
      simp only [spec_Refund.j0, Bool.false_eq_true, if_false, show ¬ r = 0 by omega, backOf]
      split
      · rw [down_spec hp'.1 (by omega) hr.1]
      · split
        · rw [w64 (x := paid * 3) (by omega) (by omega), tdiv_pos (by omega), w64 (x := paid * 3 / 4) (by omega) (by omega), down_spec (by omega) (by omega) hr.1]
        · split
          · rw [tdiv_pos (by omega), w64 (x := paid / 2) (by omega) (by omega), down_spec (by omega) (by omega) hr.1]
          · simp [wrap64]

theorem impl_refund (b s : Int) (j : List Int) (r paid hours : Int) (h : j.length ≤ 1048576) : Ev (fun k => impl_Refund.f k b s j r paid hours) (refundV b s j r paid hours) := by
  unfold impl_Refund.f refundV
  refine Ev.bind (impl_tariff b s j r h) ?_
  have j2 : Ev (fun k => impl_Refund.j0 k paid hours true b s j r) (-1) := ev_some (fun k => by simp [impl_Refund.j0])
  cases ht : tariffOk b s j r
  · simpa using j2
  · simp only [if_true, between, Option.bind_some, Bool.true_and]
    cases hp : inB paid 0 10000000
    · simpa using j2
    · have hr := tariffOk_round ht
      have hp' := inB_iff.1 hp
      simp only [Bool.not_true, if_true]
      refine ev_some (fun k => ?_)
      simp only [impl_Refund.j0, Bool.false_eq_true, if_false, show ¬ r = 0 by omega, backOf]
      split
      · rw [down_impl hp'.1 (by omega) hr.1]
      · split
        · rw [w64 (x := paid * 3) (by omega) (by omega), tdiv_pos (a := paid * 3) (by omega), w64 (x := paid * 3 / 4) (by omega) (by omega), down_impl (by omega) (by omega) hr.1]
        · split
          · rw [tdiv_pos (a := paid) (by omega), w64 (x := paid / 2) (by omega) (by omega), down_impl (by omega) (by omega) hr.1]
          · simp [wrap64]

/-- The surcharges between two zones. -/
def jumps (j : List Int) (lo hi : Int) : Int := ((j.take hi.toNat).drop lo.toNat).sum
def roundUp (x r : Int) : Int := (x + r - 1) / r * r
def fareV0 (b s : Int) (j : List Int) (r lo hi : Int) : Int := roundUp (b + s * (hi - lo) + jumps j lo hi) r

theorem sum_bounds : ∀ (j : List Int), (∀ x, x ∈ j → 0 ≤ x ∧ x ≤ 100000) → 0 ≤ j.sum ∧ j.sum ≤ 100000 * j.length
  | [], _ => by simp
  | x :: j, h => by
    have h1 := h x (by simp)
    have h2 := sum_bounds j (fun y hy => h y (by simp [hy]))
    simp only [List.sum_cons, List.length_cons]
    omega

/-- A loop that adds up the jumps from lo on, as both do. -/
theorem ev_fare (j : List Int) (hj : ∀ x, x ∈ j → 0 ≤ x ∧ x ≤ 100000) (hl : j.length ≤ 20) (hi : Nat) (g : Nat → Int → Int → Option Int) (fin : Int → Int)
    (h1 : ∀ k acc (i : Nat) (h : i < j.length), i < hi → g (k + 1) acc i = g k (wrap64 (acc + j[i])) (wrap64 ((i : Int) + 1))) (h2 : ∀ k acc (i : Nat), ¬ (i < hi ∧ i < j.length) → 0 ≤ acc → acc ≤ 10000000 → g (k + 1) acc i = some (fin acc)) :
    ∀ (d i : Nat), i + d = min hi j.length ∨ (d = 0 ∧ min hi j.length ≤ i) → ∀ acc : Int, 0 ≤ acc → acc + 100000 * d ≤ 10000000 → Ev (fun k => g k acc i) (fin (acc + ((j.take hi).drop i).sum)) := by
  intro d
  induction d with
  | zero =>
    intro i hd acc h0 hb
    have : (j.take hi).drop i = [] := List.drop_of_length_le (by simp; omega)
    rw [this]
    simpa using ev_some (fun k => h2 k acc i (by omega) h0 (by omega))
  | succ d ih =>
    intro i hd acc h0 hb
    have hlt : i < j.length := by omega
    have hx := hj j[i] (List.getElem_mem _)
    refine ev_at ?_ (fun k => h1 k acc i hlt (by omega))
    rw [w64 (x := acc + j[i]) (by omega) (by omega), w64s hlt (by omega)]
    have e : (j.take hi).drop i = j[i] :: (j.take hi).drop (i + 1) := by
      rw [List.drop_eq_getElem_cons (by simp; omega)]
      simp
    rw [e, List.sum_cons, ← Int.add_assoc]
    exact ih (i + 1) (by omega) (acc + j[i]) (by omega) (by omega)
end Go.Proofs.Ytcihaeggjfpacaa.Pure
