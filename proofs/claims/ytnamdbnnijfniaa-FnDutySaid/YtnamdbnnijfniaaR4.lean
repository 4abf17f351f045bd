/- The wage of a duty. -/
import Derived.Test.YtnamdbnnijfniaaR3
namespace Go.Proofs.Ytnamdbnnijfniaa.Pure
open Go.RowKit Go.Proofs.Ytnamdbnnijfniaa.P Go.Proofs.YtnamdbnnijfniaaW.PrintWords Go.Proofs.YtnamdbnnijfniaaW.PrintLast

def wageV (n : List S52) (l : List Int) (a b c d rate : Int) : Int :=
  if codeV n l a b c d = 0 ∧ inB rate 0 1000 = true then rate * (spreadV n l + max (drivenV0 n l - b / 2) 0) else -1

theorem tdiv2 {b : Int} (h : 0 ≤ b) : Int.tdiv b 2 = b / 2 := Int.tdiv_eq_ediv_of_nonneg h
theorem codeV_zero {n : List S52} {l : List Int} {a b c d : Int} (h : codeV n l a b c d = 0) : dutyB n l = true ∧ ruleB a b c d = true := by
  unfold codeV at h
  split at h
  · rename_i hh
    simpa using hh
  · omega
theorem driven_b {n : List S52} {l : List Int} (h : dutyB n l = true) : 0 ≤ drivenV0 n l ∧ drivenV0 n l ≤ 1200000 := by
  obtain ⟨hl, hp, _, ht⟩ := dutyB_parts h
  have key : ∀ (m : List Int), (∀ x, x ∈ m → 0 ≤ x ∧ x < n.length) → ∀ s : Int, s ≤ m.foldl (fun s x => s + len1 n x) s ∧ m.foldl (fun s x => s + len1 n x) s ≤ s + 100000 * m.length := by
    intro m
    induction m with
    | nil => intro _ s; simp
    | cons x m ih =>
      intro hm s
      have h1 := len1_b ht (hm x (by simp))
      have h2 := ih (fun y hy => hm y (by simp [hy])) (s + len1 n x)
      simp only [List.foldl_cons, List.length_cons]
      omega
  have := key l hp 0
  unfold drivenV0
  omega
theorem spread_b {n : List S52} {l : List Int} (h : dutyB n l = true) : -100000 ≤ spreadV n l ∧ spreadV n l ≤ 100000 := by
  have hl := (dutyB_parts h).1
  obtain ⟨_, _, ht1⟩ := at_duty h (l.length - 1) (by omega)
  obtain ⟨_, _, ht2⟩ := at_duty h 0 (by omega)
  unfold spreadV
  omega
theorem prod_b {r x : Int} (h0 : 0 ≤ r) (h1 : r ≤ 1000) (x0 : -100000 ≤ x) (x1 : x ≤ 2000000) : -2000000000 ≤ r * x ∧ r * x ≤ 2000000000 := by
  have a := Int.mul_le_mul_of_nonneg_left x1 h0
  have b := Int.mul_le_mul_of_nonneg_left x0 h0
  omega

theorem wage_num {n : List S52} {l : List Int} {b rate : Int} (h : dutyB n l = true) (hb : 0 ≤ b ∧ b ≤ 1440) (hr : 0 ≤ rate ∧ rate ≤ 1000) :
    wrap64 (rate * (wrap64 (spreadV n l + max (drivenV0 n l - b / 2) 0))) = rate * (spreadV n l + max (drivenV0 n l - b / 2) 0) ∧ wrap64 (drivenV0 n l - (wrap64 (Int.tdiv b 2))) = drivenV0 n l - b / 2 := by
  have h1 := driven_b h
  have h2 := spread_b h
  obtain ⟨x, hx⟩ : ∃ x, x = spreadV n l + max (drivenV0 n l - b / 2) 0 := ⟨_, rfl⟩
  have hp := prod_b hr.1 hr.2 (x := x) (by omega) (by omega)
  rw [← hx]
  refine ⟨?_, ?_⟩
  · rw [w64 (x := x) (by omega) (by omega)]
    exact w64 (Int.le_trans (by decide) hp.1) (Int.le_trans hp.2 (by decide))
  · rw [tdiv2 hb.1, w64 (x := b / 2) (by omega) (by omega), w64 (by omega) (by omega)]

theorem impl_wage_all (n : List S52) (l : List Int) (a b c d rate : Int) (hn : n.length ≤ 1048576) (h : l.length ≤ 1048576) : Ev (fun k => impl_Wage.f k n l a b c d rate) (wageV n l a b c d rate) := by
  unfold impl_Wage.f wageV
  have j2 : Ev (fun k => impl_Wage.j0 k n l rate true a b c d) (-1) := ev_some (fun k => by simp [impl_Wage.j0])
  refine Ev.bind (impl_code_all n l a b c d hn h) ?_
  by_cases h0 : codeV n l a b c d = 0
  · obtain ⟨hd, hr⟩ := codeV_zero h0
    simp only [h0, if_true, between, Option.bind_some, true_and]
    cases hb : inB rate 0 1000
    · simpa using j2
    · simp only [Bool.not_true, if_true]
      have hrate := inB_iff.1 hb
      have hb2 : 0 ≤ b ∧ b ≤ 1440 := by
        simp only [ruleB, Bool.and_eq_true, inB_iff] at hr
        omega
      obtain ⟨e1, e2⟩ := wage_num hd hb2 hrate
      obtain ⟨⟨g1, f1, f2⟩, ⟨g2, f3⟩, hx1, hx2, es⟩ := spread_at hd
      have hs : impl_spread.f n l = some (spreadV n l) := by
        unfold impl_spread.f
        unfold tk at es
        rw [g1, g2, if_pos f1, if_pos f2, if_pos hx1.1, if_pos hx1.2, if_pos f3, if_pos hx2.1, if_pos hx2.2, es]
      refine ev_at (f := fun k => (impl_driven.f k n l).bind fun t => some (wrap64 (rate * (wrap64 (spreadV n l + (mx (wrap64 (t - (wrap64 (Int.tdiv b 2)))) 0)))))) ?_ (fun k => by simp [impl_Wage.j0, hs])
      refine Ev.bind (impl_driven_low hd) ?_
      rw [e2, show mx (drivenV0 n l - b / 2) 0 = max (drivenV0 n l - b / 2) 0 by unfold mx; split <;> omega, e1]
      exact Ev.now _
  · simp only [h0, if_false, false_and]
    exact j2

theorem spec_wage_all (n : List S52) (l : List Int) (a b c d rate : Int) (hn : n.length ≤ 1048576) (h : l.length ≤ 1048576) : Ev (fun k => spec_Wage.f k n l a b c d rate) (wageV n l a b c d rate) := by
  unfold spec_Wage.f wageV
  have j2 : Ev (fun k => spec_Wage.j0 k n l rate true a b c d) (-1) := ev_some (fun k => by simp [spec_Wage.j0])
  refine Ev.bind (spec_code_all n l a b c d hn h) ?_
  by_cases h0 : codeV n l a b c d = 0
  · obtain ⟨hd, hr⟩ := codeV_zero h0
    simp only [h0, if_true, l01In, Option.bind_some, true_and]
    cases hb : inB rate 0 1000
    · simpa using j2
    · simp only [Bool.not_true, if_true]
      have hrate := inB_iff.1 hb
      have hb2 : 0 ≤ b ∧ b ≤ 1440 := by
        simp only [ruleB, Bool.and_eq_true, inB_iff] at hr
        omega
      obtain ⟨e1, e2⟩ := wage_num hd hb2 hrate
      obtain ⟨⟨g1, f1, f2⟩, ⟨g2, f3⟩, hx1, hx2, es⟩ := spread_at hd
      have hdr : Ev (fun k => spec_Driven.f k n l) (drivenV0 n l) := by have := spec_driven_all n l hn h; rwa [drivenV, hd] at this
      refine ev_at (f := fun k => (spec_Driven.f k n l).bind fun t => if (wrap64 (t - (wrap64 (Int.tdiv b 2)))) < 0 then some (wrap64 (rate * (wrap64 (spreadV n l)))) else some (wrap64 (rate * (wrap64 (spreadV n l + wrap64 (t - (wrap64 (Int.tdiv b 2)))))))) ?_ (fun k => ?_)
      · refine Ev.bind hdr ?_
        rw [e2]
        by_cases hneg : drivenV0 n l - b / 2 < 0
        · simp only [hneg, if_true]
          rw [← e1, show max (drivenV0 n l - b / 2) 0 = 0 by omega, Int.add_zero]
          exact Ev.now _
        · simp only [hneg, if_false]
          rw [← e1, show max (drivenV0 n l - b / 2) 0 = drivenV0 n l - b / 2 by omega]
          exact Ev.now _
      · unfold tk at es
        simp only [spec_Wage.j0, Bool.false_eq_true, if_false]
        rw [g1, g2, if_pos f1, if_pos f2, if_pos hx1.1, if_pos hx1.2, if_pos f3, if_pos hx2.1, if_pos hx2.2, es]
  · simp only [h0, if_false, false_and]
    exact j2
end Go.Proofs.Ytnamdbnnijfniaa.Pure
