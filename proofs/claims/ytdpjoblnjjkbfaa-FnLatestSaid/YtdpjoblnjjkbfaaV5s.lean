/- The program's soonest arrival is the reference's. -/
import Derived.Test.YtdpjoblnjjkbfaaV5
namespace Go.Proofs.Ytdpjoblnjjkbfaa.Pure
open Go.RowKit Go.Proofs.Ytdpjoblnjjkbfaa.P Go.Proofs.YtdpjoblnjjkbfaaW.PrintWords Go.Proofs.YtdpjoblnjjkbfaaW.PrintLast

theorem soon_at (o : List Int) (tg : Nat) (H : Nat) : (impl_soonest.l0 o tg H).1 ≤ 100001 ∧ (∀ m, m < H → (impl_soonest.l0 o tg H).1 ≤ o.getD (m * 30 + tg) 0) ∧
    (((impl_soonest.l0 o tg H).2 = -1 ∧ (impl_soonest.l0 o tg H).1 = 100001) ∨
      ∃ m : Nat, m < H ∧ (impl_soonest.l0 o tg H).2 = m ∧ (impl_soonest.l0 o tg H).1 = o.getD (m * 30 + tg) 0 ∧ (impl_soonest.l0 o tg H).1 < 100001 ∧ ∀ m', m' < m → (impl_soonest.l0 o tg H).1 < o.getD (m' * 30 + tg) 0) := by
  induction H with
  | zero => exact ⟨by simp [impl_soonest.l0], fun m hm => absurd hm (by omega), Or.inl ⟨rfl, rfl⟩⟩
  | succ H ih =>
    obtain ⟨i1, i2, i3⟩ := ih
    simp only [impl_soonest.l0]
    by_cases c : o.getD (H * 30 + tg) 0 < (impl_soonest.l0 o tg H).1
    · rw [if_pos c]
      refine ⟨by omega, fun m hm => ?_, Or.inr ⟨H, by omega, rfl, rfl, by omega, fun m' hm => ?_⟩⟩
      · rcases Nat.lt_or_ge m H with c2 | c2
        · have := i2 m c2
          exact Int.le_trans (Int.le_of_lt c) this
        · have e : m = H := by omega
          rw [e]; exact Int.le_refl _
      · exact Int.lt_of_lt_of_le c (i2 m' hm)
    · rw [if_neg c]
      refine ⟨i1, fun m hm => ?_, ?_⟩
      · rcases Nat.lt_or_ge m H with c2 | c2
        · exact i2 m c2
        · have e : m = H := by omega
          rw [e]; omega
      · rcases i3 with i3 | ⟨m, hm, i4, i5, i6, i7⟩
        · exact Or.inl i3
        · exact Or.inr ⟨m, by omega, i4, i5, i6, i7⟩
section
variable {l : List S51} (h : tableB l = true) {fr mi ch : Int} (hfr : 0 ≤ fr ∧ fr < 30) (hr : 0 ≤ mi ∧ mi ≤ 100000) (hc : 0 ≤ ch)
include h hfr hr hc
/-- The program's soonest arrival is the reference's. -/
theorem soonest_same (hops : Nat) {tg : Int} (htg : 0 ≤ tg ∧ tg < 30) : (impl_soonest.l2 l fr tg mi ch hops).1 = (reach l fr mi ch hops).getD tg.toNat 0 := by
  have hr' : 0 ≤ mi ∧ mi ≤ 1000000 := by omega
  obtain ⟨s1, s2, s3⟩ := soon_at (impl_arrivals.l3 l fr mi ch hops) tg.toNat (hops + 1)
  have hg := rgood_at (reach_good h hfr hr' hc hops) tg.toNat (by omega)
  have hrow := fun m (hm : m ≤ hops) x => arr_cond h hfr hr hc hops m hm x tg htg
  unfold impl_soonest.l2 impl_soonest.l1
  generalize impl_soonest.l0 (impl_arrivals.l3 l fr mi ch hops) tg.toNat (hops + 1) = s at s1 s2 s3
  have hlow : ∀ m, m ≤ hops → acond l fr mi ch m tg s.1 := fun m hm => ((hrow m hm s.1).1 (s2 m (by omega))).2
  have hle : s.1 ≤ rval (reach l fr mi ch hops) tg := (reach_cond h hfr hr' hc hops s.1 tg htg (by unfold never; omega)).2 ⟨hlow 0 (by omega), fun m hm => hlow (m + 1) (by omega)⟩
  have hatt : 0 ≤ (reach l fr mi ch hops).getD tg.toNat 0 → ∃ m, m ≤ hops ∧ (impl_arrivals.l3 l fr mi ch hops).getD (m * 30 + tg.toNat) 0 ≤ (reach l fr mi ch hops).getD tg.toNat 0 ∧ (reach l fr mi ch hops).getD tg.toNat 0 ≤ 100000 := by
    intro h0
    rcases reach_att h hfr hr' hc hops htg h0 with ⟨e, he⟩ | ⟨m, hm, d, hd, hp⟩
    · refine ⟨0, by omega, ?_, by omega⟩
      rw [he]
      exact ((hrow 0 (by omega) _).1 (Int.le_refl _)).2 e
    · refine ⟨m + 1, by omega, ?_, (path_ok h hc hp).2.2.2.2.2.2⟩
      exact ((hrow (m + 1) (by omega) _).1 (Int.le_refl _)).2 d _ hd hp
  rcases s3 with ⟨e1, e2⟩ | ⟨m, hm, e1, e2, e3, _⟩
  · rw [if_pos (by omega)]
    refine Classical.byContradiction (fun hne => ?_)
    have hn : 0 ≤ (reach l fr mi ch hops).getD tg.toNat 0 := by
      have : (-1 : Int) ≠ (reach l fr mi ch hops).getD tg.toNat 0 := hne
      omega
    obtain ⟨m, hm, ha, hb⟩ := hatt hn
    have := s2 m (by omega)
    omega
  · rw [if_neg (by omega)]
    have h0 : 0 ≤ (reach l fr mi ch hops).getD tg.toNat 0 := by
      refine Classical.byContradiction (fun hneg => ?_)
      have hv : rval (reach l fr mi ch hops) tg = never := by unfold rval; rw [if_pos (by omega)]
      have hcd := (reach_cond h hfr hr' hc hops (s.1 + 1) tg htg (by unfold never; omega)).1 (by rw [hv]; unfold never; omega)
      have : s.1 + 1 ≤ (impl_arrivals.l3 l fr mi ch hops).getD (m * 30 + tg.toNat) 0 := by
        refine (hrow m (by omega) _).2 ⟨by omega, ?_⟩
        cases m with
        | zero => exact hcd.1
        | succ m => exact hcd.2 m (by omega)
      omega
    obtain ⟨m', hm', ha, hb⟩ := hatt h0
    have h1 := s2 m' (by omega)
    have hv : rval (reach l fr mi ch hops) tg = (reach l fr mi ch hops).getD tg.toNat 0 := by unfold rval; rw [if_neg (by omega)]
    have hcd := (reach_cond h hfr hr' hc hops ((reach l fr mi ch hops).getD tg.toNat 0) tg htg (by unfold never; omega)).1 (by rw [hv]; exact Int.le_refl _)
    have : (reach l fr mi ch hops).getD tg.toNat 0 ≤ (impl_arrivals.l3 l fr mi ch hops).getD (m * 30 + tg.toNat) 0 := by
      refine (hrow m (by omega) _).2 ⟨by omega, ?_⟩
      cases m with
      | zero => exact hcd.1
      | succ m => exact hcd.2 m (by omega)
    omega
end
end Go.Proofs.Ytdpjoblnjjkbfaa.Pure
