/- Within on both sides. -/
import Derived.Test.YtdpjoblnjjkbfaaV6
namespace Go.Proofs.Ytdpjoblnjjkbfaa.Pure
open Go.RowKit Go.Proofs.Ytdpjoblnjjkbfaa.P Go.Proofs.YtdpjoblnjjkbfaaW.PrintWords Go.Proofs.YtdpjoblnjjkbfaaW.PrintLast

def picks (p : Nat → Bool) : Nat → List Int
  | 0 => []
  | i + 1 => if p i = true then picks p i ++ [(i : Int)] else picks p i
theorem picks_len (p : Nat → Bool) (i : Nat) : (picks p i).length ≤ i := by
  induction i with
  | zero => simp [picks]
  | succ i ih =>
    rw [picks]
    split
    · simp; omega
    · omega
theorem picks_congr {p q : Nat → Bool} (i : Nat) (h : ∀ j, j < i → p j = q j) : picks p i = picks q i := by
  induction i with
  | zero => rfl
  | succ i ih => rw [picks, picks, ih (fun j hj => h j (by omega)), h i (by omega)]
theorem within_l1 (o : List Int) (H i : Nat) : impl_Within.l1 o H i = picks (fun i => impl_Within.l0 o i H) i := by
  induction i with
  | zero => rfl
  | succ i ih => rw [impl_Within.l1, picks, ih]
theorem within_l0 (o : List Int) (i H : Nat) : impl_Within.l0 o i H = true ↔ ∃ h, h < H ∧ o.getD (h * 30 + i) 0 < 100001 := by
  induction H with
  | zero => simp [impl_Within.l0]
  | succ H ih =>
    rw [impl_Within.l0, Bool.or_eq_true, ih, decide_eq_true_eq]
    constructor
    · rintro (⟨h, h1, h2⟩ | h)
      · exact ⟨h, by omega, h2⟩
      · exact ⟨H, by omega, h⟩
    · rintro ⟨h, h1, h2⟩
      rcases Nat.lt_or_ge h H with c | c
      · exact Or.inl ⟨h, c, h2⟩
      · obtain rfl : h = H := by omega
        exact Or.inr h2
section
variable {l : List S51} (h : tableB l = true) {fr mi ch : Int} (hfr : 0 ≤ fr ∧ fr < 30) (hr : 0 ≤ mi ∧ mi ≤ 100000) (hc : 0 ≤ ch)
include h hfr hr hc
theorem reach_row (hops : Nat) {tg : Int} (htg : 0 ≤ tg ∧ tg < 30) : 0 ≤ (reach l fr mi ch hops).getD tg.toNat 0 ↔ ∃ m, m < hops + 1 ∧ (impl_arrivals.l3 l fr mi ch hops).getD (m * 30 + tg.toNat) 0 < 100001 := by
  have hr' : 0 ≤ mi ∧ mi ≤ 1000000 := by omega
  have hrow := fun m (hm : m ≤ hops) x => arr_cond h hfr hr hc hops m hm x tg htg
  constructor
  · intro h0
    rcases reach_att h hfr hr' hc hops htg h0 with ⟨e, he⟩ | ⟨m, hm, d, hd, hp⟩
    · refine ⟨0, by omega, ?_⟩
      have := ((hrow 0 (by omega) _).1 (Int.le_refl _)).2 e
      omega
    · refine ⟨m + 1, by omega, ?_⟩
      have := ((hrow (m + 1) (by omega) _).1 (Int.le_refl _)).2 d _ hd hp
      have := (path_ok h hc hp).2.2.2.2.2.2
      omega
  · rintro ⟨m, hm, hlt⟩
    refine Classical.byContradiction (fun hneg => ?_)
    have hv : rval (reach l fr mi ch hops) tg = never := by unfold rval; rw [if_pos (by omega)]
    have hcd := (reach_cond h hfr hr' hc hops 100001 tg htg (by decide)).1 (by rw [hv]; decide)
    have : 100001 ≤ (impl_arrivals.l3 l fr mi ch hops).getD (m * 30 + tg.toNat) 0 := by
      refine (hrow m (by omega) _).2 ⟨by omega, ?_⟩
      cases m with
      | zero => exact hcd.1
      | succ m => exact hcd.2 m (by omega)
    omega
end
/-- What Within answers. -/
def withB (l : List S51) (a1 a2 a3 a4 : Int) : List Int := if askB l a1 a1 a2 a3 a4 = true then picks (fun i => decide (0 ≤ (reach l a1 a2 a3 a4.toNat).getD i 0)) 30 else []
theorem spec_within (l : List S51) (h : Fit l) (a1 a2 a3 a4 : Int) : Ev (fun k => spec_Within.f k l a1 a2 a3 a4) (withB l a1 a2 a3 a4) := by
  refine Ev.bind (spec_asked l h a1 a1 a2 a3 a4) ?_
  unfold withB
  cases hb : askB l a1 a1 a2 a3 a4 with
  | false => simpa using Ev.now ([] : List Int)
  | true =>
    obtain ⟨h0, h1, h2, h3, h4, h5⟩ := ask_iff hb
    simp only [if_true]
    have e : (a4.toNat : Int) = a4 := by omega
    have hr := reach_ev h0 h1 h4 (r := a2) (by omega) a4.toNat (by omega)
    rw [e] at hr
    have hg := reach_good h0 h1 (r := a2) (by omega) h4.1 a4.toNat
    refine Ev.bind hr ?_
    generalize reach l a1 a2 a3 a4.toNat = s at hg
    have hl := hg.1
    have key : ∀ i, i ≤ 30 → Ev (fun k => spec_Within.l0 k (picks (fun i => decide (0 ≤ s.getD i 0)) i) s (i : Int)) (picks (fun i => decide (0 ≤ s.getD i 0)) 30) := by
      refine down 30 ?_ ?_
      · refine ev_some (fun k => ?_)
        simp only [spec_Within.l0]
        rw [if_neg (by omega)]
      · intro i hi ih
        have hpl := picks_len (fun i => decide (0 ≤ s.getD i 0)) i
        by_cases c : 0 ≤ s.getD i 0
        · rw [picks, if_pos (by simpa using c)] at ih
          refine ev_at ih (fun k => ?_)
          simp only [spec_Within.l0]
          rw [if_pos (by omega), if_pos (by omega), if_pos (show rd s (i : Int) ≥ 0 from c), if_pos (by omega), w64s hi (by omega)]
        · rw [picks, if_neg (by simpa using c)] at ih
          refine ev_at ih (fun k => ?_)
          simp only [spec_Within.l0]
          rw [if_pos (by omega), if_pos (by omega), if_neg (show ¬ rd s (i : Int) ≥ 0 from c), w64s hi (by omega)]
    exact key 0 (by omega)
theorem impl_within (l : List S51) (h : Fit l) (a1 a2 a3 a4 : Int) : Ev (fun k => impl_Within.f k l a1 a2 a3 a4) (withB l a1 a2 a3 a4) := by
  refine Ev.bind (impl_asked l h a1 a1 a2 a3 a4) ?_
  unfold withB
  cases hb : askB l a1 a1 a2 a3 a4 with
  | false => simpa using Ev.now ([] : List Int)
  | true =>
    obtain ⟨h0, h1, h2, h3, h4, h5⟩ := ask_iff hb
    simp only [if_true, impl_Within.l2]
    rw [if_pos ⟨table_l4 h0, h1.1, h1.2, h3.1, h3.2, h4.1, h4.2, h5.1, h5.2⟩, within_l1]
    have : picks (fun i => impl_Within.l0 (impl_arrivals.l3 l a1 a2 a3 a4.toNat) i (a4.toNat + 1)) 30 = picks (fun i => decide (0 ≤ (reach l a1 a2 a3 a4.toNat).getD i 0)) 30 := by
      refine picks_congr 30 (fun j hj => ?_)
      have := reach_row h0 h1 h3 h4.1 a4.toNat (tg := (j : Int)) (by omega)
      rw [Int.toNat_natCast] at this
      rw [Bool.eq_iff_iff, within_l0, decide_eq_true_eq, this]
    rw [this]
    exact Ev.now _
end Go.Proofs.Ytdpjoblnjjkbfaa.Pure
