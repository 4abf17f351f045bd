/- Latest on both sides. -/
import Derived.Test.YtdpjoblnjjkbfaaV9
namespace Go.Proofs.Ytdpjoblnjjkbfaa.Pure
open Go.RowKit Go.Proofs.Ytdpjoblnjjkbfaa.P Go.Proofs.YtdpjoblnjjkbfaaW.PrintWords Go.Proofs.YtdpjoblnjjkbfaaW.PrintLast

def lstep (l : List S51) (fr tg by_ ch : Int) (hops : Nat) (b : Int) (c : S67) : Int := if c.f0 = fr ∧ c.f2 ≤ by_ ∧ b < c.f2 ∧ 0 ≤ (reach l fr c.f2 ch hops).getD tg.toNat 0 ∧ (reach l fr c.f2 ch hops).getD tg.toNat 0 ≤ by_ then c.f2 else b
def latS (l : List S51) (fr tg by_ ch : Int) (hops : Nat) : Int := l.foldl (fun b t => t.f1.foldl (lstep l fr tg by_ ch hops) b) (-1)
section
variable {l : List S51} (h : tableB l = true) {fr tg by_ ch : Int} (hfr : 0 ≤ fr ∧ fr < 30) (htg : 0 ≤ tg ∧ tg < 30) (hc : 0 ≤ ch ∧ ch ≤ 60)
include h hfr htg hc
theorem lat_l1 (hops : Nat) (hh : hops ≤ 5) (i : Nat) (hi : i < l.length) (r : Int) :
    ∀ j, j ≤ (l.getD i z51).f1.length → ∀ b, Ev (fun k => spec_Latest.l0 k l fr tg by_ ch hops (((l.getD i z51).f1.drop j).foldl (lstep l fr tg by_ ch hops) b) ((i + 1 : Nat) : Int)) r →
      Ev (fun k => spec_Latest.l1 k l fr tg by_ ch hops b i (j : Int)) r := by
  have hl : l.length ≤ 24 := by simp only [tableB, Bool.and_eq_true, decide_eq_true_eq] at h; exact h.1
  have hB := trip_of h (getD_mem z51 l i hi)
  have hlen : (l.getD i z51).f1.length ≤ 12 := by simp only [tripB, Bool.and_eq_true, inB_iff] at hB; omega
  have e51 : rd_T51 l (i : Int) = l.getD i z51 := rfl
  refine down (l.getD i z51).f1.length ?_ ?_
  · intro b hr
    rw [List.drop_of_length_le (Nat.le_refl _)] at hr
    refine ev_at hr (fun k => ?_)
    simp only [spec_Latest.l1]
    rw [if_pos (by omega), if_pos (by omega), e51, if_neg (by omega), w64s hi (by omega)]
    rfl
  · intro j hj ih b hr
    rw [drop_getD z67 _ j hj, List.foldl_cons] at hr
    have hcall := calls_ok hB (getD_mem z67 _ j hj)
    have e67 : rd_T67 (l.getD i z51).f1 (j : Int) = (l.getD i z51).f1.getD j z67 := rfl
    generalize (l.getD i z51).f1.getD j z67 = c at hr hcall e67
    have hr' := ih _ hr
    have skip : lstep l fr tg by_ ch hops b c = b → Ev (fun k => spec_Latest.j2 k l fr tg by_ ch hops b i j true c.f0 c.f1 c.f2) r := by
      intro e
      rw [e] at hr'
      refine ev_at hr' (fun k => ?_)
      simp only [spec_Latest.j2, if_true]
      rw [w64s hj (by omega)]
    by_cases c1 : c.f0 = fr
    · by_cases c2 : c.f2 > by_
      · have e : lstep l fr tg by_ ch hops b c = b := by unfold lstep; rw [if_neg (by omega)]
        refine Ev.step (fun k => ?_) (skip e)
        simp only [spec_Latest.l1]
        rw [if_pos (by omega), if_pos (by omega), e51, if_pos (by omega), if_pos (by omega), e67, if_pos c1, if_pos c2]
      · by_cases c3 : c.f2 ≤ b
        · have e : lstep l fr tg by_ ch hops b c = b := by unfold lstep; rw [if_neg (by omega)]
          refine Ev.step (fun k => ?_) (skip e)
          simp only [spec_Latest.l1]
          rw [if_pos (by omega), if_pos (by omega), e51, if_pos (by omega), if_pos (by omega), e67, if_pos c1, if_neg c2, decide_eq_true c3]
        · refine Ev.step (f := fun k => spec_Latest.j2 k l fr tg by_ ch hops b i j false c.f0 c.f1 c.f2) (fun k => ?_) ?_
          · simp only [spec_Latest.l1]
            rw [if_pos (by omega), if_pos (by omega), e51, if_pos (by omega), if_pos (by omega), e67, if_pos c1, if_neg c2, decide_eq_false c3]
          · have hre := reach_ev h hfr hc (r := c.f2) (by omega) hops (by omega)
            have hg := (reach_good h hfr (r := c.f2) (by omega) hc.1 hops).1
            refine Ev.step (f := fun k => (spec_l12Reach.f k l fr c.f2 ch hops).bind fun t => if 0 ≤ tg then (if tg < (t.length : Int) then (if (rd t tg) ≥ 0 then (if (rd t tg) ≤ by_ then (spec_Latest.l1 k l fr tg by_ ch hops c.f2 i ((j + 1 : Nat) : Int)) else (spec_Latest.l1 k l fr tg by_ ch hops b i ((j + 1 : Nat) : Int))) else (spec_Latest.l1 k l fr tg by_ ch hops b i ((j + 1 : Nat) : Int))) else none) else none) (fun k => ?_) (Ev.bind hre ?_)
            · simp only [spec_Latest.j2]
              rw [if_neg (by decide), w64s hj (by omega)]
            · rw [hg] at *
              simp only [htg.1, show tg < ((30 : Nat) : Int) by omega, if_true]
              have erd : rd (reach l fr c.f2 ch hops) tg = (reach l fr c.f2 ch hops).getD tg.toNat 0 := rfl
              rw [erd]
              by_cases c4 : (reach l fr c.f2 ch hops).getD tg.toNat 0 ≥ 0
              · by_cases c5 : (reach l fr c.f2 ch hops).getD tg.toNat 0 ≤ by_
                · have e : lstep l fr tg by_ ch hops b c = c.f2 := by unfold lstep; rw [if_pos ⟨c1, by omega, by omega, c4, c5⟩]
                  rw [e] at hr'
                  simp only [c4, c5, if_true]
                  exact hr'
                · have e : lstep l fr tg by_ ch hops b c = b := by unfold lstep; rw [if_neg (fun hh => c5 hh.2.2.2.2)]
                  rw [e] at hr'
                  simp only [c4, c5, if_true, if_false]
                  exact hr'
              · have e : lstep l fr tg by_ ch hops b c = b := by unfold lstep; rw [if_neg (fun hh => c4 hh.2.2.2.1)]
                rw [e] at hr'
                simp only [c4, if_false]
                exact hr'
    · have e : lstep l fr tg by_ ch hops b c = b := by unfold lstep; rw [if_neg (fun hh => c1 hh.1)]
      refine Ev.step (fun k => ?_) (skip e)
      simp only [spec_Latest.l1]
      rw [if_pos (by omega), if_pos (by omega), e51, if_pos (by omega), if_pos (by omega), e67, if_neg c1]
theorem lat_l0 (hops : Nat) (hh : hops ≤ 5) : Ev (fun k => spec_Latest.l0 k l fr tg by_ ch hops (-1) 0) (latS l fr tg by_ ch hops) := by
  have key : ∀ i, i ≤ l.length → ∀ b, Ev (fun k => spec_Latest.l0 k l fr tg by_ ch hops b (i : Int)) ((l.drop i).foldl (fun b t => t.f1.foldl (lstep l fr tg by_ ch hops) b) b) := by
    refine down l.length ?_ ?_
    · intro b
      rw [List.drop_of_length_le (Nat.le_refl _)]
      refine ev_some (fun k => ?_)
      simp only [spec_Latest.l0]
      rw [if_neg (by omega)]
      rfl
    · intro i hi ih b
      rw [drop_getD z51 l i hi, List.foldl_cons]
      refine Ev.step (f := fun k => spec_Latest.l1 k l fr tg by_ ch hops b i 0) (fun k => ?_) (lat_l1 h hfr htg hc hops hh i hi _ 0 (Nat.zero_le _) b (ih _))
      simp only [spec_Latest.l0]
      rw [if_pos (by omega)]
  exact key 0 (Nat.zero_le _) (-1)
theorem lat_le (hops : Nat) (hne : fr ≠ tg) (z : Int) : latS l fr tg by_ ch hops ≤ z ↔ -1 ≤ z ∧ ∀ m, m < hops → ∀ d a, a ≤ by_ → Path l ch m fr d tg a → d ≤ z := by
  have k1 : ∀ t, t ∈ l → ∀ b, (t.f1.foldl (lstep l fr tg by_ ch hops) b ≤ z ↔ b ≤ z ∧ ∀ c, c ∈ t.f1 → c.f0 = fr → c.f2 ≤ by_ → 0 ≤ (reach l fr c.f2 ch hops).getD tg.toNat 0 → (reach l fr c.f2 ch hops).getD tg.toNat 0 ≤ by_ → c.f2 ≤ z) := by
    intro t ht b
    refine (fold_cond (lstep l fr tg by_ ch hops) (fun _ => True) (fun b => b ≤ z) (fun c => c.f0 = fr → c.f2 ≤ by_ → 0 ≤ (reach l fr c.f2 ch hops).getD tg.toNat 0 → (reach l fr c.f2 ch hops).getD tg.toNat 0 ≤ by_ → c.f2 ≤ z) t.f1 (fun b c _ _ => ⟨trivial, ?_⟩) b trivial).2
    unfold lstep
    by_cases hh : c.f0 = fr ∧ c.f2 ≤ by_ ∧ b < c.f2 ∧ 0 ≤ (reach l fr c.f2 ch hops).getD tg.toNat 0 ∧ (reach l fr c.f2 ch hops).getD tg.toNat 0 ≤ by_
    · rw [if_pos hh]
      obtain ⟨a1, a2, a3, a4, a5⟩ := hh
      constructor
      · intro hz; exact ⟨by omega, fun _ _ _ _ => hz⟩
      · rintro ⟨_, hz⟩; exact hz a1 a2 a4 a5
    · rw [if_neg hh]
      constructor
      · intro hz
        refine ⟨hz, fun a1 a2 a4 a5 => ?_⟩
        refine Classical.byContradiction (fun hlt => hh ⟨a1, a2, by omega, a4, a5⟩)
      · exact fun hz => hz.1
  have k2 := (fold_cond (fun b t => t.f1.foldl (lstep l fr tg by_ ch hops) b) (fun _ => True) (fun b => b ≤ z) (fun t => ∀ c, c ∈ t.f1 → c.f0 = fr → c.f2 ≤ by_ → 0 ≤ (reach l fr c.f2 ch hops).getD tg.toNat 0 → (reach l fr c.f2 ch hops).getD tg.toNat 0 ≤ by_ → c.f2 ≤ z) l (fun b t _ ht => ⟨trivial, k1 t ht b⟩) (-1) trivial).2
  refine k2.trans (and_congr_right fun _ => ?_)
  constructor
  · intro hh m hm d a ha hp
    have hok := path_ok h hc.1 hp
    have hfirst : ∃ t, t ∈ l ∧ ∃ c, c ∈ t.f1 ∧ c.f0 = fr ∧ c.f2 = d := by
      have hleg : ∃ v a', Leg l fr v d a' := by
        cases m with
        | zero => exact ⟨_, _, hp⟩
        | succ m => obtain ⟨w, d', a', h1, _, _⟩ := hp; exact ⟨_, _, h1⟩
      obtain ⟨v, a', t, ht, hL⟩ := hleg
      obtain ⟨i, hi, h1, h2, _⟩ := (legIn_idx _ _ _ _ _).1 hL
      exact ⟨t, ht, _, getD_mem z67 t.f1 i hi, h1, h2⟩
    obtain ⟨t, ht, c, hct, hcf, rfl⟩ := hfirst
    have hd1 : 0 ≤ c.f2 ∧ c.f2 ≤ 1000000 := by omega
    have hcond := reach_cond h hfr hd1 hc.1 hops
    have hg := rgood_at (reach_good h hfr hd1 hc.1 hops) tg.toNat (by omega)
    have hv : rval (reach l fr c.f2 ch hops) tg ≤ a := by
      have h8 : rval (reach l fr c.f2 ch hops) tg ≤ never := by
        unfold rval
        split
        · exact Int.le_refl _
        · unfold never; omega
      exact ((hcond _ tg htg h8).1 (Int.le_refl _)).2 m hm _ a (Int.le_refl _) hp
    have hnn : ¬ (reach l fr c.f2 ch hops).getD tg.toNat 0 < 0 := by
      intro hneg
      unfold rval at hv
      rw [if_pos hneg] at hv
      unfold never at hv
      omega
    have hv2 : rval (reach l fr c.f2 ch hops) tg = (reach l fr c.f2 ch hops).getD tg.toNat 0 := by unfold rval; rw [if_neg hnn]
    rw [hv2] at hv
    exact hh t ht c hct hcf (by omega) (by omega) (by omega)
  · intro hh t ht c hct hcf hcb h0 h1
    have hcall := calls_ok (trip_of h ht) hct
    rcases reach_att h hfr (r := c.f2) (by omega) hc.1 hops htg h0 with ⟨e, _⟩ | ⟨m, hm, d, hd, hp⟩
    · exact absurd e.symm hne
    · have := hh m hm d _ h1 hp
      omega
theorem lat_same (hops : Nat) (hne : fr ≠ tg) : impl_Latest.l0 (impl_departures.l7 l tg by_ ch hops) fr.toNat (hops + 1) = latS l fr tg by_ ch hops := by
  have h1 := latest_le l tg by_ ch h hc.1 hops fr hfr
  have h2 := lat_le h hfr htg hc (by_ := by_) hops hne
  have a := (h1 _).2 ((h2 _).1 (Int.le_refl (latS l fr tg by_ ch hops)))
  have b := (h2 _).2 ((h1 _).1 (Int.le_refl (impl_Latest.l0 (impl_departures.l7 l tg by_ ch hops) fr.toNat (hops + 1))))
  omega
end
/-- What Latest answers. -/
def latB (l : List S51) (a1 a2 a3 a4 a5 : Int) : Int := if askB l a1 a2 a3 a4 a5 = true then (if a1 = a2 then a3 else latS l a1 a2 a3 a4 a5.toNat) else -1
theorem spec_latest (l : List S51) (h : Fit l) (a1 a2 a3 a4 a5 : Int) : Ev (fun k => spec_Latest.f k l a1 a2 a3 a4 a5) (latB l a1 a2 a3 a4 a5) := by
  refine Ev.bind (spec_asked l h a1 a2 a3 a4 a5) ?_
  unfold latB
  cases hb : askB l a1 a2 a3 a4 a5 with
  | false => simpa using Ev.now (-1 : Int)
  | true =>
    obtain ⟨h0, h1, h2, h3, h4, h5⟩ := ask_iff hb
    simp only [if_true]
    by_cases e : a1 = a2
    · simp only [e, if_true]; exact Ev.now _
    · simp only [e, if_false]
      have e5 : (a5.toNat : Int) = a5 := by omega
      have := lat_l0 h0 h1 h2 h4 (by_ := a3) a5.toNat (by omega)
      rw [e5] at this
      exact this
theorem impl_latest (l : List S51) (h : Fit l) (a1 a2 a3 a4 a5 : Int) : Ev (fun k => impl_Latest.f k l a1 a2 a3 a4 a5) (latB l a1 a2 a3 a4 a5) := by
  refine Ev.bind (impl_asked l h a1 a2 a3 a4 a5) ?_
  unfold latB
  cases hb : askB l a1 a2 a3 a4 a5 with
  | false => simpa using Ev.now (-1 : Int)
  | true =>
    obtain ⟨h0, h1, h2, h3, h4, h5⟩ := ask_iff hb
    simp only [if_true, impl_Latest.l1]
    rw [if_pos ⟨table_l8 h0, h1.1, h1.2, h2.1, h2.2, h3.1, h3.2, h4.1, h4.2, h5.1, h5.2⟩]
    by_cases e : a1 = a2
    · simp only [e, if_true]; exact Ev.now _
    · simp only [e, if_false, lat_same h0 h1 h2 h4 (by_ := a3) a5.toNat e]
      exact Ev.now _
end Go.Proofs.Ytdpjoblnjjkbfaa.Pure
