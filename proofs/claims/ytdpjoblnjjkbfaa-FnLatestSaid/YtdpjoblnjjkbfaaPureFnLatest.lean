/- The law FnLatest, over lists and numbers alone: the latest minute to start is right. -/
import Derived.Test.YtdpjoblnjjkbfaaD
import Derived.Test.YtdpjoblnjjkbfaaV9
import Derived.Test.YtdpjoblnjjkbfaaV5s
import Derived.Test.YtdpjoblnjjkbfaaV6i
import Derived.Test.YtdpjoblnjjkbfaaV11
namespace Go.Proofs.Ytdpjoblnjjkbfaa.Pure
open Go.RowKit Go.Proofs.Ytdpjoblnjjkbfaa.P Go.Proofs.YtdpjoblnjjkbfaaW.PrintWords Go.Proofs.YtdpjoblnjjkbfaaW.PrintLast

theorem ask_true {l : List S51} (h : tableB l = true) {a1 a2 a3 a4 a5 : Int} (h1 : 0 ≤ a1 ∧ a1 < 30) (h2 : 0 ≤ a2 ∧ a2 < 30) (h3 : 0 ≤ a3 ∧ a3 ≤ 100000) (h4 : 0 ≤ a4 ∧ a4 ≤ 60) (h5 : 0 ≤ a5 ∧ a5 ≤ 5) : askB l a1 a2 a3 a4 a5 = true := by
  simp only [askB, Bool.and_eq_true, inB_iff]
  exact ⟨⟨⟨⟨⟨h, by omega⟩, by omega⟩, by omega⟩, by omega⟩, by omega⟩
theorem soon_ev {l : List S51} (h : tableB l = true) (hf : Fit l) {a1 a2 a3 a4 : Int} (h1 : 0 ≤ a1 ∧ a1 < 30) (h2 : 0 ≤ a2 ∧ a2 < 30) (h3 : 0 ≤ a3 ∧ a3 ≤ 100000) (h4 : 0 ≤ a4 ∧ a4 ≤ 60) : Ev (fun k => impl_Soonest.f k l a1 a2 a3 a4 5) ((reach l a1 a3 a4 5).getD a2.toNat 0) := by
  have ha := impl_asked l hf a1 a2 a3 a4 5
  rw [ask_true h h1 h2 h3 h4 (by omega)] at ha
  refine Ev.bind ha ?_
  simp only [if_true, impl_soonest.f]
  rw [if_pos ⟨table_l4 h, h1.1, h1.2, h2.1, h2.2, h3.1, h3.2, h4.1, h4.2, by omega, by omega⟩]
  have e : (5 : Int).toNat = 5 := rfl
  rw [e]
  simp only [Option.bind_some, soonest_same h h1 h3 h4.1 5 h2]
  exact Ev.now _
theorem latest_ev {l : List S51} (h : tableB l = true) (hf : Fit l) {a1 a2 a3 a4 : Int} (h1 : 0 ≤ a1 ∧ a1 < 30) (h2 : 0 ≤ a2 ∧ a2 < 30) (h3 : 0 ≤ a3 ∧ a3 ≤ 100000) (h4 : 0 ≤ a4 ∧ a4 ≤ 60) : Ev (fun k => impl_Latest.f k l a1 a2 a3 a4 5) (if a1 = a2 then a3 else impl_Latest.l0 (impl_departures.l7 l a2 a3 a4 5) a1.toNat (5 + 1)) := by
  have ha := impl_asked l hf a1 a2 a3 a4 5
  rw [ask_true h h1 h2 h3 h4 (by omega)] at ha
  refine Ev.bind ha ?_
  simp only [if_true, impl_Latest.l1]
  rw [if_pos ⟨table_l8 h, h1.1, h1.2, h2.1, h2.2, h3.1, h3.2, h4.1, h4.2, by omega, by omega⟩]
  exact Ev.now _
theorem FnLatest : laws_FnLatest.Pure := by
  intro code hlen _ hw
  refine Ev.rounds (evp_true ?_)
  unfold laws_FnLatest.f
  by_cases hbig : (code.length : Int) > 1048576
  · simp only [big_true hbig, Option.bind_some, if_true]
    exact evp_now _ rfl
  have hcl : code.length ≤ 1048576 := by omega
  simp only [big_false hbig, Option.bind_some, Bool.false_eq_true, if_false]
  refine evp_bind (draw_question code hcl) (fun q hq => ?_)
  obtain ⟨l, fr, tg, mi, ch⟩ := q
  obtain ⟨hT, hF, h1, h2, h3, h4⟩ := hq
  dsimp only at hT hF h1 h2 h3 h4 ⊢
  obtain ⟨v, ev, v0, v1⟩ := at_byte code hcl hw 5 (by omega) (by omega)
  simp only [ev, Option.bind_some]
  have hm : Int.tmod v 90 = v % 90 := Int.tmod_eq_emod_of_nonneg v0
  rw [hm, w64 (x := mi + 30) (by omega) (by omega), w64 (x := mi + 30 + v % 90) (by omega) (by omega)]
  obtain ⟨by_, hby⟩ : ∃ q, q = mi + 30 + v % 90 := ⟨_, rfl⟩
  rw [← hby]
  have b0 : 0 ≤ by_ ∧ by_ ≤ 200 := by omega
  clear hby hm ev
  have hlat := latest_ev hT hF (a1 := fr) (a2 := tg) (a3 := by_) (a4 := ch) (by omega) (by omega) (by omega) (by omega)
  refine evp_bind (evp_of hlat (Q := fun t => t = (if fr = tg then by_ else impl_Latest.l0 (impl_departures.l7 l tg by_ ch 5) fr.toNat (5 + 1))) rfl) (fun t ht => ?_)
  by_cases he : fr = tg
  · rw [if_pos he] at ht
    subst ht
    simp only [he, if_true]
    exact evp_now _ (by simp)
  · rw [if_neg he] at ht
    simp only [he, if_false]
    have hle := latest_le l tg by_ ch hT (by omega) 5 fr (by omega)
    rw [← ht] at hle
    have hself := (hle t).1 (Int.le_refl _)
    by_cases hneg : t < 0
    · have e1 : t = -1 := by omega
      simp only [hneg, if_true]
      refine evp_bind (evp_of (soon_ev hT hF (a1 := fr) (a2 := tg) (a3 := 0) (a4 := ch) (by omega) (by omega) (by omega) (by omega)) (Q := fun x => x = (reach l fr 0 ch 5).getD tg.toNat 0) rfl) (fun x hx => ?_)
      simp only [e1, if_true]
      by_cases c : x < 0
      · simp only [c, if_true]; exact evp_now _ rfl
      · simp only [c, if_false]
        refine evp_now _ (decide_eq_true ?_)
        refine Classical.byContradiction (fun hgt => ?_)
        rw [hx] at c hgt
        rcases reach_att hT (fr := fr) (r := 0) (ch := ch) (by omega) (by omega) (by omega) 5 (v := tg) (by omega) (by omega) with ⟨e, _⟩ | ⟨m, hm, d, hd, hp⟩
        · exact he e.symm
        · have := hself.2 m hm d _ (by omega) hp
          omega
    · simp only [hneg, if_false]
      have hatt : ∃ m, m < 5 ∧ ∃ a, a ≤ by_ ∧ Path l ch m fr t tg a := by
        refine Classical.byContradiction (fun hn => ?_)
        have := (hle (t - 1)).2 ⟨by omega, fun m hm d a ha hp => ?_⟩
        · omega
        · have h1 := hself.2 m hm d a ha hp
          refine Classical.byContradiction (fun hlt => hn ⟨m, hm, a, ha, ?_⟩)
          have e : d = t := by omega
          rw [← e]; exact hp
      obtain ⟨m, hm, a, ha, hp⟩ := hatt
      have hok := path_ok hT (by omega) hp
      refine evp_bind (evp_of (soon_ev hT hF (a1 := fr) (a2 := tg) (a3 := t) (a4 := ch) (by omega) (by omega) (by omega) (by omega)) (Q := fun x => x = (reach l fr t ch 5).getD tg.toNat 0) rfl) (fun x hx => ?_)
      rw [w64 (x := t + 1) (by omega) (by omega)]
      refine evp_bind (evp_of (soon_ev hT hF (a1 := fr) (a2 := tg) (a3 := t + 1) (a4 := ch) (by omega) (by omega) (by omega) (by omega)) (Q := fun x => x = (reach l fr (t + 1) ch 5).getD tg.toNat 0) rfl) (fun y hy => ?_)
      have hcond := reach_cond hT (fr := fr) (r := t) (ch := ch) (by omega) (by omega) (by omega) 5
      have hg := rgood_at (reach_good hT (fr := fr) (r := t) (ch := ch) (by omega) (by omega) (by omega) 5) tg.toNat (by omega)
      have hv : rval (reach l fr t ch 5) tg ≤ a := by
        have h8 : rval (reach l fr t ch 5) tg ≤ never := by
          unfold rval
          split
          · exact Int.le_refl _
          · unfold never; omega
        exact ((hcond _ tg (by omega) h8).1 (Int.le_refl _)).2 m hm _ a (Int.le_refl _) hp
      have hnn : ¬ (reach l fr t ch 5).getD tg.toNat 0 < 0 := by
        intro hneg
        unfold rval at hv
        rw [if_pos hneg] at hv
        unfold never at hv
        omega
      have hv2 : rval (reach l fr t ch 5) tg = (reach l fr t ch 5).getD tg.toNat 0 := by unfold rval; rw [if_neg hnn]
      rw [hv2, ← hx] at hv
      rw [← hx] at hnn
      simp only [show t ≤ by_ by omega, show x ≥ 0 by omega, show x ≤ by_ by omega, if_true]
      by_cases c : y < 0
      · simp only [c, if_true]; exact evp_now _ rfl
      · simp only [c, if_false]
        refine evp_now _ (decide_eq_true ?_)
        refine Classical.byContradiction (fun hgt => ?_)
        rw [hy] at c hgt
        rcases reach_att hT (fr := fr) (r := t + 1) (ch := ch) (by omega) (by omega) (by omega) 5 (v := tg) (by omega) (by omega) with ⟨e, _⟩ | ⟨m', hm', d, hd, hp'⟩
        · exact he e.symm
        · have := hself.2 m' hm' d _ (by omega) hp'
          omega
end Go.Proofs.Ytdpjoblnjjkbfaa.Pure
