/- The reference's reach ends and is the plain one. -/
import Derived.Test.YtdpjoblnjjkbfaaV3
namespace Go.Proofs.Ytdpjoblnjjkbfaa.Pure
open Go.RowKit Go.Proofs.Ytdpjoblnjjkbfaa.P Go.Proofs.YtdpjoblnjjkbfaaW.PrintWords Go.Proofs.YtdpjoblnjjkbfaaW.PrintLast

theorem copy_ev (l : List Int) (hl : l.length ≤ 1048576) : Ev (fun k => spec_l01Copy.f k l) l := by
  have key : ∀ i, i ≤ l.length → Ev (fun k => spec_l01Copy.l0 k l (l.take i) (i : Int)) l := by
    refine down l.length ?_ ?_
    · refine ev_some (fun k => ?_)
      simp only [spec_l01Copy.l0]
      rw [if_neg (by omega), List.take_length]
    · intro i hi ih
      refine ev_at ih (fun k => ?_)
      simp only [spec_l01Copy.l0]
      rw [if_pos (by omega), if_pos (by omega), if_pos (by rw [List.length_take]; omega), w64s hi (by omega), take_getD 0 l i hi]
      rfl
  exact key 0 (Nat.zero_le _)

section
variable {l : List S51} (h : tableB l = true) {fr ch : Int} (hfr : 0 ≤ fr ∧ fr < 30) (hc : 0 ≤ ch ∧ ch ≤ 60)
include h hfr hc
theorem reach_l4 (hops : Int) (at_ : List Int) (hh : Int) (ti : Int) (cs : List S67) (hcs : ∀ c, c ∈ cs → 0 ≤ c.f0 ∧ c.f0 < 30 ∧ 0 ≤ c.f1 ∧ c.f1 ≤ 100000 ∧ 0 ≤ c.f2 ∧ c.f2 ≤ 100000) (hlen : cs.length ≤ 12) (i : Nat) (hi : i < cs.length) (r : List Int) :
    ∀ j, j ≤ cs.length → ∀ nx, RGood nx → Ev (fun k => spec_l12Reach.l3 k l fr ch hops at_ hh ((cs.drop j).foldl rset nx) ti cs ((i + 1 : Nat) : Int)) r →
      Ev (fun k => spec_l12Reach.l4 k l fr ch hops at_ hh nx ti cs i (j : Int)) r := by
  have _u := And.intro h (And.intro hfr hc)
  refine down cs.length ?_ ?_
  · intro nx hg hr
    rw [List.drop_of_length_le (Nat.le_refl _)] at hr
    refine ev_at hr (fun k => ?_)
    simp only [spec_l12Reach.l4]
    rw [if_neg (by omega), w64s hi (by omega)]
    rfl
  · intro j hj ih nx hg hr
    rw [drop_getD z67 cs j hj, List.foldl_cons] at hr
    have hc0 := hcs _ (getD_mem z67 cs j hj)
    have hlen2 := hg.1
    refine ev_at (ih (rset nx (cs.getD j z67)) (rset_cond (x := 0) (v := 0) (by omega) (by decide) hg ⟨hc0.1, hc0.2.1, hc0.2.2.1, hc0.2.2.2.1⟩).1 hr) (fun k => ?_)
    have e : rd_T67 cs (j : Int) = cs.getD j z67 := rfl
    simp only [spec_l12Reach.l4]
    rw [if_pos (by omega), if_pos (by omega), e, if_pos (by omega), if_pos (by omega), w64s hj (by omega)]
    unfold rset
    by_cases c1 : nx.getD (cs.getD j z67).f0.toNat 0 < 0
    · rw [if_pos (show rd nx (cs.getD j z67).f0 < 0 from c1), if_pos (Or.inl c1)]
    · rw [if_neg (show ¬ rd nx (cs.getD j z67).f0 < 0 from c1)]
      by_cases c2 : (cs.getD j z67).f1 < nx.getD (cs.getD j z67).f0.toNat 0
      · rw [if_pos (show (cs.getD j z67).f1 < rd nx (cs.getD j z67).f0 from c2), if_pos (Or.inr c2)]
      · rw [if_neg (show ¬ (cs.getD j z67).f1 < rd nx (cs.getD j z67).f0 from c2), if_neg (by omega)]
theorem reach_l3 (hops : Int) (at_ : List Int) (hat : RGood at_) (hh : Int) (ti : Int) (cs : List S67) (hcs : ∀ c, c ∈ cs → 0 ≤ c.f0 ∧ c.f0 < 30 ∧ 0 ≤ c.f1 ∧ c.f1 ≤ 100000 ∧ 0 ≤ c.f2 ∧ c.f2 ≤ 100000) (hlen : cs.length ≤ 12) (r : List Int) :
    ∀ i, i ≤ cs.length → ∀ nx, RGood nx → Ev (fun k => spec_l12Reach.l2 k l fr ch hops at_ hh (((List.range cs.length).drop i).foldl (rcall fr ch at_ cs) nx) (wrap64 (ti + 1))) r →
      Ev (fun k => spec_l12Reach.l3 k l fr ch hops at_ hh nx ti cs (i : Int)) r := by
  refine down cs.length ?_ ?_
  · intro nx hg hr
    rw [List.drop_of_length_le (by simp)] at hr
    refine ev_at hr (fun k => ?_)
    simp only [spec_l12Reach.l3]
    rw [if_neg (by omega)]
    rfl
  · intro i hi ih nx hg hr
    rw [List.drop_eq_getElem_cons (by simpa using hi), List.foldl_cons, List.getElem_range] at hr
    have hc0 := hcs _ (getD_mem z67 cs i hi)
    have hlen2 := hat.1
    have hb := rgood_at hat (cs.getD i z67).f0.toNat (by omega)
    have e : rd_T67 cs (i : Int) = cs.getD i z67 := rfl
    have erd : rd at_ (cs.getD i z67).f0 = at_.getD (cs.getD i z67).f0.toNat 0 := rfl
    have hnext := rcall_cond (x := 0) (v := 0) (by omega) (by decide) fr ch at_ (fun c hc => by have := hcs c hc; omega) hg i
    have hr' := ih _ hnext.1 hr
    have w0 : (if (cs.getD i z67).f0 = fr then (0 : Int) else ch) ≤ 60 ∧ 0 ≤ (if (cs.getD i z67).f0 = fr then (0 : Int) else ch) := by split <;> omega
    generalize hw : (if (cs.getD i z67).f0 = fr then (0 : Int) else ch) = wt at w0
    have hb3 : rbrd fr ch at_ (cs.getD i z67) ↔ 0 ≤ at_.getD (cs.getD i z67).f0.toNat 0 ∧ at_.getD (cs.getD i z67).f0.toNat 0 + wt ≤ (cs.getD i z67).f2 := by unfold rbrd; rw [hw]
    refine Ev.step (f := fun k => spec_l12Reach.j4 k l fr ch hops at_ hh nx ti cs i (at_.getD (cs.getD i z67).f0.toNat 0) wt) (fun k => ?_) ?_
    · simp only [spec_l12Reach.l3]
      rw [if_pos (by omega), if_pos (by omega), e, if_pos (by omega), if_pos (by omega), erd, ← hw]
      split <;> rfl
    · by_cases c1 : at_.getD (cs.getD i z67).f0.toNat 0 < 0
      · have hn : ¬ rbrd fr ch at_ (cs.getD i z67) := by rw [hb3]; omega
        rw [rcall, if_neg hn] at hr'
        refine Ev.step (f := fun k => spec_l12Reach.j5 k l fr ch hops at_ hh nx ti cs i true) (fun k => by simp only [spec_l12Reach.j4]; rw [if_pos c1]) ?_
        refine ev_at hr' (fun k => ?_)
        simp only [spec_l12Reach.j5, if_true]
        rw [w64s hi (by omega)]
      · by_cases c2 : (cs.getD i z67).f2 < at_.getD (cs.getD i z67).f0.toNat 0 + wt
        · have hn : ¬ rbrd fr ch at_ (cs.getD i z67) := by rw [hb3]; omega
          rw [rcall, if_neg hn] at hr'
          refine Ev.step (f := fun k => spec_l12Reach.j5 k l fr ch hops at_ hh nx ti cs i true) (fun k => by
            simp only [spec_l12Reach.j4]
            rw [if_neg c1, if_pos (by omega), if_pos (by omega), e, w64 (by omega) (by omega), decide_eq_true c2]) ?_
          refine ev_at hr' (fun k => ?_)
          simp only [spec_l12Reach.j5, if_true]
          rw [w64s hi (by omega)]
        · have hn : rbrd fr ch at_ (cs.getD i z67) := hb3.2 (by omega)
          rw [rcall, if_pos hn] at hr'
          refine Ev.step (f := fun k => spec_l12Reach.j5 k l fr ch hops at_ hh nx ti cs i false) (fun k => by
            simp only [spec_l12Reach.j4]
            rw [if_neg c1, if_pos (by omega), if_pos (by omega), e, w64 (by omega) (by omega), decide_eq_false c2]) ?_
          refine Ev.step (f := fun k => spec_l12Reach.l4 k l fr ch hops at_ hh nx ti cs i ((i + 1 : Nat) : Int)) (fun k => ?_) (reach_l4 h hfr hc hops at_ hh ti cs hcs hlen i hi r (i + 1) (by omega) nx hg hr')
          simp only [spec_l12Reach.j5]
          rw [if_neg (by decide), w64s hi (by omega)]
theorem rtrip_good (at_ : List Int) {nx : List Int} (hg : RGood nx) {t : S51} (ht : t ∈ l) : RGood (rtrip fr ch at_ nx t) := by
  have _u := And.intro hfr hc
  have hcs : ∀ c, c ∈ t.f1 → 0 ≤ c.f0 ∧ c.f0 < 30 ∧ 0 ≤ c.f1 ∧ c.f1 ≤ 100000 := fun c hc => by have := calls_ok (trip_of h ht) hc; omega
  exact (fold_cond (rcall fr ch at_ t.f1) RGood (fun _ => True) (fun _ => True) (List.range t.f1.length) (fun s i hs _ => ⟨(rcall_cond (x := 0) (v := 0) (by omega) (by decide) fr ch at_ hcs hs i).1, by simp⟩) nx hg).1
theorem reach_l2 (hops : Int) (at_ : List Int) (hat : RGood at_) (hh : Int) (r : List Int) :
    ∀ i, i ≤ l.length → ∀ nx, RGood nx → Ev (fun k => spec_l12Reach.l1 k l fr ch hops ((l.drop i).foldl (rtrip fr ch at_) nx) (wrap64 (hh + 1))) r →
      Ev (fun k => spec_l12Reach.l2 k l fr ch hops at_ hh nx (i : Int)) r := by
  have hl : l.length ≤ 24 := by simp only [tableB, Bool.and_eq_true, decide_eq_true_eq] at h; exact h.1
  refine down l.length ?_ ?_
  · intro nx hg hr
    rw [List.drop_of_length_le (Nat.le_refl _)] at hr
    refine ev_at hr (fun k => ?_)
    simp only [spec_l12Reach.l2]
    rw [if_neg (by omega)]
    rfl
  · intro i hi ih nx hg hr
    rw [drop_getD z51 l i hi, List.foldl_cons] at hr
    have hm := getD_mem z51 l i hi
    have hB := trip_of h hm
    have hlen : (l.getD i z51).f1.length ≤ 12 := by simp only [tripB, Bool.and_eq_true, inB_iff] at hB; omega
    have hr' := ih _ (rtrip_good h hfr hc at_ hg hm) hr
    refine Ev.step (f := fun k => spec_l12Reach.l3 k l fr ch hops at_ hh nx i (l.getD i z51).f1 0) (fun k => ?_)
      (reach_l3 h hfr hc hops at_ hat hh i (l.getD i z51).f1 (fun c hc => by have := calls_ok hB hc; omega) hlen r 0 (Nat.zero_le _) nx hg (by rw [w64s hi (by omega)]; exact hr'))
    simp only [spec_l12Reach.l2]
    rw [if_pos (by omega), if_pos (by omega)]
    rfl
theorem reach_l1 {r : Int} (hr : 0 ≤ r ∧ r ≤ 1000000) (hops : Nat) (hh : hops ≤ 1000) :
    ∀ n, n ≤ hops → Ev (fun k => spec_l12Reach.l1 k l fr ch hops (reach l fr r ch n) (n : Int)) (reach l fr r ch hops) := by
  refine down hops ?_ ?_
  · refine ev_some (fun k => ?_)
    simp only [spec_l12Reach.l1]
    rw [if_neg (by omega)]
  · intro n hn ih
    have hg := reach_good h hfr hr hc.1 n
    refine Ev.step (f := fun k => (spec_l01Copy.f k (reach l fr r ch n)).bind fun t => spec_l12Reach.l2 k l fr ch hops (reach l fr r ch n) n t 0) (fun k => ?_)
      (Ev.bind (copy_ev _ (by rw [hg.1]; decide)) (reach_l2 h hfr hc hops _ hg n _ 0 (Nat.zero_le _) _ hg (by rw [w64s hn (by omega)]; exact ih)))
    simp only [spec_l12Reach.l1]
    rw [if_pos (by omega)]
theorem reach_ev {r : Int} (hr : 0 ≤ r ∧ r ≤ 1000000) (hops : Nat) (hh : hops ≤ 1000) : Ev (fun k => spec_l12Reach.f k l fr r ch hops) (reach l fr r ch hops) := by
  have key : ∀ i, i ≤ 30 → Ev (fun k => spec_l12Reach.l0 k l fr r ch hops (List.replicate i (-1)) (i : Int)) (reach l fr r ch hops) := by
    refine down 30 ?_ ?_
    · refine ev_at (reach_l1 h hfr hc hr hops hh 0 (Nat.zero_le _)) (fun k => ?_)
      simp only [spec_l12Reach.l0]
      rw [if_neg (by omega), if_pos (by omega), if_pos (by rw [List.length_replicate]; omega)]
      rfl
    · intro i hi ih
      refine ev_at ih (fun k => ?_)
      simp only [spec_l12Reach.l0]
      rw [if_pos (by omega), if_pos (by rw [List.length_replicate]; omega), w64s hi (by omega), ← List.replicate_succ']
  exact key 0 (Nat.zero_le _)
end
end Go.Proofs.Ytdpjoblnjjkbfaa.Pure
