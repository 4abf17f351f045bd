/- The law FnExactJourneyText, over lists and numbers alone: program and reference write the same text. -/
import Derived.Test.YtdpjoblnjjkbfaaDoorQFnExactJourneyText
import Derived.Test.YtdpjoblnjjkbfaaDoorV1
import Derived.Test.YtdpjoblnjjkbfaaDoorV6
import Derived.Test.YtdpjoblnjjkbfaaDoorW3
namespace Go.Proofs.YtdpjoblnjjkbfaaDoor.Pure
open Go.RowKit Go.Proofs.YtdpjoblnjjkbfaaDoor.P Go.Proofs.YtdpjoblnjjkbfaaDoorW.PrintWords Go.Proofs.YtdpjoblnjjkbfaaDoorW.PrintLast

def unL (x : S56) : S48 := ⟨x.f0, x.f1, x.f2⟩
theorem to_legs (l : List S56) (h : l.length ≤ 1048576) : Ev (fun k => laws_toLegS.f k l) (l.map unL) := by
  have key := ev_map z56 l unL (fun k acc i => laws_toLegS.l0 k l acc i) (List.replicate l.length z48) (by simp)
    (fun k acc ha => by simp [laws_toLegS.l0])
    (fun k acc i hi ha => by simp [laws_toLegS.l0, laws_toLeg.f, w64s hi (by omega), hi, ha, rd_T56, unL])
  simpa [laws_toLegS.f, show l.length ≤ 11728124029610 by omega] using key
theorem eq_legs (l : List S48) (h : l.length ≤ 1048576) : Ev (fun k => laws_eqLegS.f k l l) true := by
  have key := ev_true l.length (fun k i => laws_eqLegS.l0 k l l i) (fun k => by simp [laws_eqLegS.l0]) (fun k i hi => by simp [laws_eqLegS.l0, laws_eqLeg.f, w64s hi (by omega), hi])
  simpa [laws_eqLegS.f] using key
theorem sz_legs (l : List S56) (n : Int) (h0 : 0 ≤ n) (h1 : n ≤ 1048576) (h : l.length ≤ maxLen) : laws_szLegS.f l n = some (if n < l.length then -1 else n - l.length) := by
  unfold maxLen at h
  unfold laws_szLegS.f
  rw [w64 (by omega) (by omega)]
  by_cases c : n - (l.length : Int) < 0
  · rw [if_pos c, if_pos (by omega)]
  · rw [if_neg c, if_neg (by omega)]

theorem FnExactJourneyText : laws_FnExactJourneyText.Pure2 := by
  intro l ls a2 hl hs _
  refine Ev.rounds ?_
  unfold laws_FnExactJourneyText.f
  obtain ⟨z, hz, hz1, hs0⟩ := sz_trips l ⟨hl.1, fun e he => ⟨(hl.2 e he).1, (hl.2 e he).2.1⟩⟩
  refine Ev.bind hz ?_
  by_cases c : z < 0
  · simpa [c] using Ev.now true
  · simp only [c, if_false]
    have hS := hs0 (by omega)
    have hF := fit_of l hS (fun e he => (hl.2 e he).1)
    simp only [sz_legs ls z (by omega) hz1 hs.1, Option.bind_some]
    by_cases c2 : z < (ls.length : Int)
    · simp only [c2, if_true, show ((-1 : Int) < 0) = True from eq_true (by decide)]
      exact Ev.now true
    · simp only [c2, if_false, show ¬ (z - (ls.length : Int) < 0) by omega]
      have hL : ls.length ≤ 1048576 := by omega
      refine Ev.bind (to_trips l hS) (Ev.bind (to_legs ls hL) (Ev.bind (spec_text hF _ a2) (Ev.bind (to_trips l hS) (Ev.bind (to_legs ls hL) (Ev.bind (impl_text hF _ a2) ?_)))))
      simp only [if_true]
      refine Ev.bind (to_trips l hS) (Ev.bind (eq_trips _ hF.1 (fun t ht => (hF.2 t ht).2)) ?_)
      simp only [if_true]
      refine Ev.bind (to_legs ls hL) (Ev.bind (eq_legs _ (by simpa using hL)) ?_)
      simp only [if_true]
      exact Ev.now true
end Go.Proofs.YtdpjoblnjjkbfaaDoor.Pure
