/- The law FnExactSplit, over lists and numbers alone: program and reference cut a way into the same tickets. -/
import Derived.Test.YtcihaeggjfpacaaQFnExactSplit
import Derived.Test.YtcihaeggjfpacaaS3
namespace Go.Proofs.Ytcihaeggjfpacaa.Pure
open Go.RowKit Go.Proofs.Ytcihaeggjfpacaa.P Go.Proofs.YtcihaeggjfpacaaW.PrintWords Go.Proofs.YtcihaeggjfpacaaW.PrintLast

theorem FnExactSplit : laws_FnExactSplit.Pure2 := by
  intro ⟨b, s, j, r⟩ stops cards minute hq _ hc _
  have hj : j.length ≤ maxLen := hq.2.2.1.1
  refine Ev.rounds ?_
  unfold laws_FnExactSplit.f
  by_cases h0 : (stops.length : Int) > 1048576
  · simpa [h0] using Ev.now true
  have hs : stops.length ≤ 1048576 := by omega
  simp only [h0, if_false, sz_tariff b s j r 1048576 (by omega) (by omega) hj, Option.bind_some]
  by_cases h : (1048576 : Int) < j.length
  · simpa [h] using Ev.now true
  · have hn : j.length ≤ 1048576 := by omega
    simp only [h, if_false, show ¬ ((1048576 : Int) - j.length < 0) by omega, sz_cards cards _ (show 0 ≤ (1048576 : Int) - j.length by omega) (by omega) hc.1, Option.bind_some]
    by_cases h2 : (1048576 : Int) - j.length < cards.length
    · simpa [h2] using Ev.now true
    · have hk : cards.length ≤ 1048576 := by omega
      have hm : (cards.map unc).length ≤ 1048576 := by simpa using hk
      simp only [h2, if_false, show ¬ ((1048576 : Int) - j.length - cards.length < 0) by omega]
      obtain ⟨c, hcv⟩ : ∃ c, splitV0 b s j r stops (cards.map unc) minute = c := ⟨_, rfl⟩
      have hi := impl_split_all b s j r stops (cards.map unc) minute hn hm hs
      have hsp := spec_split_all b s j r stops (cards.map unc) minute hn hm hs
      have hlen := split_len b s j r stops (cards.map unc) minute hs
      rw [hcv] at hi hsp hlen
      obtain ⟨cost, cuts⟩ := c
      simp only at hlen
      refine Ev.bind (to_tariff b s j r hn) (Ev.bind (to_ints stops hs) (Ev.bind (to_cards cards hk) (Ev.bind hsp ?_)))
      refine Ev.bind (to_tariff b s j r hn) (Ev.bind (to_ints stops hs) (Ev.bind (to_cards cards hk) (Ev.bind hi ?_)))
      simp only [if_true]
      refine Ev.bind (eq_ints cuts hlen) ?_
      simp only [Bool.not_true]
      have held := held_ints cuts.length 1 hlen (by omega) (by omega)
      have j2 : Ev (fun k => laws_FnExactSplit.j2 k ((List.range cuts.length).map fun i => (1 : Int) + (i : Nat)) (1 + cuts.length) false) true := by
        refine ev_at (f := fun k => (laws_heldIntS.f k ((List.range cuts.length).map fun i => (1 : Int) + (i : Nat)) 1).bind fun t => if t < 0 then some false else if t = 1 + (cuts.length : Int) then some true else some false) ?_ (fun k => by simp [laws_FnExactSplit.j2])
        refine Ev.bind held ?_
        simp only [if_true, show ¬ (1 + (cuts.length : Int) < 0) by omega, if_false]
        exact Ev.now _
      have j1 : Ev (fun k => laws_FnExactSplit.j1 k stops cards minute cost cuts cuts false b s j r) true := by
        refine ev_at (f := fun k => (laws_markIntS.f k cuts 1).bind fun bt702 => (laws_heldIntS.f k bt702.2 1).bind fun t704 => if t704 < 0 then some false else if t704 = bt702.1 then (laws_toTariff.f k b s j r).bind fun bt705 => (laws_toIntS.f k stops).bind fun t711 => (laws_toCardS.f k cards).bind fun t714 => (impl_Split.f k bt705.1 bt705.2.1 bt705.2.2.1 bt705.2.2.2 t711 t714 minute).bind fun bt717 => if bt717.1 = cost then (laws_eqIntS.f k bt717.2 cuts).bind fun t721 => laws_FnExactSplit.j2 k bt702.2 bt702.1 (!t721) else laws_FnExactSplit.j2 k bt702.2 bt702.1 true else some false) ?_ (fun k => by simp [laws_FnExactSplit.j1])
        refine Ev.bind (mark_ints cuts 1 hlen (by omega) (by omega)) ?_
        refine Ev.bind held ?_
        simp only [if_true, show ¬ (1 + (cuts.length : Int) < 0) by omega, if_false]
        refine Ev.bind (to_tariff b s j r hn) (Ev.bind (to_ints stops hs) (Ev.bind (to_cards cards hk) (Ev.bind hi ?_)))
        simp only [if_true]
        refine Ev.bind (eq_ints cuts hlen) ?_
        simp only [Bool.not_true]
        exact j2
      refine ev_at (f := fun k => (laws_toTariff.f k b s j r).bind fun bt680 => (laws_eqTariff.f k b s j r bt680.1 bt680.2.1 bt680.2.2.1 bt680.2.2.2).bind fun t686 => if t686 = true then (laws_toIntS.f k stops).bind fun t687 => (laws_eqIntS.f k stops t687).bind fun t690 => if t690 = true then (laws_toCardS.f k cards).bind fun t691 => (laws_eqCardS.f k (cards.map unc) t691).bind fun t694 => if t694 = true then (laws_markTariff.f k b s j r 1).bind fun bt695 => (laws_markIntS.f k stops bt695.1).bind fun bt697 => (laws_markCardS.f k (cards.map unc) bt697.1).bind fun bt699 => if bt699.1 < 0 then laws_FnExactSplit.j1 k stops cards minute cost cuts cuts true b s j r else if cost = cost then (laws_eqIntS.f k cuts cuts).bind fun t701 => laws_FnExactSplit.j1 k stops cards minute cost cuts cuts (!t701) b s j r else laws_FnExactSplit.j1 k stops cards minute cost cuts cuts true b s j r else some false else some false else some false) ?_ (fun k => by simp [laws_FnExactSplit.j0])
      refine Ev.bind (to_tariff b s j r hn) (Ev.bind (eq_tariff b s j r hn) ?_)
      simp only [if_true]
      refine Ev.bind (to_ints stops hs) (Ev.bind (eq_ints stops hs) ?_)
      simp only [if_true]
      refine Ev.bind (to_cards cards hk) (Ev.bind (eq_cards _ hm) ?_)
      simp only [if_true]
      refine Ev.bind (mark_tariff b s j r 1 hn (by omega) (by omega)) ?_
      simp only
      refine Ev.bind (mark_ints stops _ hs (by omega) (by omega)) ?_
      simp only
      refine Ev.bind (mark_cards (cards.map unc) _ hm (by omega) (by omega)) ?_
      simp only
      have hpos : ¬ (1 + (j.length : Int) + (stops.length : Int) + 4 * (((cards.map unc).length : Nat) : Int) < 0) := by omega
      simp only [hpos, if_false]
      refine Ev.bind (eq_ints cuts hlen) ?_
      simp only [Bool.not_true]
      exact j1
end Go.Proofs.Ytcihaeggjfpacaa.Pure
