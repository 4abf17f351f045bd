/- What cards make of a fare; a ticket through. -/
import Derived.Test.YtcihaeggjfpacaaA4
namespace Go.Proofs.Ytcihaeggjfpacaa.Pure
open Go.RowKit Go.Proofs.Ytcihaeggjfpacaa.P Go.Proofs.YtcihaeggjfpacaaW.PrintWords Go.Proofs.YtcihaeggjfpacaaW.PrintLast

/-- One card's price, and the least of them. -/
def cardPrice (r price : Int) (c : S57) : Int := max (price * (100 - c.f0) / 100 / r * r) c.f1
def withCard (r price minute best : Int) (c : S57) : Int := if inB (minute % 1440) c.f2 c.f3 then min best (cardPrice r price c) else best
def cardedV0 (r price : Int) (cards : List S57) (minute : Int) : Int := cards.foldl (withCard r price minute) price
def cardedV (b s : Int) (j : List Int) (r price : Int) (cards : List S57) (minute : Int) : Int :=
  if tariffOk b s j r && cardsOk cards && inB price 0 10000000 && inB minute 0 100000 then cardedV0 r price cards minute else -1

theorem cardOk_parts {c : S57} (h : cardOk c = true) : (0 ≤ c.f0 ∧ c.f0 ≤ 100) ∧ (0 ≤ c.f1 ∧ c.f1 ≤ 100000) := by
  obtain ⟨⟨a, b⟩, _⟩ := (cardOk_iff c).1 h
  exact ⟨inB_iff.1 a, inB_iff.1 b⟩
theorem cut_bounds {p q : Int} (h0 : 0 ≤ p) (h1 : p ≤ 10000000) (q0 : 0 ≤ q) (q1 : q ≤ 100) : 0 ≤ p * q ∧ p * q ≤ 1000000000 := by
  have h := Int.mul_le_mul h1 q1 q0 (by omega)
  have h' := Int.mul_nonneg h0 q0
  omega

theorem impl_carded_low {b s : Int} {j : List Int} {r : Int} (hr : 1 ≤ r ∧ r ≤ 100) (cards : List S57) (hc : ∀ c, c ∈ cards → cardOk c = true) (hl : cards.length ≤ 1048576) {price minute : Int} (hp : 0 ≤ price ∧ price ≤ 10000000) (hm : 0 ≤ minute ∧ minute ≤ 100000) :
    Ev (fun k => impl_carded.f k b s j r price cards minute) (cardedV0 r price cards minute) := by
  have key : ∀ i, i ≤ cards.length → ∀ best : Int, Ev (fun k => impl_carded.l0 k price minute best cards cards.length i b s j r) ((cards.drop i).foldl (withCard r price minute) best) := by
    refine down cards.length (fun best => ?_) (fun i hi ih best => ?_)
    · rw [List.drop_of_length_le (Nat.le_refl _)]
      exact ev_some (fun k => by simp [impl_carded.l0])
    · rw [List.drop_eq_getElem_cons hi, List.foldl_cons]
      have hck := cardOk_parts (hc cards[i] (List.getElem_mem _))
      have hb := cut_bounds hp.1 hp.2 (q := 100 - cards[i].f0) (by omega) (by omega)
      have hd : 0 ≤ price * (100 - cards[i].f0) / 100 ∧ price * (100 - cards[i].f0) / 100 ≤ 1000000000 := by omega
      refine ev_at (ih _) (fun k => ?_)
      have hw := w64s hi (by omega)
      simp only [impl_carded.l0, between, Option.bind_some, rd_T57, withCard, cardPrice]
      simp only [Int.toNat_natCast, List.getD_eq_getElem?_getD, List.getElem?_eq_getElem hi, Option.getD_some, hw, tmod_pos hm.1]
      rw [if_pos (by omega), if_pos (by omega), if_pos (by omega)]
      cases inB (minute % 1440) cards[i].f2 cards[i].f3
      · simp
      · simp only [if_true]
        rw [if_neg (by omega)]
        rw [w64 (x := 100 - cards[i].f0) (by omega) (by omega), w64 (x := price * (100 - cards[i].f0)) (by omega) (by omega), tdiv_pos hb.1, w64 (x := price * (100 - cards[i].f0) / 100) (by omega) (by omega), down_impl hd.1 hd.2 hr.1]
        congr 1
        unfold mx mn
        split <;> split <;> omega
  exact key 0 (Nat.zero_le _) price

theorem isMinute (m : Int) : impl_isMinute.f m = some (inB m 0 100000) := by simp [impl_isMinute.f, between]
theorem cardsOk_parts {l : List S57} (h : cardsOk l = true) : (∀ c, c ∈ l → cardOk c = true) ∧ l.length ≤ 6 := by
  simp only [cardsOk, Bool.and_eq_true, List.all_eq_true, decide_eq_true_eq] at h
  exact ⟨h.1, by omega⟩

theorem impl_carded_all (b s : Int) (j : List Int) (r price : Int) (cards : List S57) (minute : Int) (h : j.length ≤ 1048576) (hl : cards.length ≤ 1048576) : Ev (fun k => impl_Carded.f k b s j r price cards minute) (cardedV b s j r price cards minute) := by
  unfold impl_Carded.f cardedV
  refine Ev.bind (impl_tariff b s j r h) ?_
  cases ht : tariffOk b s j r
  · simpa using Ev.now _
  · simp only [if_true, Bool.true_and]
    refine Ev.bind (impl_cards cards hl) ?_
    cases hc : cardsOk cards
    · simpa using Ev.now _
    · simp only [if_true, between, isMinute, Option.bind_some, Bool.true_and]
      cases hp : inB price 0 10000000
      · simpa using Ev.now _
      · cases hm : inB minute 0 100000
        · simpa using Ev.now _
        · simp only [if_true, Bool.and_self]
          exact Ev.bind (impl_carded_low (tariffOk_round ht) cards (cardsOk_parts hc).1 hl (inB_iff.1 hp) (inB_iff.1 hm)) (Ev.now _)

theorem spec_carded_low {b s : Int} {j : List Int} {r : Int} (hr : 1 ≤ r ∧ r ≤ 100) (cards : List S57) (hc : ∀ c, c ∈ cards → cardOk c = true) (hl : cards.length ≤ 1048576) {price minute : Int} (hp : 0 ≤ price ∧ price ≤ 10000000) (hm : 0 ≤ minute ∧ minute ≤ 100000) :
    Ev (fun k => spec_Carded.l0 k price cards minute price 0 b s j r) (cardedV0 r price cards minute) := by
  have key : ∀ i, i ≤ cards.length → ∀ best : Int, Ev (fun k => spec_Carded.l0 k price cards minute best i b s j r) ((cards.drop i).foldl (withCard r price minute) best) := by
    refine down cards.length (fun best => ?_) (fun i hi ih best => ?_)
    · rw [List.drop_of_length_le (Nat.le_refl _)]
      exact ev_some (fun k => by simp [spec_Carded.l0])
    · rw [List.drop_eq_getElem_cons hi, List.foldl_cons]
      have hck := cardOk_parts (hc cards[i] (List.getElem_mem _))
      have hb := cut_bounds hp.1 hp.2 (q := 100 - cards[i].f0) (by omega) (by omega)
      have hd : 0 ≤ price * (100 - cards[i].f0) / 100 ∧ price * (100 - cards[i].f0) / 100 ≤ 1000000000 := by omega
      refine ev_at (ih _) (fun k => ?_)
      have hw := w64s hi (by omega)
      simp only [spec_Carded.l0, l01In, Option.bind_some, rd_T57, withCard, cardPrice]
      simp only [Int.toNat_natCast, List.getD_eq_getElem?_getD, List.getElem?_eq_getElem hi, Option.getD_some, hw, tmod_pos hm.1]
      rw [if_pos (by omega), if_pos (by omega)]
      cases inB (minute % 1440) cards[i].f2 cards[i].f3
      · simp
      · simp only [if_true]
        rw [if_neg (by omega)]
        rw [w64 (x := 100 - cards[i].f0) (by omega) (by omega), w64 (x := price * (100 - cards[i].f0)) (by omega) (by omega), tdiv_pos hb.1, w64 (x := price * (100 - cards[i].f0) / 100) (by omega) (by omega), down_spec hd.1 hd.2 hr.1]
        split <;> split <;> (congr 1; omega)
  exact key 0 (Nat.zero_le _) price

theorem spec_carded_all (b s : Int) (j : List Int) (r price : Int) (cards : List S57) (minute : Int) (h : j.length ≤ 1048576) (hl : cards.length ≤ 1048576) : Ev (fun k => spec_Carded.f k b s j r price cards minute) (cardedV b s j r price cards minute) := by
  unfold spec_Carded.f cardedV
  have j2 : Ev (fun k => spec_Carded.j0 k price cards minute true b s j r) (-1) := ev_some (fun k => by simp [spec_Carded.j0])
  refine Ev.bind (spec_tariff b s j r h) ?_
  cases ht : tariffOk b s j r
  · simpa using j2
  · simp only [if_true, Bool.true_and]
    refine Ev.bind (spec_cards cards hl) ?_
    cases hc : cardsOk cards
    · simpa using j2
    · simp only [if_true, l01In, Option.bind_some, Bool.true_and]
      cases hp : inB price 0 10000000
      · simpa using j2
      · cases hm : inB minute 0 100000
        · simpa using j2
        · simp only [if_true, Bool.and_self, Bool.not_true]
          exact ev_at (spec_carded_low (b := b) (s := s) (j := j) (tariffOk_round ht) cards (cardsOk_parts hc).1 hl (inB_iff.1 hp) (inB_iff.1 hm)) (fun k => by simp [spec_Carded.j0])

def stopsOk (l : List Int) : Bool := inB (l.length : Int) 2 20 && l.all (fun n => inB n 0 19)
theorem impl_stops (l : List Int) (h : l.length ≤ 1048576) : Ev (fun k => impl_stopsOk.f k l) (stopsOk l) := by
  have key := ev_all l (fun n => inB n 0 19) (fun k i => impl_stopsOk.l0 k l l.length i) true (fun k => by simp [impl_stopsOk.l0])
    (fun k i hi hp => by simp [impl_stopsOk.l0, hi, impl_zoneOk.f, between, rd, hp, w64s hi (by omega)]) (fun k i hi hp => by simp [impl_stopsOk.l0, hi, impl_zoneOk.f, between, rd, hp])
  unfold impl_stopsOk.f stopsOk
  simp only [between, Option.bind_some]
  cases inB (l.length : Int) 2 20
  · simpa using Ev.now _
  · simpa using key
theorem spec_stops (l : List Int) (h : l.length ≤ 1048576) : Ev (fun k => spec_l13Stops.f k l) (stopsOk l) := by
  have key := ev_all l (fun n => inB n 0 19) (fun k i => spec_l13Stops.l0 k l i) (inB (l.length : Int) 2 20) (fun k => by simp [spec_l13Stops.l0, l01In])
    (fun k i hi hp => by simp [spec_l13Stops.l0, hi, l01In, rd, hp, w64s hi (by omega)]) (fun k i hi hp => by simp [spec_l13Stops.l0, hi, l01In, rd, hp])
  unfold spec_l13Stops.f stopsOk
  rw [Bool.and_comm]
  exact key
theorem stopsOk_parts {l : List Int} (h : stopsOk l = true) : (2 ≤ l.length ∧ l.length ≤ 20) ∧ ∀ x, x ∈ l → 0 ≤ x ∧ x ≤ 19 := by
  simp only [stopsOk, Bool.and_eq_true, inB_iff, List.all_eq_true] at h
  exact ⟨by omega, h.2⟩

def throughV (b s : Int) (j : List Int) (r : Int) (stops : List Int) (cards : List S57) (minute : Int) : Int :=
  if stopsOk stops then cardedV b s j r (fareV b s j r (rd stops 0) (rd stops ((stops.length : Int) - 1))) cards minute else -1

theorem impl_through (b s : Int) (j : List Int) (r : Int) (stops : List Int) (cards : List S57) (minute : Int) (h : j.length ≤ 1048576) (hl : cards.length ≤ 1048576) (hs : stops.length ≤ 1048576) :
    Ev (fun k => impl_Through.f k b s j r stops cards minute) (throughV b s j r stops cards minute) := by
  unfold impl_Through.f throughV
  refine Ev.bind (impl_stops stops hs) ?_
  cases ht : stopsOk stops
  · simpa using Ev.now _
  · have hp := (stopsOk_parts ht).1
    rw [w64 (x := (stops.length : Int) - 1) (by omega) (by omega)]
    simp only [if_true, show 0 < (stops.length : Int) by omega, show 0 ≤ (stops.length : Int) - 1 by omega, show (stops.length : Int) - 1 < stops.length by omega]
    exact Ev.bind (impl_fare_all b s j r _ _ h) (Ev.bind (impl_carded_all b s j r _ cards minute h hl) (Ev.now _))
theorem spec_through (b s : Int) (j : List Int) (r : Int) (stops : List Int) (cards : List S57) (minute : Int) (h : j.length ≤ 1048576) (hl : cards.length ≤ 1048576) (hs : stops.length ≤ 1048576) :
    Ev (fun k => spec_Through.f k b s j r stops cards minute) (throughV b s j r stops cards minute) := by
  unfold spec_Through.f throughV
  refine Ev.bind (spec_stops stops hs) ?_
  cases ht : stopsOk stops
  · simpa using Ev.now _
  · have hp := (stopsOk_parts ht).1
    rw [w64 (x := (stops.length : Int) - 1) (by omega) (by omega)]
    simp only [if_true, show 0 < (stops.length : Int) by omega, show 0 ≤ (stops.length : Int) - 1 by omega, show (stops.length : Int) - 1 < stops.length by omega]
    exact Ev.bind (spec_fare_all b s j r _ _ h) (Ev.bind (spec_carded_all b s j r _ cards minute h hl) (Ev.now _))
end Go.Proofs.Ytcihaeggjfpacaa.Pure
