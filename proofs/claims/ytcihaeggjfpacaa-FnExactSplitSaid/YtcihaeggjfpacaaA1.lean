/- What the laws' own copying, comparing, marking functions do: over fares. -/
import Derived.Test.YtcihaeggjfpacaaE
namespace Go.Proofs.Ytcihaeggjfpacaa.Pure
open Go.RowKit Go.Proofs.Ytcihaeggjfpacaa.P Go.Proofs.YtcihaeggjfpacaaW.PrintWords Go.Proofs.YtcihaeggjfpacaaW.PrintLast

theorem to_ints (l : List Int) (h : l.length ≤ 1048576) : Ev (fun k => laws_toIntS.f k l) l := by
  have key := ev_map (0 : Int) l (fun x => x) (fun k acc i => laws_toIntS.l0 k l acc i) (List.replicate l.length 0) (by simp)
    (fun k acc ha => by simp [laws_toIntS.l0])
    (fun k acc i hi ha => by simp [laws_toIntS.l0, w64s hi (by omega), hi, ha, rd])
  rw [List.map_id'] at key
  simpa [laws_toIntS.f, show l.length ≤ 35184372088832 by omega] using key

theorem eq_ints (l : List Int) (h : l.length ≤ 1048576) : Ev (fun k => laws_eqIntS.f k l l) true := by
  have key := ev_true l.length (fun k i => laws_eqIntS.l0 k l l i) (fun k => by simp [laws_eqIntS.l0]) (fun k i hi => by simp [laws_eqIntS.l0, w64s hi (by omega), hi])
  simpa [laws_eqIntS.f] using key

theorem mark_ints (l : List Int) (x : Int) (h : l.length ≤ 1048576) (h0 : 0 ≤ x) (h1 : x ≤ 1000000000) : Ev (fun k => laws_markIntS.f k l x) (x + l.length, (List.range l.length).map fun i => x + (i : Nat)) := by
  have key := ev_mark l.length 1 (fun x => x) (fun k l x i => laws_markIntS.l0 k l x i) x l rfl (fun k x m hm => by simp [laws_markIntS.l0, hm])
    (fun k m i hi hm => by
      simp [laws_markIntS.l0, hm, hi, w64s hi (by omega), w64 (x := x + i + 1) (by omega) (by omega)]
      congr 1
      omega)
  simpa [laws_markIntS.f] using key

theorem held_ints (n : Nat) (x : Int) (h : n ≤ 1048576) (h0 : 0 ≤ x) (h1 : x ≤ 1000000000) : Ev (fun k => laws_heldIntS.f k ((List.range n).map fun i => x + (i : Nat)) x) (x + n) := by
  have key := ev_held n 1 (fun k y i => laws_heldIntS.l0 k ((List.range n).map fun i => x + (i : Nat)) y i) x (fun k y => by simp [laws_heldIntS.l0])
    (fun k i hi => by
      simp [laws_heldIntS.l0, hi, w64s hi (by omega), w64 (x := x + i + 1) (by omega) (by omega), rd]
      congr 1
      omega)
  simpa [laws_heldIntS.f] using key

def unc (x : S60) : S57 := ⟨x.f0, x.f1, x.f2, x.f3⟩

theorem to_cards (l : List S60) (h : l.length ≤ 1048576) : Ev (fun k => laws_toCardS.f k l) (l.map unc) := by
  have key := ev_map z60 l unc (fun k acc i => laws_toCardS.l0 k l acc i) (List.replicate l.length z57) (by simp)
    (fun k acc ha => by simp [laws_toCardS.l0])
    (fun k acc i hi ha => by simp [laws_toCardS.l0, laws_toCard.f, w64s hi (by omega), hi, ha, rd_T60, unc])
  simpa [laws_toCardS.f, show l.length ≤ 8796093022208 by omega] using key

theorem eq_cards (l : List S57) (h : l.length ≤ 1048576) : Ev (fun k => laws_eqCardS.f k l l) true := by
  have key := ev_true l.length (fun k i => laws_eqCardS.l0 k l l i) (fun k => by simp [laws_eqCardS.l0]) (fun k i hi => by simp [laws_eqCardS.l0, laws_eqCard.f, w64s hi (by omega), hi])
  simpa [laws_eqCardS.f] using key

def cardAt (x : Int) : S57 := ⟨x, x + 1, x + 2, x + 3⟩
theorem mark_cards (l : List S57) (x : Int) (h : l.length ≤ 1048576) (h0 : 0 ≤ x) (h1 : x ≤ 1000000000) : Ev (fun k => laws_markCardS.f k l x) (x + 4 * l.length, (List.range l.length).map fun i => cardAt (x + 4 * (i : Nat))) := by
  have key := ev_mark l.length 4 cardAt (fun k l x i => laws_markCardS.l0 k l x i) x l rfl (fun k x m hm => by simp [laws_markCardS.l0, hm])
    (fun k m i hi hm => by
      have e1 := w64 (x := x + 4 * i + 1) (by omega) (by omega)
      have e2 := w64 (x := x + 4 * i + 1 + 1) (by omega) (by omega)
      have e3 := w64 (x := x + 4 * i + 1 + 1 + 1) (by omega) (by omega)
      have e4 := w64 (x := x + 4 * i + 1 + 1 + 1 + 1) (by omega) (by omega)
      simp [laws_markCardS.l0, hm, hi, w64s hi (by omega), e1, e2, e3, e4, rd_T57, cardAt]
      grind)
  simpa [laws_markCardS.f] using key

theorem to_tariff (b s : Int) (j : List Int) (r : Int) (h : j.length ≤ 1048576) : Ev (fun k => laws_toTariff.f k b s j r) (b, s, j, r) := Ev.bind (to_ints j h) (Ev.now _)
theorem eq_tariff (b s : Int) (j : List Int) (r : Int) (h : j.length ≤ 1048576) : Ev (fun k => laws_eqTariff.f k b s j r b s j r) true := by
  unfold laws_eqTariff.f
  simp only [if_true]
  exact Ev.bind (eq_ints j h) (by simp only [if_true]; exact Ev.now _)
theorem mark_tariff (b s : Int) (j : List Int) (r x : Int) (h : j.length ≤ 1048576) (h0 : 0 ≤ x) (h1 : x ≤ 1000000000) : Ev (fun k => laws_markTariff.f k b s j r x) (x + j.length, (List.range j.length).map fun i => x + (i : Nat)) :=
  Ev.bind (mark_ints j x h h0 h1) (Ev.now _)

/-- The sizes' test: what is too great is passed by. -/
theorem sz_ints (l : List Int) (n : Int) (h0 : 0 ≤ n) (h1 : n ≤ 1048576) (h : l.length ≤ maxLen) : laws_szIntS.f l n = some (if n < l.length then -1 else n - l.length) := by
  unfold maxLen at h
  unfold laws_szIntS.f
  rw [w64 (by omega) (by omega)]
  split <;> split <;> first | rfl | omega
theorem sz_cards (l : List S60) (n : Int) (h0 : 0 ≤ n) (h1 : n ≤ 1048576) (h : l.length ≤ maxLen) : laws_szCardS.f l n = some (if n < l.length then -1 else n - l.length) := by
  unfold maxLen at h
  unfold laws_szCardS.f
  rw [w64 (by omega) (by omega)]
  split <;> split <;> first | rfl | omega
theorem sz_tariff (b s : Int) (j : List Int) (r n : Int) (h0 : 0 ≤ n) (h1 : n ≤ 1048576) (h : j.length ≤ maxLen) : laws_szTariff.f b s j r n = some (if n < j.length then -1 else n - j.length) := by
  unfold laws_szTariff.f
  rw [sz_ints j n h0 h1 h]
  simp only [Option.bind_some]
  split
  · simp
  · rw [if_neg (by omega)]
end Go.Proofs.Ytcihaeggjfpacaa.Pure
