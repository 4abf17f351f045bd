/- Rows marked, and told again. -/
import Derived.Test.YtklikbjlfaednaaG5a
namespace Go.Proofs.Ytklikbjlfaednaa.Pure
open Go.RowKit Go.Proofs.Ytklikbjlfaednaa.P Go.Proofs.YtklikbjlfaednaaW.PrintWords Go.Proofs.YtklikbjlfaednaaW.PrintLast

/-! Rows marked. -/
theorem eq_ints (l : List Int) (h : l.length ≤ 1048576) : Ev (fun k => laws_eqIntS.f k l l) true := by
  have key := ev_true l.length (fun k i => laws_eqIntS.l0 k l l i) (fun k => by simp [laws_eqIntS.l0]) (fun k i hi => by simp [laws_eqIntS.l0, w64s hi (by omega), hi])
  simpa [laws_eqIntS.f] using key

theorem mark_ints (l : List Int) (x : Int) (h : l.length ≤ 1048576) (h0 : 0 ≤ x) (h1 : x ≤ 1000000000) : Ev (fun k => laws_markIntS.f k l x) (x + l.length, (List.range l.length).map fun i => x + (i : Nat)) := by
  have key := ev_mark l.length 1 (fun x => x) (fun k l x i => laws_markIntS.l0 k l x i) x l rfl (fun k x m hm => by simp [laws_markIntS.l0, hm])
    (fun k m i hi hm => by
      simp [laws_markIntS.l0, hm, hi, w64s hi (by omega), w64 (x := x + i + 1) (by omega) (by omega)]
      congr 1
      omega)
  simpa [laws_markIntS.f] using key

theorem held_ints (n : Nat) (x : Int) (h : n ≤ 1048576) (h0 : 0 ≤ x) (h1 : x ≤ 1000000000) : Ev (fun k => laws_heldIntS.f k ((List.range n).map fun i => x + (i : Nat)) x) (x + n) := by
  have key := ev_held n 1 (fun k y i => laws_heldIntS.l0 k ((List.range n).map fun i => x + (i : Nat)) y i) x (fun k y => by simp [laws_heldIntS.l0])
    (fun k i hi => by
      simp [laws_heldIntS.l0, hi, w64s hi (by omega), w64 (x := x + i + 1) (by omega) (by omega), rd]
      congr 1
      omega)
  simpa [laws_heldIntS.f] using key

def bookAt (x : Int) : S66 := ⟨x, x + 1, x + 2, x + 3⟩
theorem mark_bookings (l : List S66) (x : Int) (h : l.length ≤ 1048576) (h0 : 0 ≤ x) (h1 : x ≤ 1000000000) : Ev (fun k => laws_markBookingS.f k l x) (x + 4 * l.length, (List.range l.length).map fun i => bookAt (x + 4 * (i : Nat))) := by
  have key := ev_mark l.length 4 bookAt (fun k l x i => laws_markBookingS.l0 k l x i) x l rfl (fun k x m hm => by simp [laws_markBookingS.l0, hm])
    (fun k m i hi hm => by
      have e1 := w64 (x := x + 4 * i + 1) (by omega) (by omega)
      have e2 := w64 (x := x + 4 * i + 1 + 1) (by omega) (by omega)
      have e3 := w64 (x := x + 4 * i + 1 + 1 + 1) (by omega) (by omega)
      have e4 := w64 (x := x + 4 * i + 1 + 1 + 1 + 1) (by omega) (by omega)
      simp [laws_markBookingS.l0, hm, hi, w64s hi (by omega), e1, e2, e3, e4, rd_T66, bookAt]
      grind)
  simpa [laws_markBookingS.f] using key
end Go.Proofs.Ytklikbjlfaednaa.Pure
