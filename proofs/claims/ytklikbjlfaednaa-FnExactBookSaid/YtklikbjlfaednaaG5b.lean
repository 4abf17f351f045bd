/- Bookings marked. -/
import Derived.Test.YtklikbjlfaednaaG2
namespace Go.Proofs.Ytklikbjlfaednaa.Pure
open Go.RowKit Go.Proofs.Ytklikbjlfaednaa.P Go.Proofs.YtklikbjlfaednaaW.PrintWords Go.Proofs.YtklikbjlfaednaaW.PrintLast

def bookAt (x : Int) : S66 := ⟨x, x + 1, x + 2, x + 3⟩
theorem mark_bookings (l : List S66) (x : Int) (h : l.length ≤ 1048576) (h0 : 0 ≤ x) (h1 : x ≤ 1000000000) : Ev (fun k => laws_markBookingS.f k l x) (x + 4 * l.length, (List.range l.length).map fun i => bookAt (x + 4 * (i : Nat))) := by
  have key := ev_mark l.length 4 bookAt (fun k l x i => laws_markBookingS.l0 k l x i) x l rfl (fun k x m hm => by simp [laws_markBookingS.l0, hm])
    (fun k m i hi hm => by
      have e1 := w64 (x := x + 4 * i + 1) (by omega) (by omega)
      have e2 := w64 (x := x + 4 * i + 1 + 1) (by omega) (by omega)
      have e3 := w64 (x := x + 4 * i + 1 + 1 + 1) (by omega) (by omega)
      have e4 := w64 (x := x + 4 * i + 1 + 1 + 1 + 1) (by omega) (by omega)
      simp [laws_markBookingS.l0, hm, hi, w64s hi (by omega), e1, e2, e3, e4, rd_T66, bookAt]
      grind)
  simpa [laws_markBookingS.f] using key
end Go.Proofs.Ytklikbjlfaednaa.Pure
