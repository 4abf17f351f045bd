/- Bookings told again where they were marked. -/
import Derived.Test.YtklikbjlfaednaaG5b
namespace Go.Proofs.Ytklikbjlfaednaa.Pure
open Go.RowKit Go.Proofs.Ytklikbjlfaednaa.P Go.Proofs.YtklikbjlfaednaaW.PrintWords Go.Proofs.YtklikbjlfaednaaW.PrintLast

def marksAt (n : Nat) : List S66 := (List.range n).map fun i => bookAt (1 + 4 * (i : Nat))
theorem held_bookings (n : Nat) (h : n ≤ 1048576) : Ev (fun k => laws_heldBookingS.f k (marksAt n) 1) (1 + 4 * (n : Int)) := by
  have hl : (marksAt n).length = n := by simp [marksAt]
  have key := ev_held n 4 (fun k y i => laws_heldBookingS.l0 k (marksAt n) y i) 1 (fun k y => by simp [laws_heldBookingS.l0, hl])
    (fun k i hi => by
      have e1 := w64 (x := 1 + 4 * i + 1) (by omega) (by omega)
      have e2 := w64 (x := 1 + 4 * i + 1 + 1) (by omega) (by omega)
      have e3 := w64 (x := 1 + 4 * i + 1 + 1 + 1) (by omega) (by omega)
      have e4 := w64 (x := 1 + 4 * i + 1 + 1 + 1 + 1) (by omega) (by omega)
      have hr : rd_T66 (marksAt n) (i : Int) = bookAt (1 + 4 * (i : Nat)) := by
        unfold rd_T66 marksAt
        rw [Int.toNat_natCast, getD_map_range z66 n (fun i => bookAt (1 + 4 * (i : Nat))) i hi]
      have hw := w64s hi (by omega)
      have f1 : (i : Int) < (marksAt n).length := by rw [hl]; clear hw e1 e2 e3 e4; omega
      have f2 : (0 : Int) ≤ i := by clear hw e1 e2 e3 e4; omega
      simp only [laws_heldBookingS.l0, if_pos f1, if_pos f2, hr, bookAt]
      show (if (1 + 4 * (i : Int)) = 1 + ((4 : Nat) : Int) * (i : Int) then _ else _) = _
      rw [if_pos (by rfl)]
      have c4 : ((4 : Nat) : Int) = 4 := rfl
      rw [c4, e1, e2, e3, e4]
      rw [if_pos rfl]
      have g1 : (1 + 4 * (i : Int)) + 2 = 1 + 4 * (i : Int) + 1 + 1 := by clear hw e1 e2 e3 e4; omega
      have g2 : (1 + 4 * (i : Int)) + 3 = 1 + 4 * (i : Int) + 1 + 1 + 1 := by clear hw e1 e2 e3 e4; omega
      have g3 : 1 + 4 * (i : Int) + 1 + 1 + 1 + 1 = 1 + 4 * ((i + 1 : Nat) : Int) := by clear hw e1 e2 e3 e4; omega
      rw [if_pos g1, if_pos g2, hw, g3])
  simpa [laws_heldBookingS.f] using key
theorem held_train (a b : Int) (n : Nat) (h : n ≤ 1048576) : Ev (fun k => laws_heldTrain.f k a b (marksAt n) 1) (1 + 4 * (n : Int)) := by
  unfold laws_heldTrain.f
  refine Ev.bind (held_bookings n h) ?_
  have : ¬ (1 + 4 * (n : Int) < 0) := by omega
  simp only [if_neg this]
  exact Ev.now _
theorem mark_train (a b : Int) (l : List S66) (h : l.length ≤ 1048576) : Ev (fun k => laws_markTrain.f k a b l 1) (1 + 4 * (l.length : Int), marksAt l.length) := by
  unfold laws_markTrain.f
  exact Ev.bind (mark_bookings l 1 h (by omega) (by omega)) (Ev.now _)
end Go.Proofs.Ytklikbjlfaednaa.Pure
