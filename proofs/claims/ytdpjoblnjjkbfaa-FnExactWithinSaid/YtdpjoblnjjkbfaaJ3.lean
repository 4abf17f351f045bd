/- Rows of whole numbers, marked and found so. -/
import Derived.Test.YtdpjoblnjjkbfaaI3
namespace Go.Proofs.Ytdpjoblnjjkbfaa.Pure
open Go.RowKit Go.Proofs.Ytdpjoblnjjkbfaa.P Go.Proofs.YtdpjoblnjjkbfaaW.PrintWords Go.Proofs.YtdpjoblnjjkbfaaW.PrintLast

theorem mark_ints (l : List Int) (x : Int) (h : l.length ≤ 1048576) (h0 : 0 ≤ x) (h1 : x ≤ 1000000000) : Ev (fun k => laws_markIntS.f k l x) (x + l.length, (List.range l.length).map fun i => x + (i : Nat)) := by
  have key := ev_mark l.length 1 (fun x => x) (fun k l x i => laws_markIntS.l0 k l x i) x l rfl (fun k x m hm => by simp [laws_markIntS.l0, hm])
    (fun k m i hi hm => by
      simp [laws_markIntS.l0, hm, hi, w64s hi (by omega), w64 (x := x + i + 1) (by omega) (by omega)]
      congr 1
      omega)
  simpa [laws_markIntS.f] using key

theorem held_ints (n : Nat) (x : Int) (h : n ≤ 1048576) (h0 : 0 ≤ x) (h1 : x ≤ 1000000000) : Ev (fun k => laws_heldIntS.f k ((List.range n).map fun i => x + (i : Nat)) x) (x + n) := by
  have key := ev_held n 1 (fun k y i => laws_heldIntS.l0 k ((List.range n).map fun i => x + (i : Nat)) y i) x (fun k y => by simp [laws_heldIntS.l0])
    (fun k i hi => by
      simp [laws_heldIntS.l0, hi, w64s hi (by omega), w64 (x := x + i + 1) (by omega) (by omega), rd]
      congr 1
      omega)
  simpa [laws_heldIntS.f] using key

end Go.Proofs.Ytdpjoblnjjkbfaa.Pure
