/- Tasks marked. -/
import Derived.Test.YtoalolbifakpiaaT1
import Derived.Test.YtoalolbifakpiaaJ3
namespace Go.Proofs.Ytoalolbifakpiaa.Pure
open Go.RowKit Go.Proofs.Ytoalolbifakpiaa.P Go.Proofs.YtoalolbifakpiaaW.PrintWords Go.Proofs.YtoalolbifakpiaaW.PrintLast

def taskAt (x : Int) : S25 := ⟨x, x + 1, x + 2, x + 3, x + 4⟩
theorem mark_tasks (l : List S25) (x : Int) (h : l.length ≤ 1048576) (h0 : 0 ≤ x) (h1 : x ≤ 1000000000) : Ev (fun k => laws_markTaskS.f k l x) (x + 5 * l.length, (List.range l.length).map fun i => taskAt (x + 5 * (i : Nat))) := by
  have key := ev_mark l.length 5 taskAt (fun k l x i => laws_markTaskS.l0 k l x i) x l rfl (fun k x m hm => by simp [laws_markTaskS.l0, hm])
    (fun k m i hi hm => by
      have e1 := w64 (x := x + 5 * i + 1) (by omega) (by omega)
      have e2 := w64 (x := x + 5 * i + 1 + 1) (by omega) (by omega)
      have e3 := w64 (x := x + 5 * i + 1 + 1 + 1) (by omega) (by omega)
      have e4 := w64 (x := x + 5 * i + 1 + 1 + 1 + 1) (by omega) (by omega)
      have e5 := w64 (x := x + 5 * i + 1 + 1 + 1 + 1 + 1) (by omega) (by omega)
      simp [laws_markTaskS.l0, hm, hi, w64s hi (by omega), e1, e2, e3, e4, e5, rd_T25, taskAt]
      grind)
  simpa [laws_markTaskS.f] using key
end Go.Proofs.Ytoalolbifakpiaa.Pure
