/- Rows of whole numbers: copied, compared, marked. -/
import Derived.Test.YtoalolbifakpiaaB
namespace Go.Proofs.Ytoalolbifakpiaa.Pure
open Go.RowKit Go.Proofs.Ytoalolbifakpiaa.P Go.Proofs.YtoalolbifakpiaaW.PrintWords Go.Proofs.YtoalolbifakpiaaW.PrintLast

theorem to_ints (l : List Int) (h : l.length ≤ 1048576) : Ev (fun k => laws_toIntS.f k l) l := by
  have key := ev_map (0 : Int) l (fun x => x) (fun k acc i => laws_toIntS.l0 k l acc i) (List.replicate l.length 0) (by simp)
    (fun k acc ha => by simp [laws_toIntS.l0])
    (fun k acc i hi ha => by simp [laws_toIntS.l0, w64s hi (by omega), hi, ha, rd])
  rw [List.map_id'] at key
  simpa [laws_toIntS.f, show l.length ≤ 35184372088832 by omega] using key

theorem eq_ints (l : List Int) (h : l.length ≤ 1048576) : Ev (fun k => laws_eqIntS.f k l l) true := by
  have key := ev_true l.length (fun k i => laws_eqIntS.l0 k l l i) (fun k => by simp [laws_eqIntS.l0]) (fun k i hi => by simp [laws_eqIntS.l0, w64s hi (by omega), hi])
  simpa [laws_eqIntS.f] using key
end Go.Proofs.Ytoalolbifakpiaa.Pure
