/- Rows of whole numbers: copied, compared, marked. -/
import Derived.Test.YtdpjoblnjjkbfaaB
namespace Go.Proofs.Ytdpjoblnjjkbfaa.Pure
open Go.RowKit Go.Proofs.Ytdpjoblnjjkbfaa.P Go.Proofs.YtdpjoblnjjkbfaaW.PrintWords Go.Proofs.YtdpjoblnjjkbfaaW.PrintLast

theorem eq_ints (l : List Int) (h : l.length ≤ 1048576) : Ev (fun k => laws_eqIntS.f k l l) true := by
  have key := ev_true l.length (fun k i => laws_eqIntS.l0 k l l i) (fun k => by simp [laws_eqIntS.l0]) (fun k i hi => by simp [laws_eqIntS.l0, w64s hi (by omega), hi])
  simpa [laws_eqIntS.f] using key
end Go.Proofs.Ytdpjoblnjjkbfaa.Pure
