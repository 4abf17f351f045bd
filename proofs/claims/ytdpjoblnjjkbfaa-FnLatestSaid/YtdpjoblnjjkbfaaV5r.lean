/- What the reference's reach tells is attained. -/
import Derived.Test.YtdpjoblnjjkbfaaV3
namespace Go.Proofs.Ytdpjoblnjjkbfaa.Pure
open Go.RowKit Go.Proofs.Ytdpjoblnjjkbfaa.P Go.Proofs.YtdpjoblnjjkbfaaW.PrintWords Go.Proofs.YtdpjoblnjjkbfaaW.PrintLast

section
variable {l : List S51} (h : tableB l = true) {fr r ch : Int} (hfr : 0 ≤ fr ∧ fr < 30) (hr : 0 ≤ r ∧ r ≤ 1000000) (hc : 0 ≤ ch)
include h hfr hr hc
theorem reach_att (n : Nat) {v : Int} (hv : 0 ≤ v ∧ v < 30) (h0 : 0 ≤ (reach l fr r ch n).getD v.toNat 0) :
    (v = fr ∧ (reach l fr r ch n).getD v.toNat 0 = r) ∨ ∃ m, m < n ∧ ∃ d, r ≤ d ∧ Path l ch m fr d v ((reach l fr r ch n).getD v.toNat 0) := by
  have hg := rgood_at (reach_good h hfr hr hc n) v.toNat (by omega)
  have hv2 : rval (reach l fr r ch n) v = (reach l fr r ch n).getD v.toNat 0 := by unfold rval; rw [if_neg (by omega)]
  have h1 := (reach_cond h hfr hr hc n ((reach l fr r ch n).getD v.toNat 0) v hv (by unfold never; omega)).1 (by rw [hv2]; exact Int.le_refl _)
  refine Classical.byContradiction (fun hn => ?_)
  have h2 := (reach_cond h hfr hr hc n ((reach l fr r ch n).getD v.toNat 0 + 1) v hv (by unfold never; omega)).2 ⟨fun e => ?_, fun m hm d a hd hp => ?_⟩
  · rw [hv2] at h2; omega
  · have := h1.1 e
    refine Classical.byContradiction (fun hlt => hn (Or.inl ⟨e, by omega⟩))
  · have := h1.2 m hm d a hd hp
    refine Classical.byContradiction (fun hlt => hn (Or.inr ⟨m, hm, d, hd, ?_⟩))
    have e : (reach l fr r ch n).getD v.toNat 0 = a := by omega
    rw [e]; exact hp
end

end Go.Proofs.Ytdpjoblnjjkbfaa.Pure
