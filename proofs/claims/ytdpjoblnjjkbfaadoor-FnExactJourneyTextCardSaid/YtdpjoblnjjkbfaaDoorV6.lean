/- Tables that came in. -/
import Derived.Test.YtdpjoblnjjkbfaaDoorV2i
import Derived.Test.YtdpjoblnjjkbfaaDoorV1
namespace Go.Proofs.YtdpjoblnjjkbfaaDoor.Pure
open Go.RowKit Go.Proofs.YtdpjoblnjjkbfaaDoor.P Go.Proofs.YtdpjoblnjjkbfaaDoorW.PrintWords Go.Proofs.YtdpjoblnjjkbfaaDoorW.PrintLast

theorem fit_of (l : List S52) (h : Sized l) (hs : ∀ e, e ∈ l → e.f0.size ≤ maxLen) : Fit (l.map unT) := by
  refine ⟨by simpa using h.1, fun t ht => ?_⟩
  obtain ⟨x, hx, rfl⟩ := List.mem_map.1 ht
  refine ⟨hs x hx, ?_⟩
  have := h.2 x hx
  simpa [unT] using this
end Go.Proofs.YtdpjoblnjjkbfaaDoor.Pure
