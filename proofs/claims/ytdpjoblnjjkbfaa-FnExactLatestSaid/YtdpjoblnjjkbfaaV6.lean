/- Questions and tables that came in. -/
import Derived.Test.YtdpjoblnjjkbfaaV5r
namespace Go.Proofs.Ytdpjoblnjjkbfaa.Pure
open Go.RowKit Go.Proofs.Ytdpjoblnjjkbfaa.P Go.Proofs.YtdpjoblnjjkbfaaW.PrintWords Go.Proofs.YtdpjoblnjjkbfaaW.PrintLast

theorem ask_iff {l : List S51} {a1 a2 a3 a4 a5 : Int} (h : askB l a1 a2 a3 a4 a5 = true) : tableB l = true ∧ (0 ≤ a1 ∧ a1 < 30) ∧ (0 ≤ a2 ∧ a2 < 30) ∧ (0 ≤ a3 ∧ a3 ≤ 100000) ∧ (0 ≤ a4 ∧ a4 ≤ 60) ∧ 0 ≤ a5 ∧ a5 ≤ 5 := by
  simp only [askB, Bool.and_eq_true, inB_iff] at h
  exact ⟨h.1.1.1.1.1, by omega, by omega, by omega, by omega, by omega⟩
theorem fit_of (l : List S47) (h : Sized l) (hs : ∀ e, e ∈ l → e.f0.size ≤ maxLen) : Fit (l.map unT) := by
  refine ⟨by simpa using h.1, fun t ht => ?_⟩
  obtain ⟨x, hx, rfl⟩ := List.mem_map.1 ht
  refine ⟨hs x hx, ?_⟩
  have := h.2 x hx
  simpa [unT] using this
end Go.Proofs.Ytdpjoblnjjkbfaa.Pure
