/- Questions that are asked rightly. -/
import Derived.Test.YtdpjoblnjjkbfaaV2i
namespace Go.Proofs.Ytdpjoblnjjkbfaa.Pure
open Go.RowKit Go.Proofs.Ytdpjoblnjjkbfaa.P Go.Proofs.YtdpjoblnjjkbfaaW.PrintWords Go.Proofs.YtdpjoblnjjkbfaaW.PrintLast

theorem ask_iff {l : List S51} {a1 a2 a3 a4 a5 : Int} (h : askB l a1 a2 a3 a4 a5 = true) : tableB l = true ∧ (0 ≤ a1 ∧ a1 < 30) ∧ (0 ≤ a2 ∧ a2 < 30) ∧ (0 ≤ a3 ∧ a3 ≤ 100000) ∧ (0 ≤ a4 ∧ a4 ≤ 60) ∧ 0 ≤ a5 ∧ a5 ≤ 5 := by
  simp only [askB, Bool.and_eq_true, inB_iff] at h
  exact ⟨h.1.1.1.1.1, by omega, by omega, by omega, by omega, by omega⟩
end Go.Proofs.Ytdpjoblnjjkbfaa.Pure
