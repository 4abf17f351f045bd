/- Soonest on both sides. -/
import Derived.Test.YtdpjoblnjjkbfaaV5
namespace Go.Proofs.Ytdpjoblnjjkbfaa.Pure
open Go.RowKit Go.Proofs.Ytdpjoblnjjkbfaa.P Go.Proofs.YtdpjoblnjjkbfaaW.PrintWords Go.Proofs.YtdpjoblnjjkbfaaW.PrintLast

/-- What Soonest answers. -/
def soonB (l : List S51) (a1 a2 a3 a4 a5 : Int) : Int := if askB l a1 a2 a3 a4 a5 = true then (reach l a1 a3 a4 a5.toNat).getD a2.toNat 0 else -1
theorem ask_iff {l : List S51} {a1 a2 a3 a4 a5 : Int} (h : askB l a1 a2 a3 a4 a5 = true) : tableB l = true ∧ (0 ≤ a1 ∧ a1 < 30) ∧ (0 ≤ a2 ∧ a2 < 30) ∧ (0 ≤ a3 ∧ a3 ≤ 100000) ∧ (0 ≤ a4 ∧ a4 ≤ 60) ∧ 0 ≤ a5 ∧ a5 ≤ 5 := by
  simp only [askB, Bool.and_eq_true, inB_iff] at h
  exact ⟨h.1.1.1.1.1, by omega, by omega, by omega, by omega, by omega⟩
theorem spec_soonest (l : List S51) (h : Fit l) (a1 a2 a3 a4 a5 : Int) : Ev (fun k => spec_Soonest.f k l a1 a2 a3 a4 a5) (soonB l a1 a2 a3 a4 a5) := by
  refine Ev.bind (spec_asked l h a1 a2 a3 a4 a5) ?_
  unfold soonB
  cases hb : askB l a1 a2 a3 a4 a5 with
  | false => simpa using Ev.now (-1 : Int)
  | true =>
    obtain ⟨h0, h1, h2, h3, h4, h5⟩ := ask_iff hb
    simp only [if_true]
    have e : (a5.toNat : Int) = a5 := by omega
    have hr := reach_ev h0 h1 h4 (r := a3) (by omega) a5.toNat (by omega)
    rw [e] at hr
    have hg := reach_good h0 h1 (r := a3) (by omega) h4.1 a5.toNat
    refine Ev.bind hr ?_
    simp only [h2.1, hg.1, show a2 < ((30 : Nat) : Int) by omega, if_true]
    exact Ev.now _
theorem fit_of (l : List S47) (h : Sized l) (hs : ∀ e, e ∈ l → e.f0.size ≤ maxLen) : Fit (l.map unT) := by
  refine ⟨by simpa using h.1, fun t ht => ?_⟩
  obtain ⟨x, hx, rfl⟩ := List.mem_map.1 ht
  refine ⟨hs x hx, ?_⟩
  have := h.2 x hx
  simpa [unT] using this
end Go.Proofs.Ytdpjoblnjjkbfaa.Pure
