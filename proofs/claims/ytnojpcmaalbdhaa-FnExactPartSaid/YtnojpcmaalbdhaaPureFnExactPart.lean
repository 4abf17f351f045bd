/- The law FnExactPart, over lists and numbers alone: program and reference part all units alike. -/
import Derived.Test.YtnojpcmaalbdhaaQFnExactPart
import Derived.Test.YtnojpcmaalbdhaaU3
namespace Go.Proofs.Ytnojpcmaalbdhaa.Pure
open Go.RowKit Go.Proofs.Ytnojpcmaalbdhaa.P Go.Proofs.YtnojpcmaalbdhaaW.PrintWords Go.Proofs.YtnojpcmaalbdhaaW.PrintLast
set_option linter.unusedSimpArgs false

theorem partB_len (l : List S25) (n : Int) : (partB l n).1.length ≤ 30 ∧ (partB l n).2.length ≤ 30 := by
  unfold partB
  split
  · rename_i h
    rw [Bool.and_eq_true] at h
    have := formB_len h.1
    simp
    omega
  · simp
theorem FnExactPart : laws_FnExactPart.Pure2 := by
  intro l n hl _
  refine Ev.rounds ?_
  unfold laws_FnExactPart.f
  simp only [sz_units l 1048576 (by omega) (by omega) hl.1, Option.bind_some]
  by_cases h : (1048576 : Int) < l.length
  · simpa [h] using Ev.now true
  · have hn : l.length ≤ 1048576 := by omega
    obtain ⟨m, hm⟩ : ∃ m, m = l.map unU := ⟨_, rfl⟩
    have hml : m.length ≤ 1048576 := by rw [hm]; simpa using hn
    have ht := to_units l hn
    rw [← hm] at ht
    obtain ⟨q, hq⟩ : ∃ q, q = partB m n := ⟨_, rfl⟩
    have hs := spec_part m n
    have hi := impl_part m n
    have ⟨hl1, hl2⟩ := partB_len m n
    rw [← hq] at hs hi hl1 hl2
    obtain ⟨a, b⟩ := q
    clear hm hq
    dsimp only at hl1 hl2
    have e1 := eq_units a (by omega)
    have e2 := eq_units b (by omega)
    have hma := mark_units a 1 (by omega) (by omega) (by omega)
    have hmb := mark_units b (1 + (4 : Nat) * a.length) (by omega) (by omega) (by omega)
    have hha := held_units a.length 1 (by omega) (by omega) (by omega)
    have hhb := held_units b.length (1 + (4 : Nat) * a.length) (by omega) (by omega) (by omega)
    have p1 : ¬ (1 + ((4 : Nat) : Int) * a.length < 0) := by omega
    have p2 : ¬ (1 + ((4 : Nat) : Int) * a.length + ((4 : Nat) : Int) * b.length < 0) := by omega
    have p3 : ¬ (1 + ((4 : Nat) : Int) * m.length < 0) := by omega
    simp only [h, if_false, show ¬ ((1048576 : Int) - l.length < 0) by omega]
    refine Ev.bind ht (Ev.bind hs (Ev.bind ht (Ev.bind hi (Ev.bind e1 ?_))))
    simp only [if_true]
    refine Ev.bind e2 ?_
    simp only [Bool.not_true]
    have j2 : Ev (fun k => laws_FnExactPart.j2 k ((List.range a.length).map fun i => mkU (1 + (4 : Nat) * (i : Nat))) ((List.range b.length).map fun i => mkU (1 + (4 : Nat) * a.length + (4 : Nat) * (i : Nat))) (1 + (4 : Nat) * a.length + (4 : Nat) * b.length) false) true := by
      refine Ev.step (fun k => by rw [laws_FnExactPart.j2, if_neg (by decide)]) ?_
      refine Ev.bind hha ?_
      simp only [p1, if_false]
      refine Ev.bind hhb ?_
      simpa only [p2, if_false, if_true] using Ev.now true
    have j1 : Ev (fun k => laws_FnExactPart.j1 k l n a b a b false) true := by
      refine Ev.step (fun k => by rw [laws_FnExactPart.j1, if_neg (by decide)]) ?_
      refine Ev.bind hma (Ev.bind hmb (Ev.bind hha ?_))
      simp only [p1, if_false]
      refine Ev.bind hhb ?_
      simp only [p2, if_false, if_true]
      refine Ev.bind ht (Ev.bind hi (Ev.bind e1 ?_))
      simp only [if_true]
      refine Ev.bind e2 ?_
      simpa only [Bool.not_true] using j2
    refine Ev.step (fun k => by rw [laws_FnExactPart.j0, if_neg (by decide)]) ?_
    refine Ev.bind ht (Ev.bind (eq_units m (by omega)) ?_)
    simp only [if_true]
    refine Ev.bind (mark_units m 1 (by omega) (by omega) (by omega)) ?_
    simp only [p3, if_false]
    refine Ev.bind e1 ?_
    simp only [if_true]
    refine Ev.bind e2 ?_
    simpa only [Bool.not_true] using j1
end Go.Proofs.Ytnojpcmaalbdhaa.Pure
