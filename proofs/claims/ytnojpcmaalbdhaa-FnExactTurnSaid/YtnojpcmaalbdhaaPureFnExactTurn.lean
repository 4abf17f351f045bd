/- The law FnExactTurn, over lists and numbers alone: program and reference turn all units alike. -/
import Derived.Test.YtnojpcmaalbdhaaQFnExactTurn
import Derived.Test.YtnojpcmaalbdhaaU3
namespace Go.Proofs.Ytnojpcmaalbdhaa.Pure
open Go.RowKit Go.Proofs.Ytnojpcmaalbdhaa.P Go.Proofs.YtnojpcmaalbdhaaW.PrintWords Go.Proofs.YtnojpcmaalbdhaaW.PrintLast
set_option linter.unusedSimpArgs false

theorem turnB_len (l : List S25) : (turnB l).length ≤ 30 := by
  unfold turnB turned
  split
  · rename_i h
    have := formB_len h
    simpa using this
  · simp
theorem FnExactTurn : laws_FnExactTurn.Pure2 := by
  intro l hl
  refine Ev.rounds ?_
  unfold laws_FnExactTurn.f
  simp only [sz_units l 1048576 (by omega) (by omega) hl.1, Option.bind_some]
  by_cases h : (1048576 : Int) < l.length
  · simpa [h] using Ev.now true
  · have hn : l.length ≤ 1048576 := by omega
    obtain ⟨m, hm⟩ : ∃ m, m = l.map unU := ⟨_, rfl⟩
    have hml : m.length ≤ 1048576 := by rw [hm]; simpa using hn
    have ht := to_units l hn
    rw [← hm] at ht
    obtain ⟨a, hq⟩ : ∃ q, q = turnB m := ⟨_, rfl⟩
    have hs := spec_turn m
    have hi := impl_turn m
    have hl1 := turnB_len m
    rw [← hq] at hs hi hl1
    clear hm hq
    have e1 := eq_units a (by omega)
    have hma := mark_units a 1 (by omega) (by omega) (by omega)
    have hha := held_units a.length 1 (by omega) (by omega) (by omega)
    have p1 : ¬ (1 + ((4 : Nat) : Int) * a.length < 0) := by omega
    have p3 : ¬ (1 + ((4 : Nat) : Int) * m.length < 0) := by omega
    simp only [h, if_false, show ¬ ((1048576 : Int) - l.length < 0) by omega]
    refine Ev.bind ht (Ev.bind hs (Ev.bind ht (Ev.bind hi (Ev.bind e1 ?_))))
    simp only [if_true]
    refine Ev.bind ht (Ev.bind (eq_units m (by omega)) ?_)
    simp only [if_true]
    refine Ev.bind (mark_units m 1 (by omega) (by omega) (by omega)) ?_
    simp only [p3, if_false]
    refine Ev.bind e1 ?_
    simp only [Bool.not_true]
    refine Ev.step (fun k => by rw [laws_FnExactTurn.j0, if_neg (by decide)]) ?_
    refine Ev.bind hma (Ev.bind hha ?_)
    simp only [p1, if_false, if_true]
    refine Ev.bind ht (Ev.bind hi (Ev.bind e1 ?_))
    simp only [if_true]
    refine Ev.bind hha ?_
    simpa only [p1, if_false, if_true] using Ev.now true
end Go.Proofs.Ytnojpcmaalbdhaa.Pure
