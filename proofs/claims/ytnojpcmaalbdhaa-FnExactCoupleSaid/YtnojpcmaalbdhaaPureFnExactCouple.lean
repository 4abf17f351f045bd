/- The law FnExactCouple, over lists and numbers alone: program and reference couple all units alike. -/
import Derived.Test.YtnojpcmaalbdhaaQFnExactCouple
import Derived.Test.YtnojpcmaalbdhaaU3
namespace Go.Proofs.Ytnojpcmaalbdhaa.Pure
open Go.RowKit Go.Proofs.Ytnojpcmaalbdhaa.P Go.Proofs.YtnojpcmaalbdhaaW.PrintWords Go.Proofs.YtnojpcmaalbdhaaW.PrintLast
set_option linter.unusedSimpArgs false

theorem coupleB_len (a b : List S25) : (coupleB a b).1.length ≤ 30 := by
  unfold coupleB
  split
  · rename_i h
    rw [Bool.and_eq_true] at h
    exact runB_len h.2
  · simp
theorem FnExactCouple : laws_FnExactCouple.Pure2 := by
  intro l l2 hl hl2
  refine Ev.rounds ?_
  unfold laws_FnExactCouple.f
  simp only [sz_units l 1048576 (by omega) (by omega) hl.1, Option.bind_some]
  by_cases h : (1048576 : Int) < l.length
  · simpa [h] using Ev.now true
  · have hn : l.length ≤ 1048576 := by omega
    simp only [h, if_false, show ¬ ((1048576 : Int) - l.length < 0) by omega]
    simp only [sz_units l2 (1048576 - l.length) (by omega) (by omega) hl2.1, Option.bind_some]
    by_cases h2 : (1048576 : Int) - l.length < l2.length
    · simpa [h2] using Ev.now true
    · have hn2 : l2.length ≤ 1048576 := by omega
      simp only [h2, if_false, show ¬ ((1048576 : Int) - l.length - l2.length < 0) by omega]
      obtain ⟨m, hm⟩ : ∃ m, m = l.map unU := ⟨_, rfl⟩
      obtain ⟨m2, hm2⟩ : ∃ m, m = l2.map unU := ⟨_, rfl⟩
      have hml : m.length ≤ 1048576 := by rw [hm]; simpa using hn
      have hml2 : m2.length ≤ 1048576 := by rw [hm2]; simpa using hn2
      have ht := to_units l hn
      have ht2 := to_units l2 hn2
      rw [← hm] at ht
      rw [← hm2] at ht2
      obtain ⟨q, hq⟩ : ∃ q, q = coupleB m m2 := ⟨_, rfl⟩
      have hs := spec_couple m m2 (by omega) (by omega)
      have hi := impl_couple m m2
      have hl1 := coupleB_len m m2
      rw [← hq] at hs hi hl1
      obtain ⟨a, o⟩ := q
      clear hm hq hm2 h2 h
      dsimp only at hl1
      have e1 := eq_units a (by omega)
      have hma := mark_units a 1 (by omega) (by omega) (by omega)
      have hha := held_units a.length 1 (by omega) (by omega) (by omega)
      have p1 : ¬ (1 + ((4 : Nat) : Int) * a.length < 0) := by omega
      have p3 : ¬ (1 + ((4 : Nat) : Int) * m.length + ((4 : Nat) : Int) * m2.length < 0) := by omega
      refine Ev.bind ht (Ev.bind ht2 (Ev.bind hs (Ev.bind ht (Ev.bind ht2 (Ev.bind hi (Ev.bind e1 ?_))))))
      simp only [if_true, bne_self_eq_false]
      have j2 : Ev (fun k => laws_FnExactCouple.j2 k ((List.range a.length).map fun i => mkU (1 + (4 : Nat) * (i : Nat))) (1 + (4 : Nat) * a.length) false) true := by
        refine Ev.step (fun k => by rw [laws_FnExactCouple.j2, if_neg (by decide)]) ?_
        refine Ev.bind hha ?_
        simpa only [p1, if_false, if_true] using Ev.now true
      have j1 : Ev (fun k => laws_FnExactCouple.j1 k l l2 a o a false) true := by
        refine Ev.step (fun k => by rw [laws_FnExactCouple.j1, if_neg (by decide)]) ?_
        refine Ev.bind hma (Ev.bind hha ?_)
        simp only [p1, if_false, if_true]
        refine Ev.bind ht (Ev.bind ht2 (Ev.bind hi (Ev.bind e1 ?_)))
        simpa only [if_true, bne_self_eq_false] using j2
      refine Ev.step (fun k => by rw [laws_FnExactCouple.j0, if_neg (by decide)]) ?_
      refine Ev.bind ht (Ev.bind (eq_units m (by omega)) ?_)
      simp only [if_true]
      refine Ev.bind ht2 (Ev.bind (eq_units m2 (by omega)) ?_)
      simp only [if_true]
      refine Ev.bind (mark_units m 1 (by omega) (by omega) (by omega)) (Ev.bind (mark_units m2 _ (by omega) (by omega) (by omega)) ?_)
      simp only [p3, if_false]
      refine Ev.bind e1 ?_
      simpa only [if_true, bne_self_eq_false] using j1
end Go.Proofs.Ytnojpcmaalbdhaa.Pure
