/- The law FnExactShunted, over lists and numbers alone: program and reference shunt all units alike. -/
import Derived.Test.YtnojpcmaalbdhaaQFnExactShunted
import Derived.Test.YtnojpcmaalbdhaaU4
namespace Go.Proofs.Ytnojpcmaalbdhaa.Pure
open Go.RowKit Go.Proofs.Ytnojpcmaalbdhaa.P Go.Proofs.YtnojpcmaalbdhaaW.PrintWords Go.Proofs.YtnojpcmaalbdhaaW.PrintLast
set_option linter.unusedSimpArgs false

theorem mark_ints (l : List Int) (x : Int) (h : l.length ≤ 1048576) (h0 : 0 ≤ x) (h1 : x ≤ 1000000000) : Ev (fun k => laws_markIntS.f k l x) (x + l.length, (List.range l.length).map fun i => x + (i : Nat)) := by
  have key := ev_mark l.length 1 (fun x => x) (fun k l x i => laws_markIntS.l0 k l x i) x l rfl (fun k x m hm => by simp [laws_markIntS.l0, hm])
    (fun k m i hi hm => by
      simp [laws_markIntS.l0, hm, hi, w64s hi (by omega), w64 (x := x + i + 1) (by omega) (by omega)]
      congr 1
      omega)
  simpa [laws_markIntS.f] using key
theorem FnExactShunted : laws_FnExactShunted.Pure2 := by
  intro l cs hl hcs
  refine Ev.rounds ?_
  unfold laws_FnExactShunted.f
  by_cases hc : (cs.length : Int) > 1048576
  · simpa only [hc, if_true] using Ev.now true
  · have hcn : cs.length ≤ 1048576 := by omega
    simp only [hc, if_false]
    simp only [sz_units l 1048576 (by omega) (by omega) hl.1, Option.bind_some]
    by_cases h : (1048576 : Int) < l.length
    · simpa [h] using Ev.now true
    · have hn : l.length ≤ 1048576 := by omega
      obtain ⟨m, hm⟩ : ∃ m, m = l.map unU := ⟨_, rfl⟩
      have hml : m.length ≤ 1048576 := by rw [hm]; simpa using hn
      have ht := to_units l hn
      rw [← hm] at ht
      have hci := to_ints cs hcn
      obtain ⟨a, hq⟩ : ∃ q, q = shuntB m cs := ⟨_, rfl⟩
      have hs := spec_shunt m cs
      have hi := impl_shunt m cs
      have hl1 := shuntB_len m cs
      rw [← hq] at hs hi hl1
      clear hm hq
      have e1 := eq_units a (by omega)
      have hma := mark_units a 1 (by omega) (by omega) (by omega)
      have hha := held_units a.length 1 (by omega) (by omega) (by omega)
      have p1 : ¬ (1 + ((4 : Nat) : Int) * a.length < 0) := by omega
      have p3 : ¬ (1 + ((4 : Nat) : Int) * m.length + cs.length < 0) := by omega
      simp only [h, if_false, show ¬ ((1048576 : Int) - l.length < 0) by omega]
      refine Ev.bind ht (Ev.bind hci (Ev.bind hs (Ev.bind ht (Ev.bind hci (Ev.bind hi (Ev.bind e1 ?_))))))
      simp only [if_true]
      refine Ev.bind ht (Ev.bind (eq_units m (by omega)) ?_)
      simp only [if_true]
      refine Ev.bind hci (Ev.bind (eq_ints cs hcn) ?_)
      simp only [if_true]
      refine Ev.bind (mark_units m 1 (by omega) (by omega) (by omega)) (Ev.bind (mark_ints cs _ hcn (by omega) (by omega)) ?_)
      simp only [p3, if_false]
      refine Ev.bind e1 ?_
      simp only [Bool.not_true]
      refine Ev.step (fun k => by rw [laws_FnExactShunted.j0, if_neg (by decide)]) ?_
      refine Ev.bind hma (Ev.bind hha ?_)
      simp only [p1, if_false, if_true]
      refine Ev.bind ht (Ev.bind hci (Ev.bind hi (Ev.bind e1 ?_)))
      simp only [if_true]
      refine Ev.bind hha ?_
      simpa only [p1, if_false, if_true] using Ev.now true
end Go.Proofs.Ytnojpcmaalbdhaa.Pure
