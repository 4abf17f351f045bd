/- The law FnExactBook, over lists and numbers alone: program and reference tell the same train. -/
import Derived.Test.YtklikbjlfaednaaQFnExactBook
import Derived.Test.YtklikbjlfaednaaH5
import Derived.Test.YtklikbjlfaednaaG5h
namespace Go.Proofs.Ytklikbjlfaednaa.Pure
open Go.RowKit Go.Proofs.Ytklikbjlfaednaa.P Go.Proofs.YtklikbjlfaednaaW.PrintWords Go.Proofs.YtklikbjlfaednaaW.PrintLast

theorem FnExactBook : laws_FnExactBook.Pure2 := by
  intro ⟨a, b, l⟩ x y z hq _ _ _
  have hl : l.length ≤ maxLen := hq.2.2.1
  refine Ev.rounds ?_
  unfold laws_FnExactBook.f
  simp only [sz_train a b l 1048576 (by omega) (by omega) hl, Option.bind_some]
  by_cases h : (1048576 : Int) < l.length
  · simpa [h] using Ev.now true
  · have hn : l.length ≤ 1048576 := by omega
    have hm : (l.map unb).length ≤ 1048576 := by simpa using hn
    simp only [h, if_false, show ¬ ((1048576 : Int) - l.length < 0) by omega]
    obtain ⟨f, hf⟩ : ∃ f, (bookV a b (l.map unb) x y z).1 = f := ⟨_, rfl⟩
    obtain ⟨o, ho⟩ : ∃ o, (bookV a b (l.map unb) x y z).2 = o := ⟨_, rfl⟩
    have hsp := spec_book a b (l.map unb) x y z hm
    have him := impl_bookV a b (l.map unb) x y z hm
    have hfl : f.length ≤ 1048576 := by rw [← hf]; exact book_len _ _ _ _ _ _ hm
    rw [hf, ho] at hsp him
    refine Ev.bind (to_train a b l hn) (Ev.bind hsp (Ev.bind (to_train a b l hn) ?_))
    simp only [him, Option.bind_some]
    refine Ev.bind (eq_train a b f hfl) ?_
    simp only [if_true, bne_self_eq_false]
    refine ev_at (f := fun k => (laws_toTrain.f k a b l).bind fun bt240 => ((laws_eqTrain.f k a b (l.map unb) bt240.1 bt240.2.1 bt240.2.2).bind fun t245 => (if t245 = true then ((laws_markTrain.f k a b (l.map unb) 1).bind fun bt246 => (if bt246.1 < 0 then (laws_FnExactBook.j1 k x y z o true a b l a b f a b f) else ((laws_eqTrain.f k a b f a b f).bind fun t248 => (if t248 = true then (laws_FnExactBook.j1 k x y z o (o != o) a b l a b f a b f) else (laws_FnExactBook.j1 k x y z o true a b l a b f a b f))))) else (some false)))) ?_ (fun k => by simp only [laws_FnExactBook.j0, Bool.false_eq_true, if_false])
    refine Ev.bind (to_train a b l hn) (Ev.bind (eq_train a b _ hm) ?_)
    simp only [if_true]
    refine Ev.bind (mark_train a b _ hm) ?_
    have hpos : ¬ (1 + 4 * ((l.map unb).length : Int) < 0) := by omega
    simp only [if_neg hpos]
    refine Ev.bind (eq_train a b f hfl) ?_
    simp only [if_true, bne_self_eq_false]
    have hpf : ¬ (1 + 4 * (f.length : Int) < 0) := by omega
    refine ev_at (f := fun k => (laws_markTrain.f k a b f 1).bind fun bt249 => ((laws_heldTrain.f k a b bt249.2 1).bind fun t251 => (if t251 < 0 then (some false) else (if t251 = bt249.1 then ((laws_toTrain.f k a b l).bind fun bt252 => ((impl_Book.f bt252.1 bt252.2.1 bt252.2.2 x y z).bind fun bt257 => ((laws_eqTrain.f k bt257.1 bt257.2.1 bt257.2.2.1 a b f).bind fun t264 => (if t264 = true then (laws_FnExactBook.j2 k bt249.1 (bt257.2.2.2 != o) a b bt249.2) else (laws_FnExactBook.j2 k bt249.1 true a b bt249.2))))) else (some false))))) ?_ (fun k => by simp only [laws_FnExactBook.j1, Bool.false_eq_true, if_false])
    refine Ev.bind (mark_train a b f hfl) (Ev.bind (held_train a b f.length hfl) ?_)
    simp only [if_neg hpf, if_true]
    refine Ev.bind (to_train a b l hn) ?_
    simp only [him, Option.bind_some]
    refine Ev.bind (eq_train a b f hfl) ?_
    simp only [if_true, bne_self_eq_false]
    refine ev_at (f := fun k => (laws_heldTrain.f k a b (marksAt f.length) 1).bind fun t265 => (if t265 < 0 then (some false) else (if t265 = 1 + 4 * (f.length : Int) then (some true) else (some false)))) ?_ (fun k => by simp only [laws_FnExactBook.j2, Bool.false_eq_true, if_false])
    refine Ev.bind (held_train a b f.length hfl) ?_
    simp only [if_neg hpf, if_true]
    exact Ev.now _
end Go.Proofs.Ytklikbjlfaednaa.Pure
