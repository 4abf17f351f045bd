/- The law FnExactSpread, over lists and numbers alone: program and reference tell the same row. -/
import Derived.Test.YtklikbjlfaednaaQFnExactSpread
import Derived.Test.YtklikbjlfaednaaG9
import Derived.Test.YtklikbjlfaednaaG5m
namespace Go.Proofs.Ytklikbjlfaednaa.Pure
open Go.RowKit Go.Proofs.Ytklikbjlfaednaa.P Go.Proofs.YtklikbjlfaednaaW.PrintWords Go.Proofs.YtklikbjlfaednaaW.PrintLast

theorem FnExactSpread : laws_FnExactSpread.Pure2 := by
  intro ⟨a, b, l⟩ x y hq _ _
  have hl : l.length ≤ maxLen := hq.2.2.1
  refine Ev.rounds ?_
  unfold laws_FnExactSpread.f
  simp only [sz_train a b l 1048576 (by omega) (by omega) hl, Option.bind_some]
  by_cases h : (1048576 : Int) < l.length
  · simpa [h] using Ev.now true
  · have hn : l.length ≤ 1048576 := by omega
    have hm : (l.map unb).length ≤ 1048576 := by simpa using hn
    simp only [h, if_false, show ¬ ((1048576 : Int) - l.length < 0) by omega, impl_spread, Option.bind_some]
    obtain ⟨f, hf⟩ : ∃ f, spreadV a b (l.map unb) x y = f := ⟨_, rfl⟩
    have hsp := spec_spread a b (l.map unb) x y hm
    have hfl : f.length ≤ 1048576 := by
      rw [← hf]
      exact Nat.le_trans (spread_short a b (l.map unb) x y) (by omega)
    rw [hf] at hsp
    refine Ev.bind (to_train a b l hn) (Ev.bind hsp (Ev.bind (to_train a b l hn) ?_))
    simp only [hf]
    refine Ev.bind (eq_ints f hfl) ?_
    simp only [if_true]
    refine Ev.bind (to_train a b l hn) (Ev.bind (eq_train a b _ hm) ?_)
    simp only [if_true]
    unfold laws_markTrain.f
    have hmk : Ev (fun k => (laws_markBookingS.f k (l.map unb) 1).bind fun bt => some (bt.1, bt.2)) (1 + 4 * ((l.map unb).length : Int), (List.range (l.map unb).length).map fun i => bookAt (1 + 4 * (i : Nat))) :=
      Ev.bind (mark_bookings (l.map unb) 1 hm (by omega) (by omega)) (Ev.now _)
    refine Ev.bind hmk ?_
    have hpos : ¬ (1 + 4 * ((l.map unb).length : Int) < 0) := by omega
    simp only [hpos, if_false]
    refine Ev.bind (eq_ints f hfl) ?_
    simp only [Bool.not_true]
    have held := held_ints f.length 1 hfl (by omega) (by omega)
    refine ev_at (f := fun k => (laws_markIntS.f k f 1).bind fun bt202 => (laws_heldIntS.f k bt202.2 1).bind fun t204 => if t204 < 0 then some false else if t204 = bt202.1 then (laws_toTrain.f k a b l).bind fun bt205 => (laws_eqIntS.f k (spreadV bt205.1 bt205.2.1 bt205.2.2 x y) f).bind fun t213 => if t213 = true then (laws_heldIntS.f k bt202.2 1).bind fun t214 => if t214 < 0 then some false else if t214 = bt202.1 then some true else some false else some false else some false) ?_ (fun k => by simp only [laws_FnExactSpread.j0, impl_spread, Option.bind_some, Bool.false_eq_true, if_false])
    refine Ev.bind (mark_ints f 1 hfl (by omega) (by omega)) ?_
    refine Ev.bind held ?_
    have hp2 : ¬ (1 + (f.length : Int) < 0) := by omega
    simp only [hp2, if_false, if_true]
    refine Ev.bind (to_train a b l hn) ?_
    simp only [hf]
    refine Ev.bind (eq_ints f hfl) ?_
    simp only [if_true]
    refine Ev.bind held ?_
    simp only [hp2, if_false, if_true]
    exact Ev.now _
end Go.Proofs.Ytklikbjlfaednaa.Pure
