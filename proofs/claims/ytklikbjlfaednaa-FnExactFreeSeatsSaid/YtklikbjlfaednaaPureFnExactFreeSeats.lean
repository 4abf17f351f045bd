/- The law FnExactFreeSeats, over lists and numbers alone: program and reference tell the same seats. -/
import Derived.Test.YtklikbjlfaednaaQFnExactFreeSeats
import Derived.Test.YtklikbjlfaednaaG5
namespace Go.Proofs.Ytklikbjlfaednaa.Pure
open Go.RowKit Go.Proofs.Ytklikbjlfaednaa.P Go.Proofs.YtklikbjlfaednaaW.PrintWords Go.Proofs.YtklikbjlfaednaaW.PrintLast

theorem FnExactFreeSeats : laws_FnExactFreeSeats.Pure2 := by
  intro ⟨a, b, l⟩ x y hq _ _
  have hl : l.length ≤ maxLen := hq.2.2.1
  refine Ev.rounds ?_
  unfold laws_FnExactFreeSeats.f
  simp only [sz_train a b l 1048576 (by omega) (by omega) hl, Option.bind_some]
  by_cases h : (1048576 : Int) < l.length
  · simpa [h] using Ev.now true
  · have hn : l.length ≤ 1048576 := by omega
    have hm : (l.map unb).length ≤ 1048576 := by simpa using hn
    simp only [h, if_false, show ¬ ((1048576 : Int) - l.length < 0) by omega, impl_free, Option.bind_some]
    obtain ⟨f, hf⟩ : ∃ f, freeV a b (l.map unb) x y = f := ⟨_, rfl⟩
    have hsp := spec_free a b (l.map unb) x y hm
    have hfl : f.length ≤ 1048576 := by
      rw [← hf]
      unfold freeV
      split
      · rename_i hc
        rw [Bool.and_eq_true] at hc
        have := (train_parts hc.1).1
        have := free_len (l.map unb) a.toNat x.toNat y.toNat
        omega
      · simp
    rw [hf] at hsp
    refine Ev.bind (to_train a b l hn) (Ev.bind hsp (Ev.bind (to_train a b l hn) ?_))
    simp only [hf]
    refine Ev.bind (eq_ints f hfl) ?_
    simp only [if_true]
    refine Ev.bind (to_train a b l hn) (Ev.bind (eq_train a b _ hm) ?_)
    simp only [if_true]
    unfold laws_markTrain.f
    have hmk : Ev (fun k => (laws_markBookingS.f k (l.map unb) 1).bind fun bt => some (bt.1, bt.2)) (1 + 4 * ((l.map unb).length : Int), (List.range (l.map unb).length).map fun i => bookAt (1 + 4 * (i : Nat))) :=
      Ev.bind (mark_bookings (l.map unb) 1 hm (by omega) (by omega)) (Ev.now _)
    refine Ev.bind hmk ?_
    have hpos : ¬ (1 + 4 * ((l.map unb).length : Int) < 0) := by omega
    simp only [hpos, if_false]
    refine Ev.bind (eq_ints f hfl) ?_
    simp only [Bool.not_true]
    have held := held_ints f.length 1 hfl (by omega) (by omega)
    refine ev_at (f := fun k => (laws_markIntS.f k f 1).bind fun bt210 => (laws_heldIntS.f k bt210.2 1).bind fun t212 => if t212 < 0 then some false else if t212 = bt210.1 then (laws_toTrain.f k a b l).bind fun bt213 => (laws_eqIntS.f k (freeV bt213.1 bt213.2.1 bt213.2.2 x y) f).bind fun t221 => if t221 = true then (laws_heldIntS.f k bt210.2 1).bind fun t222 => if t222 < 0 then some false else if t222 = bt210.1 then some true else some false else some false else some false) ?_ (fun k => by simp only [laws_FnExactFreeSeats.j0, impl_free, Option.bind_some, Bool.false_eq_true, if_false])
    refine Ev.bind (mark_ints f 1 hfl (by omega) (by omega)) ?_
    refine Ev.bind held ?_
    have hp2 : ¬ (1 + (f.length : Int) < 0) := by omega
    simp only [hp2, if_false, if_true]
    refine Ev.bind (to_train a b l hn) ?_
    simp only [hf]
    refine Ev.bind (eq_ints f hfl) ?_
    simp only [if_true]
    refine Ev.bind held ?_
    simp only [hp2, if_false, if_true]
    exact Ev.now _
end Go.Proofs.Ytklikbjlfaednaa.Pure
