/- The values of Chains, Mileage and Due of right tasks, by their units. -/
import Derived.Test.YtoalolbifakpiaaC5
import Derived.Test.YtoalolbifakpiaaC10
namespace Go.Proofs.Ytoalolbifakpiaa.Pure
open Go.RowKit Go.Proofs.Ytoalolbifakpiaa.P Go.Proofs.YtoalolbifakpiaaW.PrintWords Go.Proofs.YtoalolbifakpiaaW.PrintLast

theorem ev_unique {α : Type} {g : Nat → Option α} {a b : α} (h1 : Ev g a) (h2 : Ev g b) : a = b := by
  obtain ⟨K1, h1⟩ := h1
  obtain ⟨K2, h2⟩ := h2
  have e1 := h1 (max K1 K2) (by omega)
  have e2 := h2 (max K1 K2) (by omega)
  rw [e1] at e2
  exact Option.some.inj e2
theorem same_ints (l : List Int) (h : l.length ≤ 1048576) : Ev (fun k => laws_sameInts.f k l l) true := by
  have key := ev_true l.length (fun k i => laws_sameInts.l0 k l l i) (fun k => by simp [laws_sameInts.l0]) (fun k i hi => by simp [laws_sameInts.l0, w64s hi (by omega), hi])
  simpa [laws_sameInts.f] using key
theorem chains_rel (l : List S25) (turn : Int) (hl : tasksB l = true) (htb : inB turn 0 120 = true) : ∃ out, Rel l.length (impl_byDep.l0 l) (units l turn) out ∧ Ev (fun k => spec_Chains.f k l turn) out ∧ Ev (fun k => impl_Chains.f k l turn) out ∧ (units l turn).length ≤ l.length := by
  obtain ⟨h40, hta⟩ := tasksB_parts hl
  obtain ⟨out, r1, r2⟩ := spec_chains l turn hl (inB_iff.1 htb)
  obtain ⟨out', _, s1, s2⟩ := chains_both l turn (by omega)
  have e := ev_unique r2 s1
  rw [← e] at s2
  exact ⟨out, r1, r2, s2, (rel_small r1 (order_facts l).1).1⟩
theorem impl_units {α : Type} (l : List S25) (turn : Int) (hl : tasksB l = true) (htb : inB turn 0 120 = true) (F : Nat → Bool → Option α) (G : Nat → List (List Int) → Option α) (r : α)
    (h0 : ∀ k, F (k + 1) false = (impl_chains.f k l turn).bind fun us => G k us) (h1 : Ev (fun k => G k (units l turn)) r) : Ev (fun k => (impl_TasksOk.f k l).bind fun t => if t = true then (impl_turnOk.f turn).bind fun t2 => F k (!t2) else F k true) r := by
  obtain ⟨h40, hta⟩ := tasksB_parts hl
  have ht := impl_tasks l (by omega)
  rw [hl] at ht
  refine Ev.bind ht ?_
  simp only [if_true, turn_ok, htb, Option.bind_some, Bool.not_true]
  refine ev_at h1 (fun k => ?_)
  have e : impl_chains.f k l turn = some (units l turn) := by unfold impl_chains.f; rw [if_pos h40]; rfl
  rw [h0, e]; rfl
theorem mileage_value (l : List S25) (turn : Int) (hl : tasksB l = true) (htb : inB turn 0 120 = true) : Ev (fun k => impl_Mileage.f k l turn) ((List.range (units l turn).length).map (unitKm l (units l turn))) := by
  obtain ⟨h40, hta⟩ := tasksB_parts hl
  obtain ⟨out, r1, _, _, s1⟩ := chains_rel l turn hl htb
  have s2 := (rel_small r1 (order_facts l).1).2
  have key := impl_miles r1 hta (by omega) (fun u hu => by have := s2 u hu; omega) 0 (by omega)
  unfold impl_Mileage.f
  exact impl_units l turn hl htb (fun k b => impl_Mileage.j0 k l turn b) (fun k us => impl_Mileage.l0 k l [] us (us.length : Int) 0) _ (fun k => by simp [impl_Mileage.j0]) key
end Go.Proofs.Ytoalolbifakpiaa.Pure
