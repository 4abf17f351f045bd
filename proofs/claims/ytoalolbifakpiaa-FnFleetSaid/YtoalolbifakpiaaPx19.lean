/- Contracts of the functions of the program, each one with its plain Lean function; written by a program of the session out of the translation. -/
import Derived.Test.YtoalolbifakpiaaS16
import Derived.Test.YtoalolbifakpiaaPx0
import Derived.Test.YtoalolbifakpiaaPx5
namespace Go.Proofs.Ytoalolbifakpiaa.P
open Go.RowKit Go.Proofs.YtoalolbifakpiaaW.PrintWords Go.Proofs.YtoalolbifakpiaaW.PrintLast Go.Proofs.YtoalolbifakpiaaW.PrintMore
attribute [local go_sem] max2_int min2_int max_two min_two max_three min_three max_four min_four   -- for this text's walks alone
set_option linter.unusedVariables false
set_option linter.unusedSimpArgs false

-- NOT PRINTED: function 62 (impl_matching_place)

/-! ### impl_Fleet: function 32, by hand -/
theorem impl_Fleet.mono_l (l : List S25) (turn : Int) : ∀ k a bf sn b, LeO (impl_Fleet.l0 l turn k a bf sn b) (impl_Fleet.l0 l turn (k + 1) a bf sn b)
  | 0, a, bf, sn, b => fun r h => by simp [impl_Fleet.l0] at h
  | k + 1, a, bf, sn, b => by
    rw [impl_Fleet.l0, impl_Fleet.l0]
    refine LeO.ite ?_ (LeO.refl _)
    refine LeO.ite (impl_Fleet.mono_l l turn k _ _ _ _) ?_
    refine LeO.ite (impl_Fleet.mono_l l turn k _ _ _ _) ?_
    refine LeO.ite (LeO.refl _) ?_
    refine LeO.bind (impl_Fleet.mono_l l turn k _ _ _ _) (fun r => ?_)
    exact LeO.ite (LeO.refl _) (impl_Fleet.mono_l l turn k _ _ _ _)
theorem impl_Fleet.mono_1 (l : List S25) (turn : Int) (k : Nat) : ∀ q bf u, LeO (impl_Fleet.l1 l turn k q bf u) (impl_Fleet.l1 l turn (k + 1) q bf u)
  | [], bf, u => LeO.refl _
  | a :: q, bf, u => LeO.bind (impl_Fleet.mono_l l turn k _ _ _ _) (fun r => impl_Fleet.mono_1 l turn k q _ _)
theorem impl_Fleet.mono : ∀ a0 a1 k, LeO (impl_Fleet.f k a0 a1) (impl_Fleet.f (k + 1) a0 a1) := fun a0 a1 k => LeO.bind (impl_TasksOk.mono a0 k) (fun _ => LeO.ite (LeO.bind (LeO.refl _) (fun _ => LeO.ite (impl_Fleet.mono_1 a0 a1 k _ _ _) (LeO.refl _))) (LeO.refl _))
theorem impl_Fleet.calls (k : Nat) (A0 : Option Addr) (c0 : Nat) (l0 : List (S25)) (a1 : Int) (r : Int) (w : World) (hr0 : Kd.C k25 w A0 l0.length l0) (hc0 : l0.length ≤ c0) (h : impl_Fleet.f k l0 a1 = some r) :
    Calls Try.prog 32 #[.slice A0 l0.length c0, .int .i64 a1] w fun e w' => e = .returned (.int .i64 r) ∧ Below w.heap.size w w' := hd_Fleet k A0 c0 l0 a1 r w hr0 hc0 h

end Go.Proofs.Ytoalolbifakpiaa.P
