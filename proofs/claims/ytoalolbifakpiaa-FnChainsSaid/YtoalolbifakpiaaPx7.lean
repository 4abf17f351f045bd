/- Contracts of the functions of the program, each one with its plain Lean function; written by a program of the session out of the translation. -/
import Derived.Test.YtoalolbifakpiaaS11
import Derived.Test.YtoalolbifakpiaaS13
import Derived.Test.YtoalolbifakpiaaPx0
namespace Go.Proofs.Ytoalolbifakpiaa.P
open Go.RowKit Go.Proofs.YtoalolbifakpiaaW.PrintWords Go.Proofs.YtoalolbifakpiaaW.PrintLast Go.Proofs.YtoalolbifakpiaaW.PrintMore
attribute [local go_sem] max2_int min2_int max_two min_two max_three min_three max_four min_four   -- for this text's walks alone
set_option linter.unusedVariables false
set_option linter.unusedSimpArgs false

-- NOT PRINTED: function 77 (slices_symMergeCmpFunc_int)

-- NOT PRINTED: function 74 (slices_stableCmpFunc_int)

-- NOT PRINTED: function 70 (slices_SortStableFunc_int_int)

/-! ### impl_byDep: function 60, by hand -/
theorem impl_byDep.mono : ∀ a0 k, LeO (impl_byDep.f k a0) (impl_byDep.f (k + 1) a0) := fun a0 k => LeO.refl _
theorem impl_byDep.calls (k : Nat) (A0 : Option Addr) (c0 : Nat) (l0 : List (S25)) (r : List Int) (w : World) (hr0 : Kd.C k25 w A0 l0.length l0) (hc0 : l0.length ≤ c0) (h : impl_byDep.f k l0 = some r) :
    Calls Try.prog 60 #[.slice A0 l0.length c0] w fun e w' => ∃ v0_ : Value, e = .returned (v0_) ∧ Kd.R (Kd.int .i64) 3 w' w.heap.size (fun _ => True) v0_ r ∧ Below w.heap.size w w' := hd_byDep k A0 c0 l0 r w hr0 hc0 h

/-! ### impl_chains: function 58, by hand -/
theorem impl_chains.mono : ∀ a0 a1 k, LeO (impl_chains.f k a0 a1) (impl_chains.f (k + 1) a0 a1) := fun a0 a1 k => LeO.refl _
theorem impl_chains.calls (k : Nat) (A0 : Option Addr) (c0 : Nat) (l0 : List (S25)) (a1 : Int) (r : List (List Int)) (w : World) (hr0 : Kd.C k25 w A0 l0.length l0) (hc0 : l0.length ≤ c0) (h : impl_chains.f k l0 a1 = some r) :
    Calls Try.prog 58 #[.slice A0 l0.length c0, .int .i64 a1] w fun e w' => ∃ v0_ : Value, e = .returned (v0_) ∧ Kd.S (Kd.slice 3 (Kd.int .i64)) 39 w' w.heap.size (fun _ => True) v0_ r ∧ Below w.heap.size w w' := hd_chains k A0 c0 l0 a1 r w hr0 hc0 h

end Go.Proofs.Ytoalolbifakpiaa.P
