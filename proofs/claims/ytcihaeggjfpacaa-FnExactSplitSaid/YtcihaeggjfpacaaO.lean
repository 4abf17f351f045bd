/- What the types of this seat's arguments open as. -/
import Derived.Test.YtcihaeggjfpacaaPx0
import Derived.Test.YtcihaeggjfpacaaOp
namespace Go.Proofs.Ytcihaeggjfpacaa.P
open Go.RowKit Go.Proofs.YtcihaeggjfpacaaW.PrintWords Go.Proofs.Ytcihaeggjfpacaa.Op
def Q60 (x : S60) : Prop := (Lit.int .i64 x.f0).wf = true ∧ (Lit.int .i64 x.f1).wf = true ∧ (Lit.int .i64 x.f2).wf = true ∧ (Lit.int .i64 x.f3).wf = true
theorem o60 : Opens Try.prog 60 k60 Q60 := opens_struct Try.underlying60 (by kernel_rfl) (fields_cons (opens_int Try.underlying3 (by kernel_rfl)) rfl (fields_cons (opens_int Try.underlying3 (by kernel_rfl)) rfl (fields_cons (opens_int Try.underlying3 (by kernel_rfl)) rfl (fields_one (opens_int Try.underlying3 (by kernel_rfl)) rfl)))) (fun x : S60 => (x.f0, x.f1, x.f2, x.f3)) (fun p => ⟨p.1, p.2.1, p.2.2.1, p.2.2.2⟩) (fun _ => rfl)
def Q31 (x : S31) : Prop := (Lit.int .i64 x.f0).wf = true ∧ (Lit.int .i64 x.f1).wf = true ∧ ((x.f2.length ≤ maxLen ∧ ∀ e0_, e0_ ∈ x.f2 → (Lit.int .i64 e0_).wf = true)) ∧ (Lit.int .i64 x.f3).wf = true
theorem o31 : Opens Try.prog 31 k31 Q31 := opens_struct Try.underlying31 (by kernel_rfl) (fields_cons (opens_int Try.underlying3 (by kernel_rfl)) rfl (fields_cons (opens_int Try.underlying3 (by kernel_rfl)) rfl (fields_cons (opens_slice Try.underlying29 (by kernel_rfl) (opens_int Try.underlying3 (by kernel_rfl))) rfl (fields_one (opens_int Try.underlying3 (by kernel_rfl)) rfl)))) (fun x : S31 => (x.f0, x.f1, x.f2, x.f3)) (fun p => ⟨p.1, p.2.1, p.2.2.1, p.2.2.2⟩) (fun _ => rfl)
end Go.Proofs.Ytcihaeggjfpacaa.P
