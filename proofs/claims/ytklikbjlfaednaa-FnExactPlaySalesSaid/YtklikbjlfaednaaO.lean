/- What the types of this seat's arguments open as. -/
import Derived.Test.YtklikbjlfaednaaPx0
import Derived.Test.YtklikbjlfaednaaOp
namespace Go.Proofs.Ytklikbjlfaednaa.P
open Go.RowKit Go.Proofs.YtklikbjlfaednaaW.PrintWords Go.Proofs.Ytklikbjlfaednaa.Op
def Q89 (x : S89) : Prop := (Lit.int .i64 x.f0).wf = true ∧ (Lit.int .i64 x.f1).wf = true ∧ (Lit.int .i64 x.f2).wf = true ∧ (Lit.int .i64 x.f3).wf = true
theorem o89 : Opens Try.prog 89 k89 Q89 := opens_struct Try.underlying89 (by kernel_rfl) (fields_cons (opens_int Try.underlying3 (by kernel_rfl)) rfl (fields_cons (opens_int Try.underlying3 (by kernel_rfl)) rfl (fields_cons (opens_int Try.underlying3 (by kernel_rfl)) rfl (fields_one (opens_int Try.underlying3 (by kernel_rfl)) rfl)))) (fun x : S89 => (x.f0, x.f1, x.f2, x.f3)) (fun p => ⟨p.1, p.2.1, p.2.2.1, p.2.2.2⟩) (fun _ => rfl)
def Q24 (x : S24) : Prop := (Lit.int .i64 x.f0).wf = true ∧ (Lit.int .i64 x.f1).wf = true ∧ (x.f2.length ≤ maxLen ∧ ∀ e0_, e0_ ∈ x.f2 → Q89 e0_)
theorem o24 : Opens Try.prog 24 k24 Q24 := opens_struct Try.underlying24 (by kernel_rfl) (fields_cons (opens_int Try.underlying3 (by kernel_rfl)) rfl (fields_cons (opens_int Try.underlying3 (by kernel_rfl)) rfl (fields_one (opens_slice Try.underlying22 (by kernel_rfl) o89) rfl))) (fun x : S24 => (x.f0, x.f1, x.f2)) (fun p => ⟨p.1, p.2.1, p.2.2⟩) (fun _ => rfl)
def Q86 (x : S86) : Prop := (Lit.int .i64 x.f0).wf = true ∧ (Lit.int .i64 x.f1).wf = true ∧ (Lit.int .i64 x.f2).wf = true ∧ (Lit.int .i64 x.f3).wf = true
theorem o86 : Opens Try.prog 86 k86 Q86 := opens_struct Try.underlying86 (by kernel_rfl) (fields_cons (opens_int Try.underlying3 (by kernel_rfl)) rfl (fields_cons (opens_int Try.underlying3 (by kernel_rfl)) rfl (fields_cons (opens_int Try.underlying3 (by kernel_rfl)) rfl (fields_one (opens_int Try.underlying3 (by kernel_rfl)) rfl)))) (fun x : S86 => (x.f0, x.f1, x.f2, x.f3)) (fun p => ⟨p.1, p.2.1, p.2.2.1, p.2.2.2⟩) (fun _ => rfl)
end Go.Proofs.Ytklikbjlfaednaa.P
