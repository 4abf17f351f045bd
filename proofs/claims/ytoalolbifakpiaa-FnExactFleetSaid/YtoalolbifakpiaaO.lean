/- What the types of this seat's arguments open as. -/
import Derived.Test.YtoalolbifakpiaaPx0
import Derived.Test.YtoalolbifakpiaaOp
namespace Go.Proofs.Ytoalolbifakpiaa.P
open Go.RowKit Go.Proofs.YtoalolbifakpiaaW.PrintWords Go.Proofs.Ytoalolbifakpiaa.Op
def Q23 (x : S23) : Prop := (Lit.int .i64 x.f0).wf = true ∧ (Lit.int .i64 x.f1).wf = true ∧ (Lit.int .i64 x.f2).wf = true ∧ (Lit.int .i64 x.f3).wf = true ∧ (Lit.int .i64 x.f4).wf = true
theorem o23 : Opens Try.prog 23 k23 Q23 := opens_struct Try.underlying23 (by kernel_rfl) (fields_cons (opens_int Try.underlying3 (by kernel_rfl)) rfl (fields_cons (opens_int Try.underlying3 (by kernel_rfl)) rfl (fields_cons (opens_int Try.underlying3 (by kernel_rfl)) rfl (fields_cons (opens_int Try.underlying3 (by kernel_rfl)) rfl (fields_one (opens_int Try.underlying3 (by kernel_rfl)) rfl))))) (fun x : S23 => (x.f0, x.f1, x.f2, x.f3, x.f4)) (fun p => ⟨p.1, p.2.1, p.2.2.1, p.2.2.2.1, p.2.2.2.2⟩) (fun _ => rfl)
end Go.Proofs.Ytoalolbifakpiaa.P
