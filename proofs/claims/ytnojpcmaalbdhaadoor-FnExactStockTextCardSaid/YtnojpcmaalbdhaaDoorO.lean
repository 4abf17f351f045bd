/- What the types of this seat's arguments open as. -/
import Derived.Test.YtnojpcmaalbdhaaDoorPx0
import Derived.Test.YtnojpcmaalbdhaaDoorOp
namespace Go.Proofs.YtnojpcmaalbdhaaDoor.P
open Go.RowKit Go.Proofs.YtnojpcmaalbdhaaDoorW.PrintWords Go.Proofs.YtnojpcmaalbdhaaDoor.Op
def Q46 (x : S46) : Prop := (Lit.int .i64 x.f0).wf = true ∧ (Lit.int .i64 x.f1).wf = true ∧ (Lit.int .i64 x.f2).wf = true ∧ True
theorem o46 : Opens Tryd.prog 46 k46 Q46 := opens_struct Tryd.underlying46 (by kernel_rfl) (fields_cons (opens_int Tryd.underlying3 (by kernel_rfl)) rfl (fields_cons (opens_int Tryd.underlying3 (by kernel_rfl)) rfl (fields_cons (opens_int Tryd.underlying3 (by kernel_rfl)) rfl (fields_one (opens_bool Tryd.underlying4 (by kernel_rfl)) rfl)))) (fun x : S46 => (x.f0, x.f1, x.f2, x.f3)) (fun p => ⟨p.1, p.2.1, p.2.2.1, p.2.2.2⟩) (fun _ => rfl)
end Go.Proofs.YtnojpcmaalbdhaaDoor.P
