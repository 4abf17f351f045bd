/- What the types of this seat's arguments open as. -/
import Derived.Test.YtdpjoblnjjkbfaaDoorPx0
import Derived.Test.YtdpjoblnjjkbfaaDoorOp
namespace Go.Proofs.YtdpjoblnjjkbfaaDoor.P
open Go.RowKit Go.Proofs.YtdpjoblnjjkbfaaDoorW.PrintWords Go.Proofs.YtdpjoblnjjkbfaaDoor.Op
def Q92 (x : S92) : Prop := (Lit.int .i64 x.f0).wf = true ∧ (Lit.int .i64 x.f1).wf = true ∧ (Lit.int .i64 x.f2).wf = true
theorem o92 : Opens Tryd.prog 92 k92 Q92 := opens_struct Tryd.underlying92 (by kernel_rfl) (fields_cons (opens_int Tryd.underlying3 (by kernel_rfl)) rfl (fields_cons (opens_int Tryd.underlying3 (by kernel_rfl)) rfl (fields_one (opens_int Tryd.underlying3 (by kernel_rfl)) rfl))) (fun x : S92 => (x.f0, x.f1, x.f2)) (fun p => ⟨p.1, p.2.1, p.2.2⟩) (fun _ => rfl)
def Q52 (x : S52) : Prop := x.f0.size ≤ maxLen ∧ (x.f1.length ≤ maxLen ∧ ∀ e0_, e0_ ∈ x.f1 → Q92 e0_)
theorem o52 : Opens Tryd.prog 52 k52 Q52 := opens_struct Tryd.underlying52 (by kernel_rfl) (fields_cons (opens_string Tryd.underlying9 (by kernel_rfl)) rfl (fields_one (opens_slice Tryd.underlying50 (by kernel_rfl) o92) rfl)) (fun x : S52 => (x.f0, x.f1)) (fun p => ⟨p.1, p.2⟩) (fun _ => rfl)
def Q56 (x : S56) : Prop := (Lit.int .i64 x.f0).wf = true ∧ (Lit.int .i64 x.f1).wf = true ∧ (Lit.int .i64 x.f2).wf = true
theorem o56 : Opens Tryd.prog 56 k56 Q56 := opens_struct Tryd.underlying56 (by kernel_rfl) (fields_cons (opens_int Tryd.underlying3 (by kernel_rfl)) rfl (fields_cons (opens_int Tryd.underlying3 (by kernel_rfl)) rfl (fields_one (opens_int Tryd.underlying3 (by kernel_rfl)) rfl))) (fun x : S56 => (x.f0, x.f1, x.f2)) (fun p => ⟨p.1, p.2.1, p.2.2⟩) (fun _ => rfl)
end Go.Proofs.YtdpjoblnjjkbfaaDoor.P
