/- What the types of this seat's arguments open as. -/
import Derived.Test.YtdpjoblnjjkbfaaPx0
import Derived.Test.YtdpjoblnjjkbfaaOp
namespace Go.Proofs.Ytdpjoblnjjkbfaa.P
open Go.RowKit Go.Proofs.YtdpjoblnjjkbfaaW.PrintWords Go.Proofs.Ytdpjoblnjjkbfaa.Op
def Q92 (x : S92) : Prop := (Lit.int .i64 x.f0).wf = true ∧ (Lit.int .i64 x.f1).wf = true ∧ (Lit.int .i64 x.f2).wf = true
theorem o92 : Opens Try.prog 92 k92 Q92 := opens_struct Try.underlying92 (by kernel_rfl) (fields_cons (opens_int Try.underlying3 (by kernel_rfl)) rfl (fields_cons (opens_int Try.underlying3 (by kernel_rfl)) rfl (fields_one (opens_int Try.underlying3 (by kernel_rfl)) rfl))) (fun x : S92 => (x.f0, x.f1, x.f2)) (fun p => ⟨p.1, p.2.1, p.2.2⟩) (fun _ => rfl)
def Q47 (x : S47) : Prop := x.f0.size ≤ maxLen ∧ (x.f1.length ≤ maxLen ∧ ∀ e0_, e0_ ∈ x.f1 → Q92 e0_)
theorem o47 : Opens Try.prog 47 k47 Q47 := opens_struct Try.underlying47 (by kernel_rfl) (fields_cons (opens_string Try.underlying9 (by kernel_rfl)) rfl (fields_one (opens_slice Try.underlying45 (by kernel_rfl) o92) rfl)) (fun x : S47 => (x.f0, x.f1)) (fun p => ⟨p.1, p.2⟩) (fun _ => rfl)
end Go.Proofs.Ytdpjoblnjjkbfaa.P
