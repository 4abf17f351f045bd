/-
  No cell of these rows narrows 'for every input' (looked for: loops, veiled, ifaces, maps, wideKeys, modest, calm, conditions, laid).
  DERIVED. THE GIVEN ROWS OF THIS SEAT. 9 by the template 'for every input the law returns true; each argument reads behind the call as it read before'; 0 by the template 'total and deterministic' (their statements: YtnojpcmaalbdhaaTotals.lean).
  GIVEN WITH THE SEED: the statements are not yours to turn. If you find one false, say at which input.
  Laid BY PROGRAM, IN A SANDBOX (cutbox-rows.mjs): the forced cells as the released guide's own fill.sh prints them over the translation d1a793c0b7c86fb8… (all of the seat's roots in one cut). By AI agents, Wed Nov 11 2026. No macro, syntax, notation, axiom, sorry.
-/
import Derived.Test.YtnojpcmaalbdhaaChecked
import GoSem.Claim
import GoSem.ClaimJoined
import GoSem.ClaimMapViews
import Derived.JoinedTies
import Derived.KernelRfl
namespace Go.Proofs.Ytnojpcmaalbdhaa
/- THE CELL 'sum', in the pinned program and in every row, IS THE sha256 OF THE DUMP (.gsa) THAT YtnojpcmaalbdhaaProg.lean LOADS. Nothing in Lean hashes anything: it is a label: what it is worth is what the hold of that sum in a sandbox is worth. -/
noncomputable def Try.pinned : Pinned := { name := "ytnojpcmaalbdhaa", sum := "d1a793c0b7c86fb811bf9bc7e8cac244fc72ea065bbd4bcc10a2e4b3af8d0c5c", checked := Try.checked }
namespace Rows
def none {H : Type} : Left H := { results := [], args := [] }

/-- 'laws.FnExactFitting': WHATEVER THE INPUT: true; the input reads as it did. -/
def fnExactFittingSpec : ChangeSpec := { name := "fnExactFitting", fn := fun _ => fun
  | [d1, d2] => { results := [.lit (.bool true)], args := [d1, d2] }
  | _ => none }
def fnExactFittingRow : OpenClaim := { program := "ytnojpcmaalbdhaa", sum := "d1a793c0b7c86fb811bf9bc7e8cac244fc72ea065bbd4bcc10a2e4b3af8d0c5c", func := "loop.example/g00075/laws.FnExactFitting", spec := "fnExactFitting", apart := false }
def FnExactFittingSaid : Prop := fnExactFittingRow.holds Try.pinned (OpenSpec.ofChange fnExactFittingSpec)

/-- ITS FALSE NEIGHBOUR: 'it returns false'. Refute it at one input. -/
def fnExactFittingWrong : ChangeSpec := { name := "fnExactFitting", fn := fun _ => fun
  | [d1, d2] => { results := [.lit (.bool false)], args := [d1, d2] }
  | _ => none }
def FnExactFittingWrongFalsely : Prop := fnExactFittingRow.holds Try.pinned (OpenSpec.ofChange fnExactFittingWrong)

/-- 'laws.FnExactFormOk': WHATEVER THE INPUT: true; the input reads as it did. -/
def fnExactFormOkSpec : ChangeSpec := { name := "fnExactFormOk", fn := fun _ => fun
  | [d] => { results := [.lit (.bool true)], args := [d] }
  | _ => none }
def fnExactFormOkRow : OpenClaim := { program := "ytnojpcmaalbdhaa", sum := "d1a793c0b7c86fb811bf9bc7e8cac244fc72ea065bbd4bcc10a2e4b3af8d0c5c", func := "loop.example/g00075/laws.FnExactFormOk", spec := "fnExactFormOk", unfollowed := true, recurses := true, apart := false }
def FnExactFormOkSaid : Prop := fnExactFormOkRow.holds Try.pinned (OpenSpec.ofChange fnExactFormOkSpec)

/-- ITS FALSE NEIGHBOUR: 'it returns false'. Refute it at one input. -/
def fnExactFormOkWrong : ChangeSpec := { name := "fnExactFormOk", fn := fun _ => fun
  | [d] => { results := [.lit (.bool false)], args := [d] }
  | _ => none }
def FnExactFormOkWrongFalsely : Prop := fnExactFormOkRow.holds Try.pinned (OpenSpec.ofChange fnExactFormOkWrong)

/-- 'laws.FnExactFormLen': WHATEVER THE INPUT: true; the input reads as it did. -/
def fnExactFormLenSpec : ChangeSpec := { name := "fnExactFormLen", fn := fun _ => fun
  | [d] => { results := [.lit (.bool true)], args := [d] }
  | _ => none }
def fnExactFormLenRow : OpenClaim := { program := "ytnojpcmaalbdhaa", sum := "d1a793c0b7c86fb811bf9bc7e8cac244fc72ea065bbd4bcc10a2e4b3af8d0c5c", func := "loop.example/g00075/laws.FnExactFormLen", spec := "fnExactFormLen", unfollowed := true, recurses := true, apart := false }
def FnExactFormLenSaid : Prop := fnExactFormLenRow.holds Try.pinned (OpenSpec.ofChange fnExactFormLenSpec)

/-- ITS FALSE NEIGHBOUR: 'it returns false'. Refute it at one input. -/
def fnExactFormLenWrong : ChangeSpec := { name := "fnExactFormLen", fn := fun _ => fun
  | [d] => { results := [.lit (.bool false)], args := [d] }
  | _ => none }
def FnExactFormLenWrongFalsely : Prop := fnExactFormLenRow.holds Try.pinned (OpenSpec.ofChange fnExactFormLenWrong)

/-- 'laws.FnExactRunnable': WHATEVER THE INPUT: true; the input reads as it did. -/
def fnExactRunnableSpec : ChangeSpec := { name := "fnExactRunnable", fn := fun _ => fun
  | [d] => { results := [.lit (.bool true)], args := [d] }
  | _ => none }
def fnExactRunnableRow : OpenClaim := { program := "ytnojpcmaalbdhaa", sum := "d1a793c0b7c86fb811bf9bc7e8cac244fc72ea065bbd4bcc10a2e4b3af8d0c5c", func := "loop.example/g00075/laws.FnExactRunnable", spec := "fnExactRunnable", unfollowed := true, recurses := true, apart := false }
def FnExactRunnableSaid : Prop := fnExactRunnableRow.holds Try.pinned (OpenSpec.ofChange fnExactRunnableSpec)

/-- ITS FALSE NEIGHBOUR: 'it returns false'. Refute it at one input. -/
def fnExactRunnableWrong : ChangeSpec := { name := "fnExactRunnable", fn := fun _ => fun
  | [d] => { results := [.lit (.bool false)], args := [d] }
  | _ => none }
def FnExactRunnableWrongFalsely : Prop := fnExactRunnableRow.holds Try.pinned (OpenSpec.ofChange fnExactRunnableWrong)

/-- 'laws.FnExactPart': WHATEVER THE INPUT: true; the input reads as it did. -/
def fnExactPartSpec : ChangeSpec := { name := "fnExactPart", fn := fun _ => fun
  | [d1, d2] => { results := [.lit (.bool true)], args := [d1, d2] }
  | _ => none }
def fnExactPartRow : OpenClaim := { program := "ytnojpcmaalbdhaa", sum := "d1a793c0b7c86fb811bf9bc7e8cac244fc72ea065bbd4bcc10a2e4b3af8d0c5c", func := "loop.example/g00075/laws.FnExactPart", spec := "fnExactPart", unfollowed := true, recurses := true, apart := false }
def FnExactPartSaid : Prop := fnExactPartRow.holds Try.pinned (OpenSpec.ofChange fnExactPartSpec)

/-- ITS FALSE NEIGHBOUR: 'it returns false'. Refute it at one input. -/
def fnExactPartWrong : ChangeSpec := { name := "fnExactPart", fn := fun _ => fun
  | [d1, d2] => { results := [.lit (.bool false)], args := [d1, d2] }
  | _ => none }
def FnExactPartWrongFalsely : Prop := fnExactPartRow.holds Try.pinned (OpenSpec.ofChange fnExactPartWrong)

/-- 'laws.FnExactTurn': WHATEVER THE INPUT: true; the input reads as it did. -/
def fnExactTurnSpec : ChangeSpec := { name := "fnExactTurn", fn := fun _ => fun
  | [d] => { results := [.lit (.bool true)], args := [d] }
  | _ => none }
def fnExactTurnRow : OpenClaim := { program := "ytnojpcmaalbdhaa", sum := "d1a793c0b7c86fb811bf9bc7e8cac244fc72ea065bbd4bcc10a2e4b3af8d0c5c", func := "loop.example/g00075/laws.FnExactTurn", spec := "fnExactTurn", unfollowed := true, recurses := true, apart := false }
def FnExactTurnSaid : Prop := fnExactTurnRow.holds Try.pinned (OpenSpec.ofChange fnExactTurnSpec)

/-- ITS FALSE NEIGHBOUR: 'it returns false'. Refute it at one input. -/
def fnExactTurnWrong : ChangeSpec := { name := "fnExactTurn", fn := fun _ => fun
  | [d] => { results := [.lit (.bool false)], args := [d] }
  | _ => none }
def FnExactTurnWrongFalsely : Prop := fnExactTurnRow.holds Try.pinned (OpenSpec.ofChange fnExactTurnWrong)

/-- 'laws.FnExactCouple': WHATEVER THE INPUT: true; the input reads as it did. -/
def fnExactCoupleSpec : ChangeSpec := { name := "fnExactCouple", fn := fun _ => fun
  | [d1, d2] => { results := [.lit (.bool true)], args := [d1, d2] }
  | _ => none }
def fnExactCoupleRow : OpenClaim := { program := "ytnojpcmaalbdhaa", sum := "d1a793c0b7c86fb811bf9bc7e8cac244fc72ea065bbd4bcc10a2e4b3af8d0c5c", func := "loop.example/g00075/laws.FnExactCouple", spec := "fnExactCouple", unfollowed := true, recurses := true, apart := false }
def FnExactCoupleSaid : Prop := fnExactCoupleRow.holds Try.pinned (OpenSpec.ofChange fnExactCoupleSpec)

/-- ITS FALSE NEIGHBOUR: 'it returns false'. Refute it at one input. -/
def fnExactCoupleWrong : ChangeSpec := { name := "fnExactCouple", fn := fun _ => fun
  | [d1, d2] => { results := [.lit (.bool false)], args := [d1, d2] }
  | _ => none }
def FnExactCoupleWrongFalsely : Prop := fnExactCoupleRow.holds Try.pinned (OpenSpec.ofChange fnExactCoupleWrong)

/-- 'laws.FnExactShunted': WHATEVER THE INPUT: true; the input reads as it did. -/
def fnExactShuntedSpec : ChangeSpec := { name := "fnExactShunted", fn := fun _ => fun
  | [d1, d2] => { results := [.lit (.bool true)], args := [d1, d2] }
  | _ => none }
def fnExactShuntedRow : OpenClaim := { program := "ytnojpcmaalbdhaa", sum := "d1a793c0b7c86fb811bf9bc7e8cac244fc72ea065bbd4bcc10a2e4b3af8d0c5c", func := "loop.example/g00075/laws.FnExactShunted", spec := "fnExactShunted", unfollowed := true, recurses := true, apart := false }
def FnExactShuntedSaid : Prop := fnExactShuntedRow.holds Try.pinned (OpenSpec.ofChange fnExactShuntedSpec)

/-- ITS FALSE NEIGHBOUR: 'it returns false'. Refute it at one input. -/
def fnExactShuntedWrong : ChangeSpec := { name := "fnExactShunted", fn := fun _ => fun
  | [d1, d2] => { results := [.lit (.bool false)], args := [d1, d2] }
  | _ => none }
def FnExactShuntedWrongFalsely : Prop := fnExactShuntedRow.holds Try.pinned (OpenSpec.ofChange fnExactShuntedWrong)

/-- 'laws.FnCoupled': WHATEVER THE INPUT: true; the input reads as it did. -/
def fnCoupledSpec : ChangeSpec := { name := "fnCoupled", fn := fun _ => fun
  | [d] => { results := [.lit (.bool true)], args := [d] }
  | _ => none }
def fnCoupledRow : OpenClaim := { program := "ytnojpcmaalbdhaa", sum := "d1a793c0b7c86fb811bf9bc7e8cac244fc72ea065bbd4bcc10a2e4b3af8d0c5c", func := "loop.example/g00075/laws.FnCoupled", spec := "fnCoupled", unfollowed := true, recurses := true, apart := false }
def FnCoupledSaid : Prop := fnCoupledRow.holds Try.pinned (OpenSpec.ofChange fnCoupledSpec)

/-- ITS FALSE NEIGHBOUR: 'it returns false'. Refute it at one input. -/
def fnCoupledWrong : ChangeSpec := { name := "fnCoupled", fn := fun _ => fun
  | [d] => { results := [.lit (.bool false)], args := [d] }
  | _ => none }
def FnCoupledWrongFalsely : Prop := fnCoupledRow.holds Try.pinned (OpenSpec.ofChange fnCoupledWrong)

/- THE SECOND FORM. 'bulk': how many values and letters a reading holds, each counted each time it is reached (what is shared counts as often as it is met; a slice's spare places count too). A statement '..UptoSaid' is the law's where the arguments, and the package variables that the reading takes, are together of bulk at most 1048576: NARROWER than '..Said'. Prove '..Said' where nothing that the law and all that it calls make is longer than what came in: it says more and counts as full. Else prove '..UptoSaid'. A law counts once. -/
mutual
def uptoBulk {H : Type} : DataW H → Nat
  | .lit (.string bytes) => bytes.length + 1
  | .lit _ => 1
  | .nil => 1
  | .ptr d => uptoBulk d + 1
  | .slice elems spare => uptoBulkAll elems + uptoBulkAll spare + 1
  | .agg parts => uptoBulkAll parts + 1
  | .iface _ d => uptoBulk d + 1
  | .map entries => uptoBulkEntries entries + 1
  | .held _ => 1
def uptoBulkAll {H : Type} : List (DataW H) → Nat
  | [] => 0
  | d :: r => uptoBulk d + uptoBulkAll r
def uptoBulkEntries {H : Type} : List (Lit × DataW H) → Nat
  | [] => 0
  | x :: r => uptoBulkEntry x + uptoBulkEntries r
def uptoBulkEntry {H : Type} : Lit × DataW H → Nat
  | (.string bytes, d) => bytes.length + uptoBulk d + 1
  | (_, d) => uptoBulk d + 1
 end
def uptoSmall : (H : Type) → List (DataW H) → Bool := fun _ ds => decide (uptoBulkAll ds ≤ 1048576)
def OpenSpec.upto (s : _root_.Go.ChangeSpec) : _root_.Go.OpenSpec := { _root_.Go.OpenSpec.ofChange s with cond := some uptoSmall }

/-- 'laws.FnExactFitting', WHERE WHAT IT READS IS OF BULK AT MOST 1048576: true; the input reads as it did. -/
def fnExactFittingUptoRow : OpenClaim := { program := "ytnojpcmaalbdhaa", sum := "d1a793c0b7c86fb811bf9bc7e8cac244fc72ea065bbd4bcc10a2e4b3af8d0c5c", func := "loop.example/g00075/laws.FnExactFitting", spec := "fnExactFitting", apart := false, narrowed := true }
def FnExactFittingUptoSaid : Prop := fnExactFittingUptoRow.holds Try.pinned (OpenSpec.upto fnExactFittingSpec)

/-- 'laws.FnExactFormOk', WHERE WHAT IT READS IS OF BULK AT MOST 1048576: true; the input reads as it did. -/
def fnExactFormOkUptoRow : OpenClaim := { program := "ytnojpcmaalbdhaa", sum := "d1a793c0b7c86fb811bf9bc7e8cac244fc72ea065bbd4bcc10a2e4b3af8d0c5c", func := "loop.example/g00075/laws.FnExactFormOk", spec := "fnExactFormOk", unfollowed := true, recurses := true, apart := false, narrowed := true }
def FnExactFormOkUptoSaid : Prop := fnExactFormOkUptoRow.holds Try.pinned (OpenSpec.upto fnExactFormOkSpec)

/-- 'laws.FnExactFormLen', WHERE WHAT IT READS IS OF BULK AT MOST 1048576: true; the input reads as it did. -/
def fnExactFormLenUptoRow : OpenClaim := { program := "ytnojpcmaalbdhaa", sum := "d1a793c0b7c86fb811bf9bc7e8cac244fc72ea065bbd4bcc10a2e4b3af8d0c5c", func := "loop.example/g00075/laws.FnExactFormLen", spec := "fnExactFormLen", unfollowed := true, recurses := true, apart := false, narrowed := true }
def FnExactFormLenUptoSaid : Prop := fnExactFormLenUptoRow.holds Try.pinned (OpenSpec.upto fnExactFormLenSpec)

/-- 'laws.FnExactRunnable', WHERE WHAT IT READS IS OF BULK AT MOST 1048576: true; the input reads as it did. -/
def fnExactRunnableUptoRow : OpenClaim := { program := "ytnojpcmaalbdhaa", sum := "d1a793c0b7c86fb811bf9bc7e8cac244fc72ea065bbd4bcc10a2e4b3af8d0c5c", func := "loop.example/g00075/laws.FnExactRunnable", spec := "fnExactRunnable", unfollowed := true, recurses := true, apart := false, narrowed := true }
def FnExactRunnableUptoSaid : Prop := fnExactRunnableUptoRow.holds Try.pinned (OpenSpec.upto fnExactRunnableSpec)

/-- 'laws.FnExactPart', WHERE WHAT IT READS IS OF BULK AT MOST 1048576: true; the input reads as it did. -/
def fnExactPartUptoRow : OpenClaim := { program := "ytnojpcmaalbdhaa", sum := "d1a793c0b7c86fb811bf9bc7e8cac244fc72ea065bbd4bcc10a2e4b3af8d0c5c", func := "loop.example/g00075/laws.FnExactPart", spec := "fnExactPart", unfollowed := true, recurses := true, apart := false, narrowed := true }
def FnExactPartUptoSaid : Prop := fnExactPartUptoRow.holds Try.pinned (OpenSpec.upto fnExactPartSpec)

/-- 'laws.FnExactTurn', WHERE WHAT IT READS IS OF BULK AT MOST 1048576: true; the input reads as it did. -/
def fnExactTurnUptoRow : OpenClaim := { program := "ytnojpcmaalbdhaa", sum := "d1a793c0b7c86fb811bf9bc7e8cac244fc72ea065bbd4bcc10a2e4b3af8d0c5c", func := "loop.example/g00075/laws.FnExactTurn", spec := "fnExactTurn", unfollowed := true, recurses := true, apart := false, narrowed := true }
def FnExactTurnUptoSaid : Prop := fnExactTurnUptoRow.holds Try.pinned (OpenSpec.upto fnExactTurnSpec)

/-- 'laws.FnExactCouple', WHERE WHAT IT READS IS OF BULK AT MOST 1048576: true; the input reads as it did. -/
def fnExactCoupleUptoRow : OpenClaim := { program := "ytnojpcmaalbdhaa", sum := "d1a793c0b7c86fb811bf9bc7e8cac244fc72ea065bbd4bcc10a2e4b3af8d0c5c", func := "loop.example/g00075/laws.FnExactCouple", spec := "fnExactCouple", unfollowed := true, recurses := true, apart := false, narrowed := true }
def FnExactCoupleUptoSaid : Prop := fnExactCoupleUptoRow.holds Try.pinned (OpenSpec.upto fnExactCoupleSpec)

/-- 'laws.FnExactShunted', WHERE WHAT IT READS IS OF BULK AT MOST 1048576: true; the input reads as it did. -/
def fnExactShuntedUptoRow : OpenClaim := { program := "ytnojpcmaalbdhaa", sum := "d1a793c0b7c86fb811bf9bc7e8cac244fc72ea065bbd4bcc10a2e4b3af8d0c5c", func := "loop.example/g00075/laws.FnExactShunted", spec := "fnExactShunted", unfollowed := true, recurses := true, apart := false, narrowed := true }
def FnExactShuntedUptoSaid : Prop := fnExactShuntedUptoRow.holds Try.pinned (OpenSpec.upto fnExactShuntedSpec)

/-- 'laws.FnCoupled', WHERE WHAT IT READS IS OF BULK AT MOST 1048576: true; the input reads as it did. -/
def fnCoupledUptoRow : OpenClaim := { program := "ytnojpcmaalbdhaa", sum := "d1a793c0b7c86fb811bf9bc7e8cac244fc72ea065bbd4bcc10a2e4b3af8d0c5c", func := "loop.example/g00075/laws.FnCoupled", spec := "fnCoupled", unfollowed := true, recurses := true, apart := false, narrowed := true }
def FnCoupledUptoSaid : Prop := fnCoupledUptoRow.holds Try.pinned (OpenSpec.upto fnCoupledSpec)

end Rows
end Go.Proofs.Ytnojpcmaalbdhaa
