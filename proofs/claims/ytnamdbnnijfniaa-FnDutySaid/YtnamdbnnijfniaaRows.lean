/-
  No cell of these rows narrows 'for every input' (looked for: loops, veiled, ifaces, maps, wideKeys, modest, calm, conditions, laid).
  DERIVED. THE GIVEN ROWS OF THIS SEAT. 7 by the template 'for every input the law returns true; each argument reads behind the call as it read before'; 0 by the template 'total and deterministic' (their statements: YtnamdbnnijfniaaTotals.lean).
  GIVEN WITH THE SEED: the statements are not yours to turn. If you find one false, say at which input.
  Laid BY PROGRAM, IN A SANDBOX (cutbox-rows.mjs): the forced cells as the released guide's own fill.sh prints them over the translation d1b557cb8c676299… (all of the seat's roots in one cut). By AI agents, Wed Nov 11 2026. No macro, syntax, notation, axiom, sorry.
-/
import Derived.Test.YtnamdbnnijfniaaChecked
import GoSem.Claim
import GoSem.ClaimJoined
import GoSem.ClaimMapViews
import Derived.JoinedTies
import Derived.KernelRfl
namespace Go.Proofs.Ytnamdbnnijfniaa
/- THE CELL 'sum', in the pinned program and in every row, IS THE sha256 OF THE DUMP (.gsa) THAT YtnamdbnnijfniaaProg.lean LOADS. Nothing in Lean hashes anything: it is a label: what it is worth is what the hold of that sum in a sandbox is worth. -/
noncomputable def Try.pinned : Pinned := { name := "ytnamdbnnijfniaa", sum := "d1b557cb8c6762998126e9d2fccfcbb0d75a65a533755f88fa2c0380d8a37b09", checked := Try.checked }
namespace Rows
def none {H : Type} : Left H := { results := [], args := [] }

/-- 'laws.FnExactRuleOk': WHATEVER THE INPUT: true; the input reads as it did. -/
def fnExactRuleOkSpec : ChangeSpec := { name := "fnExactRuleOk", fn := fun _ => fun
  | [d] => { results := [.lit (.bool true)], args := [d] }
  | _ => none }
def fnExactRuleOkRow : OpenClaim := { program := "ytnamdbnnijfniaa", sum := "d1b557cb8c6762998126e9d2fccfcbb0d75a65a533755f88fa2c0380d8a37b09", func := "loop.example/g00075/laws.FnExactRuleOk", spec := "fnExactRuleOk", apart := false }
def FnExactRuleOkSaid : Prop := fnExactRuleOkRow.holds Try.pinned (OpenSpec.ofChange fnExactRuleOkSpec)

/-- ITS FALSE NEIGHBOUR: 'it returns false'. Refute it at one input. -/
def fnExactRuleOkWrong : ChangeSpec := { name := "fnExactRuleOk", fn := fun _ => fun
  | [d] => { results := [.lit (.bool false)], args := [d] }
  | _ => none }
def FnExactRuleOkWrongFalsely : Prop := fnExactRuleOkRow.holds Try.pinned (OpenSpec.ofChange fnExactRuleOkWrong)

/-- 'laws.FnExactDriven': WHATEVER THE INPUT: true; the input reads as it did. -/
def fnExactDrivenSpec : ChangeSpec := { name := "fnExactDriven", fn := fun _ => fun
  | [d1, d2] => { results := [.lit (.bool true)], args := [d1, d2] }
  | _ => none }
def fnExactDrivenRow : OpenClaim := { program := "ytnamdbnnijfniaa", sum := "d1b557cb8c6762998126e9d2fccfcbb0d75a65a533755f88fa2c0380d8a37b09", func := "loop.example/g00075/laws.FnExactDriven", spec := "fnExactDriven", apart := false }
def FnExactDrivenSaid : Prop := fnExactDrivenRow.holds Try.pinned (OpenSpec.ofChange fnExactDrivenSpec)

/-- ITS FALSE NEIGHBOUR: 'it returns false'. Refute it at one input. -/
def fnExactDrivenWrong : ChangeSpec := { name := "fnExactDriven", fn := fun _ => fun
  | [d1, d2] => { results := [.lit (.bool false)], args := [d1, d2] }
  | _ => none }
def FnExactDrivenWrongFalsely : Prop := fnExactDrivenRow.holds Try.pinned (OpenSpec.ofChange fnExactDrivenWrong)

/-- 'laws.FnExactStretched': WHATEVER THE INPUT: true; the input reads as it did. -/
def fnExactStretchedSpec : ChangeSpec := { name := "fnExactStretched", fn := fun _ => fun
  | [d1, d2, d3] => { results := [.lit (.bool true)], args := [d1, d2, d3] }
  | _ => none }
def fnExactStretchedRow : OpenClaim := { program := "ytnamdbnnijfniaa", sum := "d1b557cb8c6762998126e9d2fccfcbb0d75a65a533755f88fa2c0380d8a37b09", func := "loop.example/g00075/laws.FnExactStretched", spec := "fnExactStretched", apart := false }
def FnExactStretchedSaid : Prop := fnExactStretchedRow.holds Try.pinned (OpenSpec.ofChange fnExactStretchedSpec)

/-- ITS FALSE NEIGHBOUR: 'it returns false'. Refute it at one input. -/
def fnExactStretchedWrong : ChangeSpec := { name := "fnExactStretched", fn := fun _ => fun
  | [d1, d2, d3] => { results := [.lit (.bool false)], args := [d1, d2, d3] }
  | _ => none }
def FnExactStretchedWrongFalsely : Prop := fnExactStretchedRow.holds Try.pinned (OpenSpec.ofChange fnExactStretchedWrong)

/-- 'laws.FnExactDutyCode': WHATEVER THE INPUT: true; the input reads as it did. -/
def fnExactDutyCodeSpec : ChangeSpec := { name := "fnExactDutyCode", fn := fun _ => fun
  | [d1, d2, d3] => { results := [.lit (.bool true)], args := [d1, d2, d3] }
  | _ => none }
def fnExactDutyCodeRow : OpenClaim := { program := "ytnamdbnnijfniaa", sum := "d1b557cb8c6762998126e9d2fccfcbb0d75a65a533755f88fa2c0380d8a37b09", func := "loop.example/g00075/laws.FnExactDutyCode", spec := "fnExactDutyCode", apart := false }
def FnExactDutyCodeSaid : Prop := fnExactDutyCodeRow.holds Try.pinned (OpenSpec.ofChange fnExactDutyCodeSpec)

/-- ITS FALSE NEIGHBOUR: 'it returns false'. Refute it at one input. -/
def fnExactDutyCodeWrong : ChangeSpec := { name := "fnExactDutyCode", fn := fun _ => fun
  | [d1, d2, d3] => { results := [.lit (.bool false)], args := [d1, d2, d3] }
  | _ => none }
def FnExactDutyCodeWrongFalsely : Prop := fnExactDutyCodeRow.holds Try.pinned (OpenSpec.ofChange fnExactDutyCodeWrong)

/-- 'laws.FnDuty': WHATEVER THE INPUT: true; the input reads as it did. -/
def fnDutySpec : ChangeSpec := { name := "fnDuty", fn := fun _ => fun
  | [d] => { results := [.lit (.bool true)], args := [d] }
  | _ => none }
def fnDutyRow : OpenClaim := { program := "ytnamdbnnijfniaa", sum := "d1b557cb8c6762998126e9d2fccfcbb0d75a65a533755f88fa2c0380d8a37b09", func := "loop.example/g00075/laws.FnDuty", spec := "fnDuty", apart := false }
def FnDutySaid : Prop := fnDutyRow.holds Try.pinned (OpenSpec.ofChange fnDutySpec)

/-- ITS FALSE NEIGHBOUR: 'it returns false'. Refute it at one input. -/
def fnDutyWrong : ChangeSpec := { name := "fnDuty", fn := fun _ => fun
  | [d] => { results := [.lit (.bool false)], args := [d] }
  | _ => none }
def FnDutyWrongFalsely : Prop := fnDutyRow.holds Try.pinned (OpenSpec.ofChange fnDutyWrong)

/-- 'laws.FnExactWage': WHATEVER THE INPUT: true; the input reads as it did. -/
def fnExactWageSpec : ChangeSpec := { name := "fnExactWage", fn := fun _ => fun
  | [d1, d2, d3, d4] => { results := [.lit (.bool true)], args := [d1, d2, d3, d4] }
  | _ => none }
def fnExactWageRow : OpenClaim := { program := "ytnamdbnnijfniaa", sum := "d1b557cb8c6762998126e9d2fccfcbb0d75a65a533755f88fa2c0380d8a37b09", func := "loop.example/g00075/laws.FnExactWage", spec := "fnExactWage", apart := false }
def FnExactWageSaid : Prop := fnExactWageRow.holds Try.pinned (OpenSpec.ofChange fnExactWageSpec)

/-- ITS FALSE NEIGHBOUR: 'it returns false'. Refute it at one input. -/
def fnExactWageWrong : ChangeSpec := { name := "fnExactWage", fn := fun _ => fun
  | [d1, d2, d3, d4] => { results := [.lit (.bool false)], args := [d1, d2, d3, d4] }
  | _ => none }
def FnExactWageWrongFalsely : Prop := fnExactWageRow.holds Try.pinned (OpenSpec.ofChange fnExactWageWrong)

/-- 'laws.FnRelieve': WHATEVER THE INPUT: true; the input reads as it did. -/
def fnRelieveSpec : ChangeSpec := { name := "fnRelieve", fn := fun _ => fun
  | [d] => { results := [.lit (.bool true)], args := [d] }
  | _ => none }
def fnRelieveRow : OpenClaim := { program := "ytnamdbnnijfniaa", sum := "d1b557cb8c6762998126e9d2fccfcbb0d75a65a533755f88fa2c0380d8a37b09", func := "loop.example/g00075/laws.FnRelieve", spec := "fnRelieve", apart := false }
def FnRelieveSaid : Prop := fnRelieveRow.holds Try.pinned (OpenSpec.ofChange fnRelieveSpec)

/-- ITS FALSE NEIGHBOUR: 'it returns false'. Refute it at one input. -/
def fnRelieveWrong : ChangeSpec := { name := "fnRelieve", fn := fun _ => fun
  | [d] => { results := [.lit (.bool false)], args := [d] }
  | _ => none }
def FnRelieveWrongFalsely : Prop := fnRelieveRow.holds Try.pinned (OpenSpec.ofChange fnRelieveWrong)

/- THE SECOND FORM. 'bulk': how many values and letters a reading holds, each counted each time it is reached (what is shared counts as often as it is met; a slice's spare places count too). A statement '..UptoSaid' is the law's where the arguments, and the package variables that the reading takes, are together of bulk at most 1048576: NARROWER than '..Said'. Prove '..Said' where nothing that the law and all that it calls make is longer than what came in: it says more and counts as full. Else prove '..UptoSaid'. A law counts once. -/
mutual
def uptoBulk {H : Type} : DataW H → Nat
  | .lit (.string bytes) => bytes.length + 1
  | .lit _ => 1
  | .nil => 1
  | .ptr d => uptoBulk d + 1
  | .slice elems spare => uptoBulkAll elems + uptoBulkAll spare + 1
  | .agg parts => uptoBulkAll parts + 1
  | .iface _ d => uptoBulk d + 1
  | .map entries => uptoBulkEntries entries + 1
  | .held _ => 1
def uptoBulkAll {H : Type} : List (DataW H) → Nat
  | [] => 0
  | d :: r => uptoBulk d + uptoBulkAll r
def uptoBulkEntries {H : Type} : List (Lit × DataW H) → Nat
  | [] => 0
  | x :: r => uptoBulkEntry x + uptoBulkEntries r
def uptoBulkEntry {H : Type} : Lit × DataW H → Nat
  | (.string bytes, d) => bytes.length + uptoBulk d + 1
  | (_, d) => uptoBulk d + 1
 end
def uptoSmall : (H : Type) → List (DataW H) → Bool := fun _ ds => decide (uptoBulkAll ds ≤ 1048576)
def OpenSpec.upto (s : _root_.Go.ChangeSpec) : _root_.Go.OpenSpec := { _root_.Go.OpenSpec.ofChange s with cond := some uptoSmall }

/-- 'laws.FnExactRuleOk', WHERE WHAT IT READS IS OF BULK AT MOST 1048576: true; the input reads as it did. -/
def fnExactRuleOkUptoRow : OpenClaim := { program := "ytnamdbnnijfniaa", sum := "d1b557cb8c6762998126e9d2fccfcbb0d75a65a533755f88fa2c0380d8a37b09", func := "loop.example/g00075/laws.FnExactRuleOk", spec := "fnExactRuleOk", apart := false, narrowed := true }
def FnExactRuleOkUptoSaid : Prop := fnExactRuleOkUptoRow.holds Try.pinned (OpenSpec.upto fnExactRuleOkSpec)

/-- 'laws.FnExactDriven', WHERE WHAT IT READS IS OF BULK AT MOST 1048576: true; the input reads as it did. -/
def fnExactDrivenUptoRow : OpenClaim := { program := "ytnamdbnnijfniaa", sum := "d1b557cb8c6762998126e9d2fccfcbb0d75a65a533755f88fa2c0380d8a37b09", func := "loop.example/g00075/laws.FnExactDriven", spec := "fnExactDriven", apart := false, narrowed := true }
def FnExactDrivenUptoSaid : Prop := fnExactDrivenUptoRow.holds Try.pinned (OpenSpec.upto fnExactDrivenSpec)

/-- 'laws.FnExactStretched', WHERE WHAT IT READS IS OF BULK AT MOST 1048576: true; the input reads as it did. -/
def fnExactStretchedUptoRow : OpenClaim := { program := "ytnamdbnnijfniaa", sum := "d1b557cb8c6762998126e9d2fccfcbb0d75a65a533755f88fa2c0380d8a37b09", func := "loop.example/g00075/laws.FnExactStretched", spec := "fnExactStretched", apart := false, narrowed := true }
def FnExactStretchedUptoSaid : Prop := fnExactStretchedUptoRow.holds Try.pinned (OpenSpec.upto fnExactStretchedSpec)

/-- 'laws.FnExactDutyCode', WHERE WHAT IT READS IS OF BULK AT MOST 1048576: true; the input reads as it did. -/
def fnExactDutyCodeUptoRow : OpenClaim := { program := "ytnamdbnnijfniaa", sum := "d1b557cb8c6762998126e9d2fccfcbb0d75a65a533755f88fa2c0380d8a37b09", func := "loop.example/g00075/laws.FnExactDutyCode", spec := "fnExactDutyCode", apart := false, narrowed := true }
def FnExactDutyCodeUptoSaid : Prop := fnExactDutyCodeUptoRow.holds Try.pinned (OpenSpec.upto fnExactDutyCodeSpec)

/-- 'laws.FnDuty', WHERE WHAT IT READS IS OF BULK AT MOST 1048576: true; the input reads as it did. -/
def fnDutyUptoRow : OpenClaim := { program := "ytnamdbnnijfniaa", sum := "d1b557cb8c6762998126e9d2fccfcbb0d75a65a533755f88fa2c0380d8a37b09", func := "loop.example/g00075/laws.FnDuty", spec := "fnDuty", apart := false, narrowed := true }
def FnDutyUptoSaid : Prop := fnDutyUptoRow.holds Try.pinned (OpenSpec.upto fnDutySpec)

/-- 'laws.FnExactWage', WHERE WHAT IT READS IS OF BULK AT MOST 1048576: true; the input reads as it did. -/
def fnExactWageUptoRow : OpenClaim := { program := "ytnamdbnnijfniaa", sum := "d1b557cb8c6762998126e9d2fccfcbb0d75a65a533755f88fa2c0380d8a37b09", func := "loop.example/g00075/laws.FnExactWage", spec := "fnExactWage", apart := false, narrowed := true }
def FnExactWageUptoSaid : Prop := fnExactWageUptoRow.holds Try.pinned (OpenSpec.upto fnExactWageSpec)

/-- 'laws.FnRelieve', WHERE WHAT IT READS IS OF BULK AT MOST 1048576: true; the input reads as it did. -/
def fnRelieveUptoRow : OpenClaim := { program := "ytnamdbnnijfniaa", sum := "d1b557cb8c6762998126e9d2fccfcbb0d75a65a533755f88fa2c0380d8a37b09", func := "loop.example/g00075/laws.FnRelieve", spec := "fnRelieve", apart := false, narrowed := true }
def FnRelieveUptoSaid : Prop := fnRelieveUptoRow.holds Try.pinned (OpenSpec.upto fnRelieveSpec)

end Rows
end Go.Proofs.Ytnamdbnnijfniaa
