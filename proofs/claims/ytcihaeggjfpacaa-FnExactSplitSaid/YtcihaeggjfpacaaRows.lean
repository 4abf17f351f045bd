/-
  No cell of these rows narrows 'for every input' (looked for: loops, veiled, ifaces, maps, wideKeys, modest, calm, conditions, laid).
  DERIVED. THE GIVEN ROWS OF THIS SEAT. 9 by the template 'for every input the law returns true; each argument reads behind the call as it read before'; 0 by the template 'total and deterministic' (their statements: YtcihaeggjfpacaaTotals.lean).
  GIVEN WITH THE SEED: the statements are not yours to turn. If you find one false, say at which input.
  Laid BY PROGRAM, IN A SANDBOX (cutbox-rows.mjs): the forced cells as the released guide's own fill.sh prints them over the translation abeafc803f3b2a67… (all of the seat's roots in one cut). By AI agents, Wed Nov 11 2026. No macro, syntax, notation, axiom, sorry.
-/
import Derived.Test.YtcihaeggjfpacaaChecked
import GoSem.Claim
import GoSem.ClaimJoined
import GoSem.ClaimMapViews
import Derived.JoinedTies
import Derived.KernelRfl
namespace Go.Proofs.Ytcihaeggjfpacaa
/- THE CELL 'sum', in the pinned program and in every row, IS THE sha256 OF THE DUMP (.gsa) THAT YtcihaeggjfpacaaProg.lean LOADS. Nothing in Lean hashes anything: it is a label: what it is worth is what the hold of that sum in a sandbox is worth. -/
noncomputable def Try.pinned : Pinned := { name := "ytcihaeggjfpacaa", sum := "abeafc803f3b2a6716d26f3fc5741464b1233882e7ec45f475d8899cfd1a54fb", checked := Try.checked }
namespace Rows
def none {H : Type} : Left H := { results := [], args := [] }

/-- 'laws.FnExactCardsOk': WHATEVER THE INPUT: true; the input reads as it did. -/
def fnExactCardsOkSpec : ChangeSpec := { name := "fnExactCardsOk", fn := fun _ => fun
  | [d] => { results := [.lit (.bool true)], args := [d] }
  | _ => none }
def fnExactCardsOkRow : OpenClaim := { program := "ytcihaeggjfpacaa", sum := "abeafc803f3b2a6716d26f3fc5741464b1233882e7ec45f475d8899cfd1a54fb", func := "loop.example/g00075/laws.FnExactCardsOk", spec := "fnExactCardsOk", apart := false }
def FnExactCardsOkSaid : Prop := fnExactCardsOkRow.holds Try.pinned (OpenSpec.ofChange fnExactCardsOkSpec)

/-- ITS FALSE NEIGHBOUR: 'it returns false'. Refute it at one input. -/
def fnExactCardsOkWrong : ChangeSpec := { name := "fnExactCardsOk", fn := fun _ => fun
  | [d] => { results := [.lit (.bool false)], args := [d] }
  | _ => none }
def FnExactCardsOkWrongFalsely : Prop := fnExactCardsOkRow.holds Try.pinned (OpenSpec.ofChange fnExactCardsOkWrong)

/-- 'laws.FnExactTariffOk': WHATEVER THE INPUT: true; the input reads as it did. -/
def fnExactTariffOkSpec : ChangeSpec := { name := "fnExactTariffOk", fn := fun _ => fun
  | [d] => { results := [.lit (.bool true)], args := [d] }
  | _ => none }
def fnExactTariffOkRow : OpenClaim := { program := "ytcihaeggjfpacaa", sum := "abeafc803f3b2a6716d26f3fc5741464b1233882e7ec45f475d8899cfd1a54fb", func := "loop.example/g00075/laws.FnExactTariffOk", spec := "fnExactTariffOk", apart := false }
def FnExactTariffOkSaid : Prop := fnExactTariffOkRow.holds Try.pinned (OpenSpec.ofChange fnExactTariffOkSpec)

/-- ITS FALSE NEIGHBOUR: 'it returns false'. Refute it at one input. -/
def fnExactTariffOkWrong : ChangeSpec := { name := "fnExactTariffOk", fn := fun _ => fun
  | [d] => { results := [.lit (.bool false)], args := [d] }
  | _ => none }
def FnExactTariffOkWrongFalsely : Prop := fnExactTariffOkRow.holds Try.pinned (OpenSpec.ofChange fnExactTariffOkWrong)

/-- 'laws.FnExactRefund': WHATEVER THE INPUT: true; the input reads as it did. -/
def fnExactRefundSpec : ChangeSpec := { name := "fnExactRefund", fn := fun _ => fun
  | [d1, d2, d3] => { results := [.lit (.bool true)], args := [d1, d2, d3] }
  | _ => none }
def fnExactRefundRow : OpenClaim := { program := "ytcihaeggjfpacaa", sum := "abeafc803f3b2a6716d26f3fc5741464b1233882e7ec45f475d8899cfd1a54fb", func := "loop.example/g00075/laws.FnExactRefund", spec := "fnExactRefund", apart := false }
def FnExactRefundSaid : Prop := fnExactRefundRow.holds Try.pinned (OpenSpec.ofChange fnExactRefundSpec)

/-- ITS FALSE NEIGHBOUR: 'it returns false'. Refute it at one input. -/
def fnExactRefundWrong : ChangeSpec := { name := "fnExactRefund", fn := fun _ => fun
  | [d1, d2, d3] => { results := [.lit (.bool false)], args := [d1, d2, d3] }
  | _ => none }
def FnExactRefundWrongFalsely : Prop := fnExactRefundRow.holds Try.pinned (OpenSpec.ofChange fnExactRefundWrong)

/-- 'laws.FnExactFare': WHATEVER THE INPUT: true; the input reads as it did. -/
def fnExactFareSpec : ChangeSpec := { name := "fnExactFare", fn := fun _ => fun
  | [d1, d2, d3] => { results := [.lit (.bool true)], args := [d1, d2, d3] }
  | _ => none }
def fnExactFareRow : OpenClaim := { program := "ytcihaeggjfpacaa", sum := "abeafc803f3b2a6716d26f3fc5741464b1233882e7ec45f475d8899cfd1a54fb", func := "loop.example/g00075/laws.FnExactFare", spec := "fnExactFare", apart := false }
def FnExactFareSaid : Prop := fnExactFareRow.holds Try.pinned (OpenSpec.ofChange fnExactFareSpec)

/-- ITS FALSE NEIGHBOUR: 'it returns false'. Refute it at one input. -/
def fnExactFareWrong : ChangeSpec := { name := "fnExactFare", fn := fun _ => fun
  | [d1, d2, d3] => { results := [.lit (.bool false)], args := [d1, d2, d3] }
  | _ => none }
def FnExactFareWrongFalsely : Prop := fnExactFareRow.holds Try.pinned (OpenSpec.ofChange fnExactFareWrong)

/-- 'laws.FnFares': WHATEVER THE INPUT: true; the input reads as it did. -/
def fnFaresSpec : ChangeSpec := { name := "fnFares", fn := fun _ => fun
  | [d] => { results := [.lit (.bool true)], args := [d] }
  | _ => none }
def fnFaresRow : OpenClaim := { program := "ytcihaeggjfpacaa", sum := "abeafc803f3b2a6716d26f3fc5741464b1233882e7ec45f475d8899cfd1a54fb", func := "loop.example/g00075/laws.FnFares", spec := "fnFares", apart := false }
def FnFaresSaid : Prop := fnFaresRow.holds Try.pinned (OpenSpec.ofChange fnFaresSpec)

/-- ITS FALSE NEIGHBOUR: 'it returns false'. Refute it at one input. -/
def fnFaresWrong : ChangeSpec := { name := "fnFares", fn := fun _ => fun
  | [d] => { results := [.lit (.bool false)], args := [d] }
  | _ => none }
def FnFaresWrongFalsely : Prop := fnFaresRow.holds Try.pinned (OpenSpec.ofChange fnFaresWrong)

/-- 'laws.FnExactCarded': WHATEVER THE INPUT: true; the input reads as it did. -/
def fnExactCardedSpec : ChangeSpec := { name := "fnExactCarded", fn := fun _ => fun
  | [d1, d2, d3, d4] => { results := [.lit (.bool true)], args := [d1, d2, d3, d4] }
  | _ => none }
def fnExactCardedRow : OpenClaim := { program := "ytcihaeggjfpacaa", sum := "abeafc803f3b2a6716d26f3fc5741464b1233882e7ec45f475d8899cfd1a54fb", func := "loop.example/g00075/laws.FnExactCarded", spec := "fnExactCarded", apart := false }
def FnExactCardedSaid : Prop := fnExactCardedRow.holds Try.pinned (OpenSpec.ofChange fnExactCardedSpec)

/-- ITS FALSE NEIGHBOUR: 'it returns false'. Refute it at one input. -/
def fnExactCardedWrong : ChangeSpec := { name := "fnExactCarded", fn := fun _ => fun
  | [d1, d2, d3, d4] => { results := [.lit (.bool false)], args := [d1, d2, d3, d4] }
  | _ => none }
def FnExactCardedWrongFalsely : Prop := fnExactCardedRow.holds Try.pinned (OpenSpec.ofChange fnExactCardedWrong)

/-- 'laws.FnExactThrough': WHATEVER THE INPUT: true; the input reads as it did. -/
def fnExactThroughSpec : ChangeSpec := { name := "fnExactThrough", fn := fun _ => fun
  | [d1, d2, d3, d4] => { results := [.lit (.bool true)], args := [d1, d2, d3, d4] }
  | _ => none }
def fnExactThroughRow : OpenClaim := { program := "ytcihaeggjfpacaa", sum := "abeafc803f3b2a6716d26f3fc5741464b1233882e7ec45f475d8899cfd1a54fb", func := "loop.example/g00075/laws.FnExactThrough", spec := "fnExactThrough", apart := false }
def FnExactThroughSaid : Prop := fnExactThroughRow.holds Try.pinned (OpenSpec.ofChange fnExactThroughSpec)

/-- ITS FALSE NEIGHBOUR: 'it returns false'. Refute it at one input. -/
def fnExactThroughWrong : ChangeSpec := { name := "fnExactThrough", fn := fun _ => fun
  | [d1, d2, d3, d4] => { results := [.lit (.bool false)], args := [d1, d2, d3, d4] }
  | _ => none }
def FnExactThroughWrongFalsely : Prop := fnExactThroughRow.holds Try.pinned (OpenSpec.ofChange fnExactThroughWrong)

/-- 'laws.FnSplit': WHATEVER THE INPUT: true; the input reads as it did. -/
def fnSplitSpec : ChangeSpec := { name := "fnSplit", fn := fun _ => fun
  | [d] => { results := [.lit (.bool true)], args := [d] }
  | _ => none }
def fnSplitRow : OpenClaim := { program := "ytcihaeggjfpacaa", sum := "abeafc803f3b2a6716d26f3fc5741464b1233882e7ec45f475d8899cfd1a54fb", func := "loop.example/g00075/laws.FnSplit", spec := "fnSplit", apart := false }
def FnSplitSaid : Prop := fnSplitRow.holds Try.pinned (OpenSpec.ofChange fnSplitSpec)

/-- ITS FALSE NEIGHBOUR: 'it returns false'. Refute it at one input. -/
def fnSplitWrong : ChangeSpec := { name := "fnSplit", fn := fun _ => fun
  | [d] => { results := [.lit (.bool false)], args := [d] }
  | _ => none }
def FnSplitWrongFalsely : Prop := fnSplitRow.holds Try.pinned (OpenSpec.ofChange fnSplitWrong)

/-- 'laws.FnExactSplit': WHATEVER THE INPUT: true; the input reads as it did. -/
def fnExactSplitSpec : ChangeSpec := { name := "fnExactSplit", fn := fun _ => fun
  | [d1, d2, d3, d4] => { results := [.lit (.bool true)], args := [d1, d2, d3, d4] }
  | _ => none }
def fnExactSplitRow : OpenClaim := { program := "ytcihaeggjfpacaa", sum := "abeafc803f3b2a6716d26f3fc5741464b1233882e7ec45f475d8899cfd1a54fb", func := "loop.example/g00075/laws.FnExactSplit", spec := "fnExactSplit", apart := false }
def FnExactSplitSaid : Prop := fnExactSplitRow.holds Try.pinned (OpenSpec.ofChange fnExactSplitSpec)

/-- ITS FALSE NEIGHBOUR: 'it returns false'. Refute it at one input. -/
def fnExactSplitWrong : ChangeSpec := { name := "fnExactSplit", fn := fun _ => fun
  | [d1, d2, d3, d4] => { results := [.lit (.bool false)], args := [d1, d2, d3, d4] }
  | _ => none }
def FnExactSplitWrongFalsely : Prop := fnExactSplitRow.holds Try.pinned (OpenSpec.ofChange fnExactSplitWrong)

/- THE SECOND FORM. 'bulk': how many values and letters a reading holds, each counted each time it is reached (what is shared counts as often as it is met; a slice's spare places count too). A statement '..UptoSaid' is the law's where the arguments, and the package variables that the reading takes, are together of bulk at most 1048576: NARROWER than '..Said'. Prove '..Said' where nothing that the law and all that it calls make is longer than what came in: it says more and counts as full. Else prove '..UptoSaid'. A law counts once. -/
mutual
def uptoBulk {H : Type} : DataW H → Nat
  | .lit (.string bytes) => bytes.length + 1
  | .lit _ => 1
  | .nil => 1
  | .ptr d => uptoBulk d + 1
  | .slice elems spare => uptoBulkAll elems + uptoBulkAll spare + 1
  | .agg parts => uptoBulkAll parts + 1
  | .iface _ d => uptoBulk d + 1
  | .map entries => uptoBulkEntries entries + 1
  | .held _ => 1
def uptoBulkAll {H : Type} : List (DataW H) → Nat
  | [] => 0
  | d :: r => uptoBulk d + uptoBulkAll r
def uptoBulkEntries {H : Type} : List (Lit × DataW H) → Nat
  | [] => 0
  | x :: r => uptoBulkEntry x + uptoBulkEntries r
def uptoBulkEntry {H : Type} : Lit × DataW H → Nat
  | (.string bytes, d) => bytes.length + uptoBulk d + 1
  | (_, d) => uptoBulk d + 1
 end
def uptoSmall : (H : Type) → List (DataW H) → Bool := fun _ ds => decide (uptoBulkAll ds ≤ 1048576)
def OpenSpec.upto (s : _root_.Go.ChangeSpec) : _root_.Go.OpenSpec := { _root_.Go.OpenSpec.ofChange s with cond := some uptoSmall }

/-- 'laws.FnExactCardsOk', WHERE WHAT IT READS IS OF BULK AT MOST 1048576: true; the input reads as it did. -/
def fnExactCardsOkUptoRow : OpenClaim := { program := "ytcihaeggjfpacaa", sum := "abeafc803f3b2a6716d26f3fc5741464b1233882e7ec45f475d8899cfd1a54fb", func := "loop.example/g00075/laws.FnExactCardsOk", spec := "fnExactCardsOk", apart := false, narrowed := true }
def FnExactCardsOkUptoSaid : Prop := fnExactCardsOkUptoRow.holds Try.pinned (OpenSpec.upto fnExactCardsOkSpec)

/-- 'laws.FnExactTariffOk', WHERE WHAT IT READS IS OF BULK AT MOST 1048576: true; the input reads as it did. -/
def fnExactTariffOkUptoRow : OpenClaim := { program := "ytcihaeggjfpacaa", sum := "abeafc803f3b2a6716d26f3fc5741464b1233882e7ec45f475d8899cfd1a54fb", func := "loop.example/g00075/laws.FnExactTariffOk", spec := "fnExactTariffOk", apart := false, narrowed := true }
def FnExactTariffOkUptoSaid : Prop := fnExactTariffOkUptoRow.holds Try.pinned (OpenSpec.upto fnExactTariffOkSpec)

/-- 'laws.FnExactRefund', WHERE WHAT IT READS IS OF BULK AT MOST 1048576: true; the input reads as it did. -/
def fnExactRefundUptoRow : OpenClaim := { program := "ytcihaeggjfpacaa", sum := "abeafc803f3b2a6716d26f3fc5741464b1233882e7ec45f475d8899cfd1a54fb", func := "loop.example/g00075/laws.FnExactRefund", spec := "fnExactRefund", apart := false, narrowed := true }
def FnExactRefundUptoSaid : Prop := fnExactRefundUptoRow.holds Try.pinned (OpenSpec.upto fnExactRefundSpec)

/-- 'laws.FnExactFare', WHERE WHAT IT READS IS OF BULK AT MOST 1048576: true; the input reads as it did. -/
def fnExactFareUptoRow : OpenClaim := { program := "ytcihaeggjfpacaa", sum := "abeafc803f3b2a6716d26f3fc5741464b1233882e7ec45f475d8899cfd1a54fb", func := "loop.example/g00075/laws.FnExactFare", spec := "fnExactFare", apart := false, narrowed := true }
def FnExactFareUptoSaid : Prop := fnExactFareUptoRow.holds Try.pinned (OpenSpec.upto fnExactFareSpec)

/-- 'laws.FnFares', WHERE WHAT IT READS IS OF BULK AT MOST 1048576: true; the input reads as it did. -/
def fnFaresUptoRow : OpenClaim := { program := "ytcihaeggjfpacaa", sum := "abeafc803f3b2a6716d26f3fc5741464b1233882e7ec45f475d8899cfd1a54fb", func := "loop.example/g00075/laws.FnFares", spec := "fnFares", apart := false, narrowed := true }
def FnFaresUptoSaid : Prop := fnFaresUptoRow.holds Try.pinned (OpenSpec.upto fnFaresSpec)

/-- 'laws.FnExactCarded', WHERE WHAT IT READS IS OF BULK AT MOST 1048576: true; the input reads as it did. -/
def fnExactCardedUptoRow : OpenClaim := { program := "ytcihaeggjfpacaa", sum := "abeafc803f3b2a6716d26f3fc5741464b1233882e7ec45f475d8899cfd1a54fb", func := "loop.example/g00075/laws.FnExactCarded", spec := "fnExactCarded", apart := false, narrowed := true }
def FnExactCardedUptoSaid : Prop := fnExactCardedUptoRow.holds Try.pinned (OpenSpec.upto fnExactCardedSpec)

/-- 'laws.FnExactThrough', WHERE WHAT IT READS IS OF BULK AT MOST 1048576: true; the input reads as it did. -/
def fnExactThroughUptoRow : OpenClaim := { program := "ytcihaeggjfpacaa", sum := "abeafc803f3b2a6716d26f3fc5741464b1233882e7ec45f475d8899cfd1a54fb", func := "loop.example/g00075/laws.FnExactThrough", spec := "fnExactThrough", apart := false, narrowed := true }
def FnExactThroughUptoSaid : Prop := fnExactThroughUptoRow.holds Try.pinned (OpenSpec.upto fnExactThroughSpec)

/-- 'laws.FnSplit', WHERE WHAT IT READS IS OF BULK AT MOST 1048576: true; the input reads as it did. -/
def fnSplitUptoRow : OpenClaim := { program := "ytcihaeggjfpacaa", sum := "abeafc803f3b2a6716d26f3fc5741464b1233882e7ec45f475d8899cfd1a54fb", func := "loop.example/g00075/laws.FnSplit", spec := "fnSplit", apart := false, narrowed := true }
def FnSplitUptoSaid : Prop := fnSplitUptoRow.holds Try.pinned (OpenSpec.upto fnSplitSpec)

/-- 'laws.FnExactSplit', WHERE WHAT IT READS IS OF BULK AT MOST 1048576: true; the input reads as it did. -/
def fnExactSplitUptoRow : OpenClaim := { program := "ytcihaeggjfpacaa", sum := "abeafc803f3b2a6716d26f3fc5741464b1233882e7ec45f475d8899cfd1a54fb", func := "loop.example/g00075/laws.FnExactSplit", spec := "fnExactSplit", apart := false, narrowed := true }
def FnExactSplitUptoSaid : Prop := fnExactSplitUptoRow.holds Try.pinned (OpenSpec.upto fnExactSplitSpec)

end Rows
end Go.Proofs.Ytcihaeggjfpacaa
