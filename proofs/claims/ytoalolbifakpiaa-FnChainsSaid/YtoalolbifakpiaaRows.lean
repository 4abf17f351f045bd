/-
  No cell of these rows narrows 'for every input' (looked for: loops, veiled, ifaces, maps, wideKeys, modest, calm, conditions, laid).
  DERIVED. THE GIVEN ROWS OF THIS SEAT. 13 by the template 'for every input the law returns true; each argument reads behind the call as it read before'; 0 by the template 'total and deterministic' (their statements: YtoalolbifakpiaaTotals.lean).
  GIVEN WITH THE SEED: the statements are not yours to turn. If you find one false, say at which input.
  Laid BY PROGRAM, IN A SANDBOX (cutbox-rows.mjs): the forced cells as the released guide's own fill.sh prints them over the translation 0746978f7360f650… (all of the seat's roots in one cut). By AI agents, Wed Nov 11 2026. No macro, syntax, notation, axiom, sorry.
-/
import Derived.Test.YtoalolbifakpiaaChecked
import GoSem.Claim
import GoSem.ClaimJoined
import GoSem.ClaimMapViews
import Derived.JoinedTies
import Derived.KernelRfl
namespace Go.Proofs.Ytoalolbifakpiaa
/- THE CELL 'sum', in the pinned program and in every row, IS THE sha256 OF THE DUMP (.gsa) THAT YtoalolbifakpiaaProg.lean LOADS. Nothing in Lean hashes anything: it is a label: what it is worth is what the hold of that sum in a sandbox is worth. -/
noncomputable def Try.pinned : Pinned := { name := "ytoalolbifakpiaa", sum := "0746978f7360f650388b833ddaf410a623368404909ee028d4ab2b292469c238", checked := Try.checked }
namespace Rows
def none {H : Type} : Left H := { results := [], args := [] }

/-- 'laws.FnExactFollows': WHATEVER THE INPUT: true; the input reads as it did. -/
def fnExactFollowsSpec : ChangeSpec := { name := "fnExactFollows", fn := fun _ => fun
  | [d1, d2, d3] => { results := [.lit (.bool true)], args := [d1, d2, d3] }
  | _ => none }
def fnExactFollowsRow : OpenClaim := { program := "ytoalolbifakpiaa", sum := "0746978f7360f650388b833ddaf410a623368404909ee028d4ab2b292469c238", func := "loop.example/g00075/laws.FnExactFollows", spec := "fnExactFollows", apart := false }
def FnExactFollowsSaid : Prop := fnExactFollowsRow.holds Try.pinned (OpenSpec.ofChange fnExactFollowsSpec)

/-- ITS FALSE NEIGHBOUR: 'it returns false'. Refute it at one input. -/
def fnExactFollowsWrong : ChangeSpec := { name := "fnExactFollows", fn := fun _ => fun
  | [d1, d2, d3] => { results := [.lit (.bool false)], args := [d1, d2, d3] }
  | _ => none }
def FnExactFollowsWrongFalsely : Prop := fnExactFollowsRow.holds Try.pinned (OpenSpec.ofChange fnExactFollowsWrong)

/-- 'laws.FnExactTasksOk': WHATEVER THE INPUT: true; the input reads as it did. -/
def fnExactTasksOkSpec : ChangeSpec := { name := "fnExactTasksOk", fn := fun _ => fun
  | [d] => { results := [.lit (.bool true)], args := [d] }
  | _ => none }
def fnExactTasksOkRow : OpenClaim := { program := "ytoalolbifakpiaa", sum := "0746978f7360f650388b833ddaf410a623368404909ee028d4ab2b292469c238", func := "loop.example/g00075/laws.FnExactTasksOk", spec := "fnExactTasksOk", apart := false }
def FnExactTasksOkSaid : Prop := fnExactTasksOkRow.holds Try.pinned (OpenSpec.ofChange fnExactTasksOkSpec)

/-- ITS FALSE NEIGHBOUR: 'it returns false'. Refute it at one input. -/
def fnExactTasksOkWrong : ChangeSpec := { name := "fnExactTasksOk", fn := fun _ => fun
  | [d] => { results := [.lit (.bool false)], args := [d] }
  | _ => none }
def FnExactTasksOkWrongFalsely : Prop := fnExactTasksOkRow.holds Try.pinned (OpenSpec.ofChange fnExactTasksOkWrong)

/-- 'laws.FnChains': WHATEVER THE INPUT: true; the input reads as it did. -/
def fnChainsSpec : ChangeSpec := { name := "fnChains", fn := fun _ => fun
  | [d] => { results := [.lit (.bool true)], args := [d] }
  | _ => none }
def fnChainsRow : OpenClaim := { program := "ytoalolbifakpiaa", sum := "0746978f7360f650388b833ddaf410a623368404909ee028d4ab2b292469c238", func := "loop.example/g00075/laws.FnChains", spec := "fnChains", unfollowed := true, recurses := true, apart := false }
def FnChainsSaid : Prop := fnChainsRow.holds Try.pinned (OpenSpec.ofChange fnChainsSpec)

/-- ITS FALSE NEIGHBOUR: 'it returns false'. Refute it at one input. -/
def fnChainsWrong : ChangeSpec := { name := "fnChains", fn := fun _ => fun
  | [d] => { results := [.lit (.bool false)], args := [d] }
  | _ => none }
def FnChainsWrongFalsely : Prop := fnChainsRow.holds Try.pinned (OpenSpec.ofChange fnChainsWrong)

/-- 'laws.FnExactBalanced': WHATEVER THE INPUT: true; the input reads as it did. -/
def fnExactBalancedSpec : ChangeSpec := { name := "fnExactBalanced", fn := fun _ => fun
  | [d] => { results := [.lit (.bool true)], args := [d] }
  | _ => none }
def fnExactBalancedRow : OpenClaim := { program := "ytoalolbifakpiaa", sum := "0746978f7360f650388b833ddaf410a623368404909ee028d4ab2b292469c238", func := "loop.example/g00075/laws.FnExactBalanced", spec := "fnExactBalanced", apart := false }
def FnExactBalancedSaid : Prop := fnExactBalancedRow.holds Try.pinned (OpenSpec.ofChange fnExactBalancedSpec)

/-- ITS FALSE NEIGHBOUR: 'it returns false'. Refute it at one input. -/
def fnExactBalancedWrong : ChangeSpec := { name := "fnExactBalanced", fn := fun _ => fun
  | [d] => { results := [.lit (.bool false)], args := [d] }
  | _ => none }
def FnExactBalancedWrongFalsely : Prop := fnExactBalancedRow.holds Try.pinned (OpenSpec.ofChange fnExactBalancedWrong)

/-- 'laws.FnFleet': WHATEVER THE INPUT: true; the input reads as it did. -/
def fnFleetSpec : ChangeSpec := { name := "fnFleet", fn := fun _ => fun
  | [d] => { results := [.lit (.bool true)], args := [d] }
  | _ => none }
def fnFleetRow : OpenClaim := { program := "ytoalolbifakpiaa", sum := "0746978f7360f650388b833ddaf410a623368404909ee028d4ab2b292469c238", func := "loop.example/g00075/laws.FnFleet", spec := "fnFleet", recurses := true, apart := false }
def FnFleetSaid : Prop := fnFleetRow.holds Try.pinned (OpenSpec.ofChange fnFleetSpec)

/-- ITS FALSE NEIGHBOUR: 'it returns false'. Refute it at one input. -/
def fnFleetWrong : ChangeSpec := { name := "fnFleet", fn := fun _ => fun
  | [d] => { results := [.lit (.bool false)], args := [d] }
  | _ => none }
def FnFleetWrongFalsely : Prop := fnFleetRow.holds Try.pinned (OpenSpec.ofChange fnFleetWrong)

/-- 'laws.FnExactFleet': WHATEVER THE INPUT: true; the input reads as it did. -/
def fnExactFleetSpec : ChangeSpec := { name := "fnExactFleet", fn := fun _ => fun
  | [d1, d2] => { results := [.lit (.bool true)], args := [d1, d2] }
  | _ => none }
def fnExactFleetRow : OpenClaim := { program := "ytoalolbifakpiaa", sum := "0746978f7360f650388b833ddaf410a623368404909ee028d4ab2b292469c238", func := "loop.example/g00075/laws.FnExactFleet", spec := "fnExactFleet", recurses := true, apart := false }
def FnExactFleetSaid : Prop := fnExactFleetRow.holds Try.pinned (OpenSpec.ofChange fnExactFleetSpec)

/-- ITS FALSE NEIGHBOUR: 'it returns false'. Refute it at one input. -/
def fnExactFleetWrong : ChangeSpec := { name := "fnExactFleet", fn := fun _ => fun
  | [d1, d2] => { results := [.lit (.bool false)], args := [d1, d2] }
  | _ => none }
def FnExactFleetWrongFalsely : Prop := fnExactFleetRow.holds Try.pinned (OpenSpec.ofChange fnExactFleetWrong)

/-- 'laws.FnExactChainOk': WHATEVER THE INPUT: true; the input reads as it did. -/
def fnExactChainOkSpec : ChangeSpec := { name := "fnExactChainOk", fn := fun _ => fun
  | [d1, d2, d3] => { results := [.lit (.bool true)], args := [d1, d2, d3] }
  | _ => none }
def fnExactChainOkRow : OpenClaim := { program := "ytoalolbifakpiaa", sum := "0746978f7360f650388b833ddaf410a623368404909ee028d4ab2b292469c238", func := "loop.example/g00075/laws.FnExactChainOk", spec := "fnExactChainOk", unfollowed := true, recurses := true, apart := false }
def FnExactChainOkSaid : Prop := fnExactChainOkRow.holds Try.pinned (OpenSpec.ofChange fnExactChainOkSpec)

/-- ITS FALSE NEIGHBOUR: 'it returns false'. Refute it at one input. -/
def fnExactChainOkWrong : ChangeSpec := { name := "fnExactChainOk", fn := fun _ => fun
  | [d1, d2, d3] => { results := [.lit (.bool false)], args := [d1, d2, d3] }
  | _ => none }
def FnExactChainOkWrongFalsely : Prop := fnExactChainOkRow.holds Try.pinned (OpenSpec.ofChange fnExactChainOkWrong)

/-- 'laws.FnOvernight': WHATEVER THE INPUT: true; the input reads as it did. -/
def fnOvernightSpec : ChangeSpec := { name := "fnOvernight", fn := fun _ => fun
  | [d] => { results := [.lit (.bool true)], args := [d] }
  | _ => none }
def fnOvernightRow : OpenClaim := { program := "ytoalolbifakpiaa", sum := "0746978f7360f650388b833ddaf410a623368404909ee028d4ab2b292469c238", func := "loop.example/g00075/laws.FnOvernight", spec := "fnOvernight", unfollowed := true, recurses := true, apart := false }
def FnOvernightSaid : Prop := fnOvernightRow.holds Try.pinned (OpenSpec.ofChange fnOvernightSpec)

/-- ITS FALSE NEIGHBOUR: 'it returns false'. Refute it at one input. -/
def fnOvernightWrong : ChangeSpec := { name := "fnOvernight", fn := fun _ => fun
  | [d] => { results := [.lit (.bool false)], args := [d] }
  | _ => none }
def FnOvernightWrongFalsely : Prop := fnOvernightRow.holds Try.pinned (OpenSpec.ofChange fnOvernightWrong)

/-- 'laws.FnExactChains': WHATEVER THE INPUT: true; the input reads as it did. -/
def fnExactChainsSpec : ChangeSpec := { name := "fnExactChains", fn := fun _ => fun
  | [d1, d2] => { results := [.lit (.bool true)], args := [d1, d2] }
  | _ => none }
def fnExactChainsRow : OpenClaim := { program := "ytoalolbifakpiaa", sum := "0746978f7360f650388b833ddaf410a623368404909ee028d4ab2b292469c238", func := "loop.example/g00075/laws.FnExactChains", spec := "fnExactChains", unfollowed := true, recurses := true, apart := false }
def FnExactChainsSaid : Prop := fnExactChainsRow.holds Try.pinned (OpenSpec.ofChange fnExactChainsSpec)

/-- ITS FALSE NEIGHBOUR: 'it returns false'. Refute it at one input. -/
def fnExactChainsWrong : ChangeSpec := { name := "fnExactChains", fn := fun _ => fun
  | [d1, d2] => { results := [.lit (.bool false)], args := [d1, d2] }
  | _ => none }
def FnExactChainsWrongFalsely : Prop := fnExactChainsRow.holds Try.pinned (OpenSpec.ofChange fnExactChainsWrong)

/-- 'laws.FnExactMileage': WHATEVER THE INPUT: true; the input reads as it did. -/
def fnExactMileageSpec : ChangeSpec := { name := "fnExactMileage", fn := fun _ => fun
  | [d1, d2] => { results := [.lit (.bool true)], args := [d1, d2] }
  | _ => none }
def fnExactMileageRow : OpenClaim := { program := "ytoalolbifakpiaa", sum := "0746978f7360f650388b833ddaf410a623368404909ee028d4ab2b292469c238", func := "loop.example/g00075/laws.FnExactMileage", spec := "fnExactMileage", unfollowed := true, recurses := true, apart := false }
def FnExactMileageSaid : Prop := fnExactMileageRow.holds Try.pinned (OpenSpec.ofChange fnExactMileageSpec)

/-- ITS FALSE NEIGHBOUR: 'it returns false'. Refute it at one input. -/
def fnExactMileageWrong : ChangeSpec := { name := "fnExactMileage", fn := fun _ => fun
  | [d1, d2] => { results := [.lit (.bool false)], args := [d1, d2] }
  | _ => none }
def FnExactMileageWrongFalsely : Prop := fnExactMileageRow.holds Try.pinned (OpenSpec.ofChange fnExactMileageWrong)

/-- 'laws.FnExactNight': WHATEVER THE INPUT: true; the input reads as it did. -/
def fnExactNightSpec : ChangeSpec := { name := "fnExactNight", fn := fun _ => fun
  | [d1, d2] => { results := [.lit (.bool true)], args := [d1, d2] }
  | _ => none }
def fnExactNightRow : OpenClaim := { program := "ytoalolbifakpiaa", sum := "0746978f7360f650388b833ddaf410a623368404909ee028d4ab2b292469c238", func := "loop.example/g00075/laws.FnExactNight", spec := "fnExactNight", unfollowed := true, recurses := true, apart := false }
def FnExactNightSaid : Prop := fnExactNightRow.holds Try.pinned (OpenSpec.ofChange fnExactNightSpec)

/-- ITS FALSE NEIGHBOUR: 'it returns false'. Refute it at one input. -/
def fnExactNightWrong : ChangeSpec := { name := "fnExactNight", fn := fun _ => fun
  | [d1, d2] => { results := [.lit (.bool false)], args := [d1, d2] }
  | _ => none }
def FnExactNightWrongFalsely : Prop := fnExactNightRow.holds Try.pinned (OpenSpec.ofChange fnExactNightWrong)

/-- 'laws.FnExactDue': WHATEVER THE INPUT: true; the input reads as it did. -/
def fnExactDueSpec : ChangeSpec := { name := "fnExactDue", fn := fun _ => fun
  | [d1, d2, d3] => { results := [.lit (.bool true)], args := [d1, d2, d3] }
  | _ => none }
def fnExactDueRow : OpenClaim := { program := "ytoalolbifakpiaa", sum := "0746978f7360f650388b833ddaf410a623368404909ee028d4ab2b292469c238", func := "loop.example/g00075/laws.FnExactDue", spec := "fnExactDue", unfollowed := true, recurses := true, apart := false }
def FnExactDueSaid : Prop := fnExactDueRow.holds Try.pinned (OpenSpec.ofChange fnExactDueSpec)

/-- ITS FALSE NEIGHBOUR: 'it returns false'. Refute it at one input. -/
def fnExactDueWrong : ChangeSpec := { name := "fnExactDue", fn := fun _ => fun
  | [d1, d2, d3] => { results := [.lit (.bool false)], args := [d1, d2, d3] }
  | _ => none }
def FnExactDueWrongFalsely : Prop := fnExactDueRow.holds Try.pinned (OpenSpec.ofChange fnExactDueWrong)

/-- 'laws.FnDue': WHATEVER THE INPUT: true; the input reads as it did. -/
def fnDueSpec : ChangeSpec := { name := "fnDue", fn := fun _ => fun
  | [d] => { results := [.lit (.bool true)], args := [d] }
  | _ => none }
def fnDueRow : OpenClaim := { program := "ytoalolbifakpiaa", sum := "0746978f7360f650388b833ddaf410a623368404909ee028d4ab2b292469c238", func := "loop.example/g00075/laws.FnDue", spec := "fnDue", unfollowed := true, recurses := true, apart := false }
def FnDueSaid : Prop := fnDueRow.holds Try.pinned (OpenSpec.ofChange fnDueSpec)

/-- ITS FALSE NEIGHBOUR: 'it returns false'. Refute it at one input. -/
def fnDueWrong : ChangeSpec := { name := "fnDue", fn := fun _ => fun
  | [d] => { results := [.lit (.bool false)], args := [d] }
  | _ => none }
def FnDueWrongFalsely : Prop := fnDueRow.holds Try.pinned (OpenSpec.ofChange fnDueWrong)

/- THE SECOND FORM. 'bulk': how many values and letters a reading holds, each counted each time it is reached (what is shared counts as often as it is met; a slice's spare places count too). A statement '..UptoSaid' is the law's where the arguments, and the package variables that the reading takes, are together of bulk at most 1048576: NARROWER than '..Said'. Prove '..Said' where nothing that the law and all that it calls make is longer than what came in: it says more and counts as full. Else prove '..UptoSaid'. A law counts once. -/
mutual
def uptoBulk {H : Type} : DataW H → Nat
  | .lit (.string bytes) => bytes.length + 1
  | .lit _ => 1
  | .nil => 1
  | .ptr d => uptoBulk d + 1
  | .slice elems spare => uptoBulkAll elems + uptoBulkAll spare + 1
  | .agg parts => uptoBulkAll parts + 1
  | .iface _ d => uptoBulk d + 1
  | .map entries => uptoBulkEntries entries + 1
  | .held _ => 1
def uptoBulkAll {H : Type} : List (DataW H) → Nat
  | [] => 0
  | d :: r => uptoBulk d + uptoBulkAll r
def uptoBulkEntries {H : Type} : List (Lit × DataW H) → Nat
  | [] => 0
  | x :: r => uptoBulkEntry x + uptoBulkEntries r
def uptoBulkEntry {H : Type} : Lit × DataW H → Nat
  | (.string bytes, d) => bytes.length + uptoBulk d + 1
  | (_, d) => uptoBulk d + 1
 end
def uptoSmall : (H : Type) → List (DataW H) → Bool := fun _ ds => decide (uptoBulkAll ds ≤ 1048576)
def OpenSpec.upto (s : _root_.Go.ChangeSpec) : _root_.Go.OpenSpec := { _root_.Go.OpenSpec.ofChange s with cond := some uptoSmall }

/-- 'laws.FnExactFollows', WHERE WHAT IT READS IS OF BULK AT MOST 1048576: true; the input reads as it did. -/
def fnExactFollowsUptoRow : OpenClaim := { program := "ytoalolbifakpiaa", sum := "0746978f7360f650388b833ddaf410a623368404909ee028d4ab2b292469c238", func := "loop.example/g00075/laws.FnExactFollows", spec := "fnExactFollows", apart := false, narrowed := true }
def FnExactFollowsUptoSaid : Prop := fnExactFollowsUptoRow.holds Try.pinned (OpenSpec.upto fnExactFollowsSpec)

/-- 'laws.FnExactTasksOk', WHERE WHAT IT READS IS OF BULK AT MOST 1048576: true; the input reads as it did. -/
def fnExactTasksOkUptoRow : OpenClaim := { program := "ytoalolbifakpiaa", sum := "0746978f7360f650388b833ddaf410a623368404909ee028d4ab2b292469c238", func := "loop.example/g00075/laws.FnExactTasksOk", spec := "fnExactTasksOk", apart := false, narrowed := true }
def FnExactTasksOkUptoSaid : Prop := fnExactTasksOkUptoRow.holds Try.pinned (OpenSpec.upto fnExactTasksOkSpec)

/-- 'laws.FnChains', WHERE WHAT IT READS IS OF BULK AT MOST 1048576: true; the input reads as it did. -/
def fnChainsUptoRow : OpenClaim := { program := "ytoalolbifakpiaa", sum := "0746978f7360f650388b833ddaf410a623368404909ee028d4ab2b292469c238", func := "loop.example/g00075/laws.FnChains", spec := "fnChains", unfollowed := true, recurses := true, apart := false, narrowed := true }
def FnChainsUptoSaid : Prop := fnChainsUptoRow.holds Try.pinned (OpenSpec.upto fnChainsSpec)

/-- 'laws.FnExactBalanced', WHERE WHAT IT READS IS OF BULK AT MOST 1048576: true; the input reads as it did. -/
def fnExactBalancedUptoRow : OpenClaim := { program := "ytoalolbifakpiaa", sum := "0746978f7360f650388b833ddaf410a623368404909ee028d4ab2b292469c238", func := "loop.example/g00075/laws.FnExactBalanced", spec := "fnExactBalanced", apart := false, narrowed := true }
def FnExactBalancedUptoSaid : Prop := fnExactBalancedUptoRow.holds Try.pinned (OpenSpec.upto fnExactBalancedSpec)

/-- 'laws.FnFleet', WHERE WHAT IT READS IS OF BULK AT MOST 1048576: true; the input reads as it did. -/
def fnFleetUptoRow : OpenClaim := { program := "ytoalolbifakpiaa", sum := "0746978f7360f650388b833ddaf410a623368404909ee028d4ab2b292469c238", func := "loop.example/g00075/laws.FnFleet", spec := "fnFleet", recurses := true, apart := false, narrowed := true }
def FnFleetUptoSaid : Prop := fnFleetUptoRow.holds Try.pinned (OpenSpec.upto fnFleetSpec)

/-- 'laws.FnExactFleet', WHERE WHAT IT READS IS OF BULK AT MOST 1048576: true; the input reads as it did. -/
def fnExactFleetUptoRow : OpenClaim := { program := "ytoalolbifakpiaa", sum := "0746978f7360f650388b833ddaf410a623368404909ee028d4ab2b292469c238", func := "loop.example/g00075/laws.FnExactFleet", spec := "fnExactFleet", recurses := true, apart := false, narrowed := true }
def FnExactFleetUptoSaid : Prop := fnExactFleetUptoRow.holds Try.pinned (OpenSpec.upto fnExactFleetSpec)

/-- 'laws.FnExactChainOk', WHERE WHAT IT READS IS OF BULK AT MOST 1048576: true; the input reads as it did. -/
def fnExactChainOkUptoRow : OpenClaim := { program := "ytoalolbifakpiaa", sum := "0746978f7360f650388b833ddaf410a623368404909ee028d4ab2b292469c238", func := "loop.example/g00075/laws.FnExactChainOk", spec := "fnExactChainOk", unfollowed := true, recurses := true, apart := false, narrowed := true }
def FnExactChainOkUptoSaid : Prop := fnExactChainOkUptoRow.holds Try.pinned (OpenSpec.upto fnExactChainOkSpec)

/-- 'laws.FnOvernight', WHERE WHAT IT READS IS OF BULK AT MOST 1048576: true; the input reads as it did. -/
def fnOvernightUptoRow : OpenClaim := { program := "ytoalolbifakpiaa", sum := "0746978f7360f650388b833ddaf410a623368404909ee028d4ab2b292469c238", func := "loop.example/g00075/laws.FnOvernight", spec := "fnOvernight", unfollowed := true, recurses := true, apart := false, narrowed := true }
def FnOvernightUptoSaid : Prop := fnOvernightUptoRow.holds Try.pinned (OpenSpec.upto fnOvernightSpec)

/-- 'laws.FnExactChains', WHERE WHAT IT READS IS OF BULK AT MOST 1048576: true; the input reads as it did. -/
def fnExactChainsUptoRow : OpenClaim := { program := "ytoalolbifakpiaa", sum := "0746978f7360f650388b833ddaf410a623368404909ee028d4ab2b292469c238", func := "loop.example/g00075/laws.FnExactChains", spec := "fnExactChains", unfollowed := true, recurses := true, apart := false, narrowed := true }
def FnExactChainsUptoSaid : Prop := fnExactChainsUptoRow.holds Try.pinned (OpenSpec.upto fnExactChainsSpec)

/-- 'laws.FnExactMileage', WHERE WHAT IT READS IS OF BULK AT MOST 1048576: true; the input reads as it did. -/
def fnExactMileageUptoRow : OpenClaim := { program := "ytoalolbifakpiaa", sum := "0746978f7360f650388b833ddaf410a623368404909ee028d4ab2b292469c238", func := "loop.example/g00075/laws.FnExactMileage", spec := "fnExactMileage", unfollowed := true, recurses := true, apart := false, narrowed := true }
def FnExactMileageUptoSaid : Prop := fnExactMileageUptoRow.holds Try.pinned (OpenSpec.upto fnExactMileageSpec)

/-- 'laws.FnExactNight', WHERE WHAT IT READS IS OF BULK AT MOST 1048576: true; the input reads as it did. -/
def fnExactNightUptoRow : OpenClaim := { program := "ytoalolbifakpiaa", sum := "0746978f7360f650388b833ddaf410a623368404909ee028d4ab2b292469c238", func := "loop.example/g00075/laws.FnExactNight", spec := "fnExactNight", unfollowed := true, recurses := true, apart := false, narrowed := true }
def FnExactNightUptoSaid : Prop := fnExactNightUptoRow.holds Try.pinned (OpenSpec.upto fnExactNightSpec)

/-- 'laws.FnExactDue', WHERE WHAT IT READS IS OF BULK AT MOST 1048576: true; the input reads as it did. -/
def fnExactDueUptoRow : OpenClaim := { program := "ytoalolbifakpiaa", sum := "0746978f7360f650388b833ddaf410a623368404909ee028d4ab2b292469c238", func := "loop.example/g00075/laws.FnExactDue", spec := "fnExactDue", unfollowed := true, recurses := true, apart := false, narrowed := true }
def FnExactDueUptoSaid : Prop := fnExactDueUptoRow.holds Try.pinned (OpenSpec.upto fnExactDueSpec)

/-- 'laws.FnDue', WHERE WHAT IT READS IS OF BULK AT MOST 1048576: true; the input reads as it did. -/
def fnDueUptoRow : OpenClaim := { program := "ytoalolbifakpiaa", sum := "0746978f7360f650388b833ddaf410a623368404909ee028d4ab2b292469c238", func := "loop.example/g00075/laws.FnDue", spec := "fnDue", unfollowed := true, recurses := true, apart := false, narrowed := true }
def FnDueUptoSaid : Prop := fnDueUptoRow.holds Try.pinned (OpenSpec.upto fnDueSpec)

end Rows
end Go.Proofs.Ytoalolbifakpiaa
