/-
  No cell of these rows narrows 'for every input' (looked for: loops, veiled, ifaces, maps, wideKeys, modest, calm, conditions, laid).
  DERIVED. THE GIVEN ROWS OF THIS SEAT. 6 by the template 'for every input the law returns true; each argument reads behind the call as it read before'; 0 by the template 'total and deterministic' (their statements: YtdpjoblnjjkbfaaTotals.lean).
  GIVEN WITH THE SEED: the statements are not yours to turn. If you find one false, say at which input.
  Laid BY PROGRAM, IN A SANDBOX (cutbox-rows.mjs): the forced cells as the released guide's own fill.sh prints them over the translation cad9dbfac9c7b40b… (all of the seat's roots in one cut). By AI agents, Wed Nov 11 2026. No macro, syntax, notation, axiom, sorry.
-/
import Derived.Test.YtdpjoblnjjkbfaaChecked
import GoSem.Claim
import GoSem.ClaimJoined
import GoSem.ClaimMapViews
import Derived.JoinedTies
import Derived.KernelRfl
namespace Go.Proofs.Ytdpjoblnjjkbfaa
/- THE CELL 'sum', in the pinned program and in every row, IS THE sha256 OF THE DUMP (.gsa) THAT YtdpjoblnjjkbfaaProg.lean LOADS. Nothing in Lean hashes anything: it is a label: what it is worth is what the hold of that sum in a sandbox is worth. -/
noncomputable def Try.pinned : Pinned := { name := "ytdpjoblnjjkbfaa", sum := "cad9dbfac9c7b40bfe77a743907047c7a541e0e7f0f4fe5a65dcdec30eab6b09", checked := Try.checked }
namespace Rows
def none {H : Type} : Left H := { results := [], args := [] }

/-- 'laws.FnExactSoonest': WHATEVER THE INPUT: true; the input reads as it did. -/
def fnExactSoonestSpec : ChangeSpec := { name := "fnExactSoonest", fn := fun _ => fun
  | [d1, d2, d3, d4, d5, d6] => { results := [.lit (.bool true)], args := [d1, d2, d3, d4, d5, d6] }
  | _ => none }
def fnExactSoonestRow : OpenClaim := { program := "ytdpjoblnjjkbfaa", sum := "cad9dbfac9c7b40bfe77a743907047c7a541e0e7f0f4fe5a65dcdec30eab6b09", func := "loop.example/g00075/laws.FnExactSoonest", spec := "fnExactSoonest", unfollowed := true, recurses := true, apart := false }
def FnExactSoonestSaid : Prop := fnExactSoonestRow.holds Try.pinned (OpenSpec.ofChange fnExactSoonestSpec)

/-- ITS FALSE NEIGHBOUR: 'it returns false'. Refute it at one input. -/
def fnExactSoonestWrong : ChangeSpec := { name := "fnExactSoonest", fn := fun _ => fun
  | [d1, d2, d3, d4, d5, d6] => { results := [.lit (.bool false)], args := [d1, d2, d3, d4, d5, d6] }
  | _ => none }
def FnExactSoonestWrongFalsely : Prop := fnExactSoonestRow.holds Try.pinned (OpenSpec.ofChange fnExactSoonestWrong)

/-- 'laws.FnLatest': WHATEVER THE INPUT: true; the input reads as it did. -/
def fnLatestSpec : ChangeSpec := { name := "fnLatest", fn := fun _ => fun
  | [d] => { results := [.lit (.bool true)], args := [d] }
  | _ => none }
def fnLatestRow : OpenClaim := { program := "ytdpjoblnjjkbfaa", sum := "cad9dbfac9c7b40bfe77a743907047c7a541e0e7f0f4fe5a65dcdec30eab6b09", func := "loop.example/g00075/laws.FnLatest", spec := "fnLatest", unfollowed := true, recurses := true, apart := false }
def FnLatestSaid : Prop := fnLatestRow.holds Try.pinned (OpenSpec.ofChange fnLatestSpec)

/-- ITS FALSE NEIGHBOUR: 'it returns false'. Refute it at one input. -/
def fnLatestWrong : ChangeSpec := { name := "fnLatest", fn := fun _ => fun
  | [d] => { results := [.lit (.bool false)], args := [d] }
  | _ => none }
def FnLatestWrongFalsely : Prop := fnLatestRow.holds Try.pinned (OpenSpec.ofChange fnLatestWrong)

/-- 'laws.FnExactLatest': WHATEVER THE INPUT: true; the input reads as it did. -/
def fnExactLatestSpec : ChangeSpec := { name := "fnExactLatest", fn := fun _ => fun
  | [d1, d2, d3, d4, d5, d6] => { results := [.lit (.bool true)], args := [d1, d2, d3, d4, d5, d6] }
  | _ => none }
def fnExactLatestRow : OpenClaim := { program := "ytdpjoblnjjkbfaa", sum := "cad9dbfac9c7b40bfe77a743907047c7a541e0e7f0f4fe5a65dcdec30eab6b09", func := "loop.example/g00075/laws.FnExactLatest", spec := "fnExactLatest", unfollowed := true, recurses := true, apart := false }
def FnExactLatestSaid : Prop := fnExactLatestRow.holds Try.pinned (OpenSpec.ofChange fnExactLatestSpec)

/-- ITS FALSE NEIGHBOUR: 'it returns false'. Refute it at one input. -/
def fnExactLatestWrong : ChangeSpec := { name := "fnExactLatest", fn := fun _ => fun
  | [d1, d2, d3, d4, d5, d6] => { results := [.lit (.bool false)], args := [d1, d2, d3, d4, d5, d6] }
  | _ => none }
def FnExactLatestWrongFalsely : Prop := fnExactLatestRow.holds Try.pinned (OpenSpec.ofChange fnExactLatestWrong)

/-- 'laws.FnExactWithin': WHATEVER THE INPUT: true; the input reads as it did. -/
def fnExactWithinSpec : ChangeSpec := { name := "fnExactWithin", fn := fun _ => fun
  | [d1, d2, d3, d4, d5] => { results := [.lit (.bool true)], args := [d1, d2, d3, d4, d5] }
  | _ => none }
def fnExactWithinRow : OpenClaim := { program := "ytdpjoblnjjkbfaa", sum := "cad9dbfac9c7b40bfe77a743907047c7a541e0e7f0f4fe5a65dcdec30eab6b09", func := "loop.example/g00075/laws.FnExactWithin", spec := "fnExactWithin", unfollowed := true, recurses := true, apart := false }
def FnExactWithinSaid : Prop := fnExactWithinRow.holds Try.pinned (OpenSpec.ofChange fnExactWithinSpec)

/-- ITS FALSE NEIGHBOUR: 'it returns false'. Refute it at one input. -/
def fnExactWithinWrong : ChangeSpec := { name := "fnExactWithin", fn := fun _ => fun
  | [d1, d2, d3, d4, d5] => { results := [.lit (.bool false)], args := [d1, d2, d3, d4, d5] }
  | _ => none }
def FnExactWithinWrongFalsely : Prop := fnExactWithinRow.holds Try.pinned (OpenSpec.ofChange fnExactWithinWrong)

/-- 'laws.FnExactFastest': WHATEVER THE INPUT: true; the input reads as it did. -/
def fnExactFastestSpec : ChangeSpec := { name := "fnExactFastest", fn := fun _ => fun
  | [d1, d2, d3, d4, d5] => { results := [.lit (.bool true)], args := [d1, d2, d3, d4, d5] }
  | _ => none }
def fnExactFastestRow : OpenClaim := { program := "ytdpjoblnjjkbfaa", sum := "cad9dbfac9c7b40bfe77a743907047c7a541e0e7f0f4fe5a65dcdec30eab6b09", func := "loop.example/g00075/laws.FnExactFastest", spec := "fnExactFastest", unfollowed := true, recurses := true, apart := false }
def FnExactFastestSaid : Prop := fnExactFastestRow.holds Try.pinned (OpenSpec.ofChange fnExactFastestSpec)

/-- ITS FALSE NEIGHBOUR: 'it returns false'. Refute it at one input. -/
def fnExactFastestWrong : ChangeSpec := { name := "fnExactFastest", fn := fun _ => fun
  | [d1, d2, d3, d4, d5] => { results := [.lit (.bool false)], args := [d1, d2, d3, d4, d5] }
  | _ => none }
def FnExactFastestWrongFalsely : Prop := fnExactFastestRow.holds Try.pinned (OpenSpec.ofChange fnExactFastestWrong)

/-- 'laws.FnExactJourney': WHATEVER THE INPUT: true; the input reads as it did. -/
def fnExactJourneySpec : ChangeSpec := { name := "fnExactJourney", fn := fun _ => fun
  | [d1, d2, d3, d4, d5, d6] => { results := [.lit (.bool true)], args := [d1, d2, d3, d4, d5, d6] }
  | _ => none }
def fnExactJourneyRow : OpenClaim := { program := "ytdpjoblnjjkbfaa", sum := "cad9dbfac9c7b40bfe77a743907047c7a541e0e7f0f4fe5a65dcdec30eab6b09", func := "loop.example/g00075/laws.FnExactJourney", spec := "fnExactJourney", unfollowed := true, recurses := true, apart := false }
def FnExactJourneySaid : Prop := fnExactJourneyRow.holds Try.pinned (OpenSpec.ofChange fnExactJourneySpec)

/-- ITS FALSE NEIGHBOUR: 'it returns false'. Refute it at one input. -/
def fnExactJourneyWrong : ChangeSpec := { name := "fnExactJourney", fn := fun _ => fun
  | [d1, d2, d3, d4, d5, d6] => { results := [.lit (.bool false)], args := [d1, d2, d3, d4, d5, d6] }
  | _ => none }
def FnExactJourneyWrongFalsely : Prop := fnExactJourneyRow.holds Try.pinned (OpenSpec.ofChange fnExactJourneyWrong)

/- THE SECOND FORM. 'bulk': how many values and letters a reading holds, each counted each time it is reached (what is shared counts as often as it is met; a slice's spare places count too). A statement '..UptoSaid' is the law's where the arguments, and the package variables that the reading takes, are together of bulk at most 1048576: NARROWER than '..Said'. Prove '..Said' where nothing that the law and all that it calls make is longer than what came in: it says more and counts as full. Else prove '..UptoSaid'. A law counts once. -/
mutual
def uptoBulk {H : Type} : DataW H → Nat
  | .lit (.string bytes) => bytes.length + 1
  | .lit _ => 1
  | .nil => 1
  | .ptr d => uptoBulk d + 1
  | .slice elems spare => uptoBulkAll elems + uptoBulkAll spare + 1
  | .agg parts => uptoBulkAll parts + 1
  | .iface _ d => uptoBulk d + 1
  | .map entries => uptoBulkEntries entries + 1
  | .held _ => 1
def uptoBulkAll {H : Type} : List (DataW H) → Nat
  | [] => 0
  | d :: r => uptoBulk d + uptoBulkAll r
def uptoBulkEntries {H : Type} : List (Lit × DataW H) → Nat
  | [] => 0
  | x :: r => uptoBulkEntry x + uptoBulkEntries r
def uptoBulkEntry {H : Type} : Lit × DataW H → Nat
  | (.string bytes, d) => bytes.length + uptoBulk d + 1
  | (_, d) => uptoBulk d + 1
 end
def uptoSmall : (H : Type) → List (DataW H) → Bool := fun _ ds => decide (uptoBulkAll ds ≤ 1048576)
def OpenSpec.upto (s : _root_.Go.ChangeSpec) : _root_.Go.OpenSpec := { _root_.Go.OpenSpec.ofChange s with cond := some uptoSmall }

/-- 'laws.FnExactSoonest', WHERE WHAT IT READS IS OF BULK AT MOST 1048576: true; the input reads as it did. -/
def fnExactSoonestUptoRow : OpenClaim := { program := "ytdpjoblnjjkbfaa", sum := "cad9dbfac9c7b40bfe77a743907047c7a541e0e7f0f4fe5a65dcdec30eab6b09", func := "loop.example/g00075/laws.FnExactSoonest", spec := "fnExactSoonest", unfollowed := true, recurses := true, apart := false, narrowed := true }
def FnExactSoonestUptoSaid : Prop := fnExactSoonestUptoRow.holds Try.pinned (OpenSpec.upto fnExactSoonestSpec)

/-- 'laws.FnLatest', WHERE WHAT IT READS IS OF BULK AT MOST 1048576: true; the input reads as it did. -/
def fnLatestUptoRow : OpenClaim := { program := "ytdpjoblnjjkbfaa", sum := "cad9dbfac9c7b40bfe77a743907047c7a541e0e7f0f4fe5a65dcdec30eab6b09", func := "loop.example/g00075/laws.FnLatest", spec := "fnLatest", unfollowed := true, recurses := true, apart := false, narrowed := true }
def FnLatestUptoSaid : Prop := fnLatestUptoRow.holds Try.pinned (OpenSpec.upto fnLatestSpec)

/-- 'laws.FnExactLatest', WHERE WHAT IT READS IS OF BULK AT MOST 1048576: true; the input reads as it did. -/
def fnExactLatestUptoRow : OpenClaim := { program := "ytdpjoblnjjkbfaa", sum := "cad9dbfac9c7b40bfe77a743907047c7a541e0e7f0f4fe5a65dcdec30eab6b09", func := "loop.example/g00075/laws.FnExactLatest", spec := "fnExactLatest", unfollowed := true, recurses := true, apart := false, narrowed := true }
def FnExactLatestUptoSaid : Prop := fnExactLatestUptoRow.holds Try.pinned (OpenSpec.upto fnExactLatestSpec)

/-- 'laws.FnExactWithin', WHERE WHAT IT READS IS OF BULK AT MOST 1048576: true; the input reads as it did. -/
def fnExactWithinUptoRow : OpenClaim := { program := "ytdpjoblnjjkbfaa", sum := "cad9dbfac9c7b40bfe77a743907047c7a541e0e7f0f4fe5a65dcdec30eab6b09", func := "loop.example/g00075/laws.FnExactWithin", spec := "fnExactWithin", unfollowed := true, recurses := true, apart := false, narrowed := true }
def FnExactWithinUptoSaid : Prop := fnExactWithinUptoRow.holds Try.pinned (OpenSpec.upto fnExactWithinSpec)

/-- 'laws.FnExactFastest', WHERE WHAT IT READS IS OF BULK AT MOST 1048576: true; the input reads as it did. -/
def fnExactFastestUptoRow : OpenClaim := { program := "ytdpjoblnjjkbfaa", sum := "cad9dbfac9c7b40bfe77a743907047c7a541e0e7f0f4fe5a65dcdec30eab6b09", func := "loop.example/g00075/laws.FnExactFastest", spec := "fnExactFastest", unfollowed := true, recurses := true, apart := false, narrowed := true }
def FnExactFastestUptoSaid : Prop := fnExactFastestUptoRow.holds Try.pinned (OpenSpec.upto fnExactFastestSpec)

/-- 'laws.FnExactJourney', WHERE WHAT IT READS IS OF BULK AT MOST 1048576: true; the input reads as it did. -/
def fnExactJourneyUptoRow : OpenClaim := { program := "ytdpjoblnjjkbfaa", sum := "cad9dbfac9c7b40bfe77a743907047c7a541e0e7f0f4fe5a65dcdec30eab6b09", func := "loop.example/g00075/laws.FnExactJourney", spec := "fnExactJourney", unfollowed := true, recurses := true, apart := false, narrowed := true }
def FnExactJourneyUptoSaid : Prop := fnExactJourneyUptoRow.holds Try.pinned (OpenSpec.upto fnExactJourneySpec)

end Rows
end Go.Proofs.Ytdpjoblnjjkbfaa
