/-
  No cell of these rows narrows 'for every input' (looked for: loops, veiled, ifaces, maps, wideKeys, modest, calm, conditions, laid).
  DERIVED. THE GIVEN ROWS OF THIS SEAT. 9 by the template 'for every input the law returns true; each argument reads behind the call as it read before'; 0 by the template 'total and deterministic' (their statements: YtklikbjlfaednaaTotals.lean).
  GIVEN WITH THE SEED: the statements are not yours to turn. If you find one false, say at which input.
  Laid BY PROGRAM, IN A SANDBOX (cutbox-rows.mjs): the forced cells as the released guide's own fill.sh prints them over the translation 8c64721fdd349105… (all of the seat's roots in one cut). By AI agents, Wed Nov 11 2026. No macro, syntax, notation, axiom, sorry.
-/
import Derived.Test.YtklikbjlfaednaaChecked
import GoSem.Claim
import GoSem.ClaimJoined
import GoSem.ClaimMapViews
import Derived.JoinedTies
import Derived.KernelRfl
namespace Go.Proofs.Ytklikbjlfaednaa
/- THE CELL 'sum', in the pinned program and in every row, IS THE sha256 OF THE DUMP (.gsa) THAT YtklikbjlfaednaaProg.lean LOADS. Nothing in Lean hashes anything: it is a label: what it is worth is what the hold of that sum in a sandbox is worth. -/
noncomputable def Try.pinned : Pinned := { name := "ytklikbjlfaednaa", sum := "8c64721fdd349105ab457a368ac18ca50eb82fa9d8d9e0e2f9dedee13db753d1", checked := Try.checked }
namespace Rows
def none {H : Type} : Left H := { results := [], args := [] }

/-- 'laws.FnExactTrainOk': WHATEVER THE INPUT: true; the input reads as it did. -/
def fnExactTrainOkSpec : ChangeSpec := { name := "fnExactTrainOk", fn := fun _ => fun
  | [d] => { results := [.lit (.bool true)], args := [d] }
  | _ => none }
def fnExactTrainOkRow : OpenClaim := { program := "ytklikbjlfaednaa", sum := "8c64721fdd349105ab457a368ac18ca50eb82fa9d8d9e0e2f9dedee13db753d1", func := "loop.example/g00075/laws.FnExactTrainOk", spec := "fnExactTrainOk", apart := false }
def FnExactTrainOkSaid : Prop := fnExactTrainOkRow.holds Try.pinned (OpenSpec.ofChange fnExactTrainOkSpec)

/-- ITS FALSE NEIGHBOUR: 'it returns false'. Refute it at one input. -/
def fnExactTrainOkWrong : ChangeSpec := { name := "fnExactTrainOk", fn := fun _ => fun
  | [d] => { results := [.lit (.bool false)], args := [d] }
  | _ => none }
def FnExactTrainOkWrongFalsely : Prop := fnExactTrainOkRow.holds Try.pinned (OpenSpec.ofChange fnExactTrainOkWrong)

/-- 'laws.FnExactFreeSeats': WHATEVER THE INPUT: true; the input reads as it did. -/
def fnExactFreeSeatsSpec : ChangeSpec := { name := "fnExactFreeSeats", fn := fun _ => fun
  | [d1, d2, d3] => { results := [.lit (.bool true)], args := [d1, d2, d3] }
  | _ => none }
def fnExactFreeSeatsRow : OpenClaim := { program := "ytklikbjlfaednaa", sum := "8c64721fdd349105ab457a368ac18ca50eb82fa9d8d9e0e2f9dedee13db753d1", func := "loop.example/g00075/laws.FnExactFreeSeats", spec := "fnExactFreeSeats", apart := false }
def FnExactFreeSeatsSaid : Prop := fnExactFreeSeatsRow.holds Try.pinned (OpenSpec.ofChange fnExactFreeSeatsSpec)

/-- ITS FALSE NEIGHBOUR: 'it returns false'. Refute it at one input. -/
def fnExactFreeSeatsWrong : ChangeSpec := { name := "fnExactFreeSeats", fn := fun _ => fun
  | [d1, d2, d3] => { results := [.lit (.bool false)], args := [d1, d2, d3] }
  | _ => none }
def FnExactFreeSeatsWrongFalsely : Prop := fnExactFreeSeatsRow.holds Try.pinned (OpenSpec.ofChange fnExactFreeSeatsWrong)

/-- 'laws.FnExactHole': WHATEVER THE INPUT: true; the input reads as it did. -/
def fnExactHoleSpec : ChangeSpec := { name := "fnExactHole", fn := fun _ => fun
  | [d1, d2, d3, d4] => { results := [.lit (.bool true)], args := [d1, d2, d3, d4] }
  | _ => none }
def fnExactHoleRow : OpenClaim := { program := "ytklikbjlfaednaa", sum := "8c64721fdd349105ab457a368ac18ca50eb82fa9d8d9e0e2f9dedee13db753d1", func := "loop.example/g00075/laws.FnExactHole", spec := "fnExactHole", apart := false }
def FnExactHoleSaid : Prop := fnExactHoleRow.holds Try.pinned (OpenSpec.ofChange fnExactHoleSpec)

/-- ITS FALSE NEIGHBOUR: 'it returns false'. Refute it at one input. -/
def fnExactHoleWrong : ChangeSpec := { name := "fnExactHole", fn := fun _ => fun
  | [d1, d2, d3, d4] => { results := [.lit (.bool false)], args := [d1, d2, d3, d4] }
  | _ => none }
def FnExactHoleWrongFalsely : Prop := fnExactHoleRow.holds Try.pinned (OpenSpec.ofChange fnExactHoleWrong)

/-- 'laws.FnExactSpread': WHATEVER THE INPUT: true; the input reads as it did. -/
def fnExactSpreadSpec : ChangeSpec := { name := "fnExactSpread", fn := fun _ => fun
  | [d1, d2, d3] => { results := [.lit (.bool true)], args := [d1, d2, d3] }
  | _ => none }
def fnExactSpreadRow : OpenClaim := { program := "ytklikbjlfaednaa", sum := "8c64721fdd349105ab457a368ac18ca50eb82fa9d8d9e0e2f9dedee13db753d1", func := "loop.example/g00075/laws.FnExactSpread", spec := "fnExactSpread", apart := false }
def FnExactSpreadSaid : Prop := fnExactSpreadRow.holds Try.pinned (OpenSpec.ofChange fnExactSpreadSpec)

/-- ITS FALSE NEIGHBOUR: 'it returns false'. Refute it at one input. -/
def fnExactSpreadWrong : ChangeSpec := { name := "fnExactSpread", fn := fun _ => fun
  | [d1, d2, d3] => { results := [.lit (.bool false)], args := [d1, d2, d3] }
  | _ => none }
def FnExactSpreadWrongFalsely : Prop := fnExactSpreadRow.holds Try.pinned (OpenSpec.ofChange fnExactSpreadWrong)

/-- 'laws.FnExactUnbook': WHATEVER THE INPUT: true; the input reads as it did. -/
def fnExactUnbookSpec : ChangeSpec := { name := "fnExactUnbook", fn := fun _ => fun
  | [d1, d2] => { results := [.lit (.bool true)], args := [d1, d2] }
  | _ => none }
def fnExactUnbookRow : OpenClaim := { program := "ytklikbjlfaednaa", sum := "8c64721fdd349105ab457a368ac18ca50eb82fa9d8d9e0e2f9dedee13db753d1", func := "loop.example/g00075/laws.FnExactUnbook", spec := "fnExactUnbook", unfollowed := true, recurses := true, apart := false }
def FnExactUnbookSaid : Prop := fnExactUnbookRow.holds Try.pinned (OpenSpec.ofChange fnExactUnbookSpec)

/-- ITS FALSE NEIGHBOUR: 'it returns false'. Refute it at one input. -/
def fnExactUnbookWrong : ChangeSpec := { name := "fnExactUnbook", fn := fun _ => fun
  | [d1, d2] => { results := [.lit (.bool false)], args := [d1, d2] }
  | _ => none }
def FnExactUnbookWrongFalsely : Prop := fnExactUnbookRow.holds Try.pinned (OpenSpec.ofChange fnExactUnbookWrong)

/-- 'laws.FnSpread': WHATEVER THE INPUT: true; the input reads as it did. -/
def fnSpreadSpec : ChangeSpec := { name := "fnSpread", fn := fun _ => fun
  | [d] => { results := [.lit (.bool true)], args := [d] }
  | _ => none }
def fnSpreadRow : OpenClaim := { program := "ytklikbjlfaednaa", sum := "8c64721fdd349105ab457a368ac18ca50eb82fa9d8d9e0e2f9dedee13db753d1", func := "loop.example/g00075/laws.FnSpread", spec := "fnSpread", apart := false }
def FnSpreadSaid : Prop := fnSpreadRow.holds Try.pinned (OpenSpec.ofChange fnSpreadSpec)

/-- ITS FALSE NEIGHBOUR: 'it returns false'. Refute it at one input. -/
def fnSpreadWrong : ChangeSpec := { name := "fnSpread", fn := fun _ => fun
  | [d] => { results := [.lit (.bool false)], args := [d] }
  | _ => none }
def FnSpreadWrongFalsely : Prop := fnSpreadRow.holds Try.pinned (OpenSpec.ofChange fnSpreadWrong)

/-- 'laws.FnExactBook': WHATEVER THE INPUT: true; the input reads as it did. -/
def fnExactBookSpec : ChangeSpec := { name := "fnExactBook", fn := fun _ => fun
  | [d1, d2, d3, d4] => { results := [.lit (.bool true)], args := [d1, d2, d3, d4] }
  | _ => none }
def fnExactBookRow : OpenClaim := { program := "ytklikbjlfaednaa", sum := "8c64721fdd349105ab457a368ac18ca50eb82fa9d8d9e0e2f9dedee13db753d1", func := "loop.example/g00075/laws.FnExactBook", spec := "fnExactBook", inPlace := ["slices.overlaps[loop.example/g00075/impl.Booking]"], unfollowed := true, recurses := true, apart := false }
def FnExactBookSaid : Prop := fnExactBookRow.holds Try.pinned (OpenSpec.ofChange fnExactBookSpec)

/-- ITS FALSE NEIGHBOUR: 'it returns false'. Refute it at one input. -/
def fnExactBookWrong : ChangeSpec := { name := "fnExactBook", fn := fun _ => fun
  | [d1, d2, d3, d4] => { results := [.lit (.bool false)], args := [d1, d2, d3, d4] }
  | _ => none }
def FnExactBookWrongFalsely : Prop := fnExactBookRow.holds Try.pinned (OpenSpec.ofChange fnExactBookWrong)

/-- 'laws.FnSeats': WHATEVER THE INPUT: true; the input reads as it did. -/
def fnSeatsSpec : ChangeSpec := { name := "fnSeats", fn := fun _ => fun
  | [d] => { results := [.lit (.bool true)], args := [d] }
  | _ => none }
def fnSeatsRow : OpenClaim := { program := "ytklikbjlfaednaa", sum := "8c64721fdd349105ab457a368ac18ca50eb82fa9d8d9e0e2f9dedee13db753d1", func := "loop.example/g00075/laws.FnSeats", spec := "fnSeats", inPlace := ["slices.overlaps[loop.example/g00075/impl.Booking]"], unfollowed := true, recurses := true, apart := false }
def FnSeatsSaid : Prop := fnSeatsRow.holds Try.pinned (OpenSpec.ofChange fnSeatsSpec)

/-- ITS FALSE NEIGHBOUR: 'it returns false'. Refute it at one input. -/
def fnSeatsWrong : ChangeSpec := { name := "fnSeats", fn := fun _ => fun
  | [d] => { results := [.lit (.bool false)], args := [d] }
  | _ => none }
def FnSeatsWrongFalsely : Prop := fnSeatsRow.holds Try.pinned (OpenSpec.ofChange fnSeatsWrong)

/-- 'laws.FnExactPlaySales': WHATEVER THE INPUT: true; the input reads as it did. -/
def fnExactPlaySalesSpec : ChangeSpec := { name := "fnExactPlaySales", fn := fun _ => fun
  | [d1, d2] => { results := [.lit (.bool true)], args := [d1, d2] }
  | _ => none }
def fnExactPlaySalesRow : OpenClaim := { program := "ytklikbjlfaednaa", sum := "8c64721fdd349105ab457a368ac18ca50eb82fa9d8d9e0e2f9dedee13db753d1", func := "loop.example/g00075/laws.FnExactPlaySales", spec := "fnExactPlaySales", inPlace := ["slices.overlaps[loop.example/g00075/impl.Booking]"], unfollowed := true, recurses := true, apart := false }
def FnExactPlaySalesSaid : Prop := fnExactPlaySalesRow.holds Try.pinned (OpenSpec.ofChange fnExactPlaySalesSpec)

/-- ITS FALSE NEIGHBOUR: 'it returns false'. Refute it at one input. -/
def fnExactPlaySalesWrong : ChangeSpec := { name := "fnExactPlaySales", fn := fun _ => fun
  | [d1, d2] => { results := [.lit (.bool false)], args := [d1, d2] }
  | _ => none }
def FnExactPlaySalesWrongFalsely : Prop := fnExactPlaySalesRow.holds Try.pinned (OpenSpec.ofChange fnExactPlaySalesWrong)

/- THE SECOND FORM. 'bulk': how many values and letters a reading holds, each counted each time it is reached (what is shared counts as often as it is met; a slice's spare places count too). A statement '..UptoSaid' is the law's where the arguments, and the package variables that the reading takes, are together of bulk at most 1048576: NARROWER than '..Said'. Prove '..Said' where nothing that the law and all that it calls make is longer than what came in: it says more and counts as full. Else prove '..UptoSaid'. A law counts once. -/
mutual
def uptoBulk {H : Type} : DataW H → Nat
  | .lit (.string bytes) => bytes.length + 1
  | .lit _ => 1
  | .nil => 1
  | .ptr d => uptoBulk d + 1
  | .slice elems spare => uptoBulkAll elems + uptoBulkAll spare + 1
  | .agg parts => uptoBulkAll parts + 1
  | .iface _ d => uptoBulk d + 1
  | .map entries => uptoBulkEntries entries + 1
  | .held _ => 1
def uptoBulkAll {H : Type} : List (DataW H) → Nat
  | [] => 0
  | d :: r => uptoBulk d + uptoBulkAll r
def uptoBulkEntries {H : Type} : List (Lit × DataW H) → Nat
  | [] => 0
  | x :: r => uptoBulkEntry x + uptoBulkEntries r
def uptoBulkEntry {H : Type} : Lit × DataW H → Nat
  | (.string bytes, d) => bytes.length + uptoBulk d + 1
  | (_, d) => uptoBulk d + 1
 end
def uptoSmall : (H : Type) → List (DataW H) → Bool := fun _ ds => decide (uptoBulkAll ds ≤ 1048576)
def OpenSpec.upto (s : _root_.Go.ChangeSpec) : _root_.Go.OpenSpec := { _root_.Go.OpenSpec.ofChange s with cond := some uptoSmall }

/-- 'laws.FnExactTrainOk', WHERE WHAT IT READS IS OF BULK AT MOST 1048576: true; the input reads as it did. -/
def fnExactTrainOkUptoRow : OpenClaim := { program := "ytklikbjlfaednaa", sum := "8c64721fdd349105ab457a368ac18ca50eb82fa9d8d9e0e2f9dedee13db753d1", func := "loop.example/g00075/laws.FnExactTrainOk", spec := "fnExactTrainOk", apart := false, narrowed := true }
def FnExactTrainOkUptoSaid : Prop := fnExactTrainOkUptoRow.holds Try.pinned (OpenSpec.upto fnExactTrainOkSpec)

/-- 'laws.FnExactFreeSeats', WHERE WHAT IT READS IS OF BULK AT MOST 1048576: true; the input reads as it did. -/
def fnExactFreeSeatsUptoRow : OpenClaim := { program := "ytklikbjlfaednaa", sum := "8c64721fdd349105ab457a368ac18ca50eb82fa9d8d9e0e2f9dedee13db753d1", func := "loop.example/g00075/laws.FnExactFreeSeats", spec := "fnExactFreeSeats", apart := false, narrowed := true }
def FnExactFreeSeatsUptoSaid : Prop := fnExactFreeSeatsUptoRow.holds Try.pinned (OpenSpec.upto fnExactFreeSeatsSpec)

/-- 'laws.FnExactHole', WHERE WHAT IT READS IS OF BULK AT MOST 1048576: true; the input reads as it did. -/
def fnExactHoleUptoRow : OpenClaim := { program := "ytklikbjlfaednaa", sum := "8c64721fdd349105ab457a368ac18ca50eb82fa9d8d9e0e2f9dedee13db753d1", func := "loop.example/g00075/laws.FnExactHole", spec := "fnExactHole", apart := false, narrowed := true }
def FnExactHoleUptoSaid : Prop := fnExactHoleUptoRow.holds Try.pinned (OpenSpec.upto fnExactHoleSpec)

/-- 'laws.FnExactSpread', WHERE WHAT IT READS IS OF BULK AT MOST 1048576: true; the input reads as it did. -/
def fnExactSpreadUptoRow : OpenClaim := { program := "ytklikbjlfaednaa", sum := "8c64721fdd349105ab457a368ac18ca50eb82fa9d8d9e0e2f9dedee13db753d1", func := "loop.example/g00075/laws.FnExactSpread", spec := "fnExactSpread", apart := false, narrowed := true }
def FnExactSpreadUptoSaid : Prop := fnExactSpreadUptoRow.holds Try.pinned (OpenSpec.upto fnExactSpreadSpec)

/-- 'laws.FnExactUnbook', WHERE WHAT IT READS IS OF BULK AT MOST 1048576: true; the input reads as it did. -/
def fnExactUnbookUptoRow : OpenClaim := { program := "ytklikbjlfaednaa", sum := "8c64721fdd349105ab457a368ac18ca50eb82fa9d8d9e0e2f9dedee13db753d1", func := "loop.example/g00075/laws.FnExactUnbook", spec := "fnExactUnbook", unfollowed := true, recurses := true, apart := false, narrowed := true }
def FnExactUnbookUptoSaid : Prop := fnExactUnbookUptoRow.holds Try.pinned (OpenSpec.upto fnExactUnbookSpec)

/-- 'laws.FnSpread', WHERE WHAT IT READS IS OF BULK AT MOST 1048576: true; the input reads as it did. -/
def fnSpreadUptoRow : OpenClaim := { program := "ytklikbjlfaednaa", sum := "8c64721fdd349105ab457a368ac18ca50eb82fa9d8d9e0e2f9dedee13db753d1", func := "loop.example/g00075/laws.FnSpread", spec := "fnSpread", apart := false, narrowed := true }
def FnSpreadUptoSaid : Prop := fnSpreadUptoRow.holds Try.pinned (OpenSpec.upto fnSpreadSpec)

/-- 'laws.FnExactBook', WHERE WHAT IT READS IS OF BULK AT MOST 1048576: true; the input reads as it did. -/
def fnExactBookUptoRow : OpenClaim := { program := "ytklikbjlfaednaa", sum := "8c64721fdd349105ab457a368ac18ca50eb82fa9d8d9e0e2f9dedee13db753d1", func := "loop.example/g00075/laws.FnExactBook", spec := "fnExactBook", inPlace := ["slices.overlaps[loop.example/g00075/impl.Booking]"], unfollowed := true, recurses := true, apart := false, narrowed := true }
def FnExactBookUptoSaid : Prop := fnExactBookUptoRow.holds Try.pinned (OpenSpec.upto fnExactBookSpec)

/-- 'laws.FnSeats', WHERE WHAT IT READS IS OF BULK AT MOST 1048576: true; the input reads as it did. -/
def fnSeatsUptoRow : OpenClaim := { program := "ytklikbjlfaednaa", sum := "8c64721fdd349105ab457a368ac18ca50eb82fa9d8d9e0e2f9dedee13db753d1", func := "loop.example/g00075/laws.FnSeats", spec := "fnSeats", inPlace := ["slices.overlaps[loop.example/g00075/impl.Booking]"], unfollowed := true, recurses := true, apart := false, narrowed := true }
def FnSeatsUptoSaid : Prop := fnSeatsUptoRow.holds Try.pinned (OpenSpec.upto fnSeatsSpec)

/-- 'laws.FnExactPlaySales', WHERE WHAT IT READS IS OF BULK AT MOST 1048576: true; the input reads as it did. -/
def fnExactPlaySalesUptoRow : OpenClaim := { program := "ytklikbjlfaednaa", sum := "8c64721fdd349105ab457a368ac18ca50eb82fa9d8d9e0e2f9dedee13db753d1", func := "loop.example/g00075/laws.FnExactPlaySales", spec := "fnExactPlaySales", inPlace := ["slices.overlaps[loop.example/g00075/impl.Booking]"], unfollowed := true, recurses := true, apart := false, narrowed := true }
def FnExactPlaySalesUptoSaid : Prop := fnExactPlaySalesUptoRow.holds Try.pinned (OpenSpec.upto fnExactPlaySalesSpec)

end Rows
end Go.Proofs.Ytklikbjlfaednaa
