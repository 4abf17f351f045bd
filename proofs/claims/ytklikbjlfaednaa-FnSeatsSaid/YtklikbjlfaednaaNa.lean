/- A block that is older than another is another. -/
import Derived.Test.YtklikbjlfaednaaV
namespace Go.Proofs.Ytklikbjlfaednaa.P
open Go.RowKit
theorem nA {W : World} {a : Addr} {v : Value} {g : Nat} (h : W.cell? a = some v) (hg : W.heap.size ≤ g) : a.block ≠ g := Nat.ne_of_lt (Nat.lt_of_lt_of_le (World.block_lt_of_cell? _ _ h) hg)
abbrev T : Bool := true
abbrev F : Bool := false
end Go.Proofs.Ytklikbjlfaednaa.P
