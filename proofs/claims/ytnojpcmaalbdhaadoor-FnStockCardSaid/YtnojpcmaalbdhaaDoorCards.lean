/-
  DERIVED. GIVEN WITH THE SEED: THE CARDS: each row of YtnojpcmaalbdhaaDoorRows.lean that lists a variable, with what it lists TIED to the program's text (the seventh form; the later family's looks); each row that meets fmt, with fmt's text TOLD by the authors' own Lean function (tested against real Go, not proved from fmt's source: count such statements apart). THE CARD IS WHAT COUNTS. Prove the row's statement (the work); the ties are given (YtnojpcmaalbdhaaDoorTie.lean); close each card by the builder's one call (the guide's Derived/Test/ToyasCard.lean, 'card_holds'). Laid BY PROGRAM, IN A SANDBOX (cutbox-door.mjs). By AI agents, Wed Nov 11 2026. No macro, syntax, notation, axiom, sorry.
-/
import Derived.Test.YtnojpcmaalbdhaaDoorRows
import GoSem.ClaimSeven
namespace Go.Proofs.YtnojpcmaalbdhaaDoor
namespace Rows

/-- THE TIED CARD OF 'laws.FnExactStockText'. -/
def fnExactStockTextCard : Claim7 := { stood := { row := fnExactStockTextRow, standIns := [], harness := (true, "bd6058ee4903600c660c4b5ed150ac9d0827d91ba318377332769d7281c8272b"), looks := false }, kinds := [], alts := [], laidByText := true, laidKinds := [.data, .data, .data], laidTests := true, laidLooks := .later }
def FnExactStockTextCardSaid : Prop := Claim7.holds Tryd.pinned (.plain (OpenSpec.ofChange fnExactStockTextSpec)) fnExactStockTextCard

/-- THE TIED CARD OF 'laws.FnExactReadStock'. -/
def fnExactReadStockCard : Claim7 := { stood := { row := fnExactReadStockRow, standIns := [], harness := (true, "bd6058ee4903600c660c4b5ed150ac9d0827d91ba318377332769d7281c8272b"), looks := false }, kinds := [], alts := [], laidByText := true, laidKinds := [.data, .data, .data, .data, .pinned], laidTests := true, laidLooks := .later }
def FnExactReadStockCardSaid : Prop := Claim7.holds Tryd.pinned (.plain (OpenSpec.ofChange fnExactReadStockSpec)) fnExactReadStockCard

/-- THE TIED CARD OF 'laws.FnStock'. -/
def fnStockCard : Claim7 := { stood := { row := fnStockRow, standIns := [], harness := (true, "bd6058ee4903600c660c4b5ed150ac9d0827d91ba318377332769d7281c8272b"), looks := false }, kinds := [], alts := [], laidByText := true, laidKinds := [.data, .data, .data, .data, .pinned], laidTests := true, laidLooks := .later }
def FnStockCardSaid : Prop := Claim7.holds Tryd.pinned (.plain (OpenSpec.ofChange fnStockSpec)) fnStockCard

/-- THE SECOND FORM's CARD OF 'laws.FnExactStockText'. -/
def fnExactStockTextUptoCard : Claim7 := { stood := { row := fnExactStockTextUptoRow, standIns := [], harness := (true, "bd6058ee4903600c660c4b5ed150ac9d0827d91ba318377332769d7281c8272b"), looks := false }, kinds := [], alts := [], laidByText := true, laidKinds := [.data, .data, .data], laidTests := true, laidLooks := .later }
def FnExactStockTextUptoCardSaid : Prop := Claim7.holds Tryd.pinned (.plain (OpenSpec.upto fnExactStockTextSpec)) fnExactStockTextUptoCard

/-- THE SECOND FORM's CARD OF 'laws.FnExactReadStock'. -/
def fnExactReadStockUptoCard : Claim7 := { stood := { row := fnExactReadStockUptoRow, standIns := [], harness := (true, "bd6058ee4903600c660c4b5ed150ac9d0827d91ba318377332769d7281c8272b"), looks := false }, kinds := [], alts := [], laidByText := true, laidKinds := [.data, .data, .data, .data, .pinned], laidTests := true, laidLooks := .later }
def FnExactReadStockUptoCardSaid : Prop := Claim7.holds Tryd.pinned (.plain (OpenSpec.upto fnExactReadStockSpec)) fnExactReadStockUptoCard

/-- THE SECOND FORM's CARD OF 'laws.FnStock'. -/
def fnStockUptoCard : Claim7 := { stood := { row := fnStockUptoRow, standIns := [], harness := (true, "bd6058ee4903600c660c4b5ed150ac9d0827d91ba318377332769d7281c8272b"), looks := false }, kinds := [], alts := [], laidByText := true, laidKinds := [.data, .data, .data, .data, .pinned], laidTests := true, laidLooks := .later }
def FnStockUptoCardSaid : Prop := Claim7.holds Tryd.pinned (.plain (OpenSpec.upto fnStockSpec)) fnStockUptoCard
end Rows
end Go.Proofs.YtnojpcmaalbdhaaDoor
