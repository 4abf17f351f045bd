/-
  DERIVED. GIVEN WITH THE SEED: THE CARDS: each row of YtdpjoblnjjkbfaaDoorRows.lean that lists a variable, with what it lists TIED to the program's text (the seventh form; the later family's looks); each row that meets fmt, with fmt's text TOLD by the authors' own Lean function (tested against real Go, not proved from fmt's source: count such statements apart). THE CARD IS WHAT COUNTS. Prove the row's statement (the work); the ties are given (YtdpjoblnjjkbfaaDoorTie.lean); close each card by the builder's one call (the guide's Derived/Test/ToyasCard.lean, 'card_holds'). Laid BY PROGRAM, IN A SANDBOX (cutbox-door.mjs). By AI agents, Wed Nov 11 2026. No macro, syntax, notation, axiom, sorry.
-/
import Derived.Test.YtdpjoblnjjkbfaaDoorRows
import GoSem.ClaimSeven
namespace Go.Proofs.YtdpjoblnjjkbfaaDoor
namespace Rows

/-- THE TIED CARD OF 'laws.FnExactJourneyText'. -/
def fnExactJourneyTextCard : Claim7 := { stood := { row := fnExactJourneyTextRow, standIns := [], harness := (true, "e5502dfacee3ffa524d7d259acfecc5f30d399ff45931dd39e1eb3ef4cb94048"), looks := false }, kinds := [], alts := [], laidByText := true, laidKinds := [.data, .data, .data], laidTests := true, laidLooks := .later }
def FnExactJourneyTextCardSaid : Prop := Claim7.holds Tryd.pinned (.plain (OpenSpec.ofChange fnExactJourneyTextSpec)) fnExactJourneyTextCard

/-- THE TIED CARD OF 'laws.FnJourney'. -/
def fnJourneyCard : Claim7 := { stood := { row := fnJourneyRow, standIns := [], harness := (true, "e5502dfacee3ffa524d7d259acfecc5f30d399ff45931dd39e1eb3ef4cb94048"), looks := false }, kinds := [], alts := [], laidByText := true, laidKinds := [.data, .data, .data], laidTests := true, laidLooks := .later }
def FnJourneyCardSaid : Prop := Claim7.holds Tryd.pinned (.plain (OpenSpec.ofChange fnJourneySpec)) fnJourneyCard

/-- THE SECOND FORM's CARD OF 'laws.FnExactJourneyText'. -/
def fnExactJourneyTextUptoCard : Claim7 := { stood := { row := fnExactJourneyTextUptoRow, standIns := [], harness := (true, "e5502dfacee3ffa524d7d259acfecc5f30d399ff45931dd39e1eb3ef4cb94048"), looks := false }, kinds := [], alts := [], laidByText := true, laidKinds := [.data, .data, .data], laidTests := true, laidLooks := .later }
def FnExactJourneyTextUptoCardSaid : Prop := Claim7.holds Tryd.pinned (.plain (OpenSpec.upto fnExactJourneyTextSpec)) fnExactJourneyTextUptoCard

/-- THE SECOND FORM's CARD OF 'laws.FnJourney'. -/
def fnJourneyUptoCard : Claim7 := { stood := { row := fnJourneyUptoRow, standIns := [], harness := (true, "e5502dfacee3ffa524d7d259acfecc5f30d399ff45931dd39e1eb3ef4cb94048"), looks := false }, kinds := [], alts := [], laidByText := true, laidKinds := [.data, .data, .data], laidTests := true, laidLooks := .later }
def FnJourneyUptoCardSaid : Prop := Claim7.holds Tryd.pinned (.plain (OpenSpec.upto fnJourneySpec)) fnJourneyUptoCard
end Rows
end Go.Proofs.YtdpjoblnjjkbfaaDoor
