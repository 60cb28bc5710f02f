/-
  DERIVED. GIVEN WITH THE SEED: THE CARDS: each row of YtiddnfpjgojoaaaGreatDoorRows.lean that lists a variable, with what it lists TIED to the program's text (the seventh form; the later family's looks); each row that meets fmt, with fmt's text TOLD by the authors' own Lean function (tested against real Go, not proved from fmt's source: count such statements apart). THE CARD IS WHAT COUNTS. Prove the row's statement (the work); the ties are given (YtiddnfpjgojoaaaGreatDoorTie.lean); close each card by the builder's one call (the guide's Derived/Test/ToyasCard.lean, 'card_holds'). Laid BY PROGRAM, IN A SANDBOX (cutbox-door.mjs). By AI agents, Wed Nov 11 2026. No macro, syntax, notation, axiom, sorry.
-/
import Derived.Test.YtiddnfpjgojoaaaGreatDoorRows
import GoSem.ClaimSeven
namespace Go.Proofs.YtiddnfpjgojoaaaGreatDoor
namespace Rows

/-- THE TIED CARD OF 'cardgamelaw32.EventDecides'. -/
def eventDecidesCard : Claim7 := { stood := { row := eventDecidesRow, standIns := [], harness := (true, "e1a9ee43d5c5373c07830a3a73abb252aed185d874f085616c16e7a11d5a42da"), looks := false }, kinds := [], alts := [], laidByText := true, laidKinds := [.data, .data, .data], laidTests := true, laidLooks := .later }
def EventDecidesCardSaid : Prop := Claim7.holds Tryz.pinned (.plain (OpenSpec.ofChange eventDecidesSpec)) eventDecidesCard

/-- THE SECOND FORM's CARD OF 'cardgamelaw32.EventDecides'. -/
def eventDecidesUptoCard : Claim7 := { stood := { row := eventDecidesUptoRow, standIns := [], harness := (true, "e1a9ee43d5c5373c07830a3a73abb252aed185d874f085616c16e7a11d5a42da"), looks := false }, kinds := [], alts := [], laidByText := true, laidKinds := [.data, .data, .data], laidTests := true, laidLooks := .later }
def EventDecidesUptoCardSaid : Prop := Claim7.holds Tryz.pinned (.plain (OpenSpec.upto eventDecidesSpec)) eventDecidesUptoCard
end Rows
end Go.Proofs.YtiddnfpjgojoaaaGreatDoor
