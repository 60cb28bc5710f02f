/-
  DERIVED. GIVEN WITH THE SEED: THE CARDS: each row of YtekonfaeacligaaGreatDoorRows.lean that lists a variable, with what it lists TIED to the program's text (the seventh form; the later family's looks); each row that meets fmt, with fmt's text TOLD by the authors' own Lean function (tested against real Go, not proved from fmt's source: count such statements apart). THE CARD IS WHAT COUNTS. Prove the row's statement (the work); the ties are given (YtekonfaeacligaaGreatDoorTie.lean); close each card by the builder's one call (the guide's Derived/Test/ToyasCard.lean, 'card_holds'). Laid BY PROGRAM, IN A SANDBOX (cutbox-door.mjs). By AI agents, Wed Nov 11 2026. No macro, syntax, notation, axiom, sorry.
-/
import Derived.Test.YtekonfaeacligaaGreatDoorRows
import GoSem.ClaimSeven
namespace Go.Proofs.YtekonfaeacligaaGreatDoor
namespace Rows

/-- THE TIED CARD OF 'cardgamelaw44.LegalSlow'. -/
def legalSlowCard : Claim7 := { stood := { row := legalSlowRow, standIns := [], harness := (true, "a9068592075774a2346dcc277071fadcc9c6f546c68be3474b044354cfa86f73"), looks := false }, kinds := [], alts := [], laidByText := true, laidKinds := [.data, .data, .data, .widerDeep, .data], laidTests := true, laidLooks := .later }
def LegalSlowCardSaid : Prop := Claim7.holds Tryz.pinned (.plain (OpenSpec.ofChange legalSlowSpec)) legalSlowCard

/-- THE SECOND FORM's CARD OF 'cardgamelaw44.LegalSlow'. -/
def legalSlowUptoCard : Claim7 := { stood := { row := legalSlowUptoRow, standIns := [], harness := (true, "a9068592075774a2346dcc277071fadcc9c6f546c68be3474b044354cfa86f73"), looks := false }, kinds := [], alts := [], laidByText := true, laidKinds := [.data, .data, .data, .widerDeep, .data], laidTests := true, laidLooks := .later }
def LegalSlowUptoCardSaid : Prop := Claim7.holds Tryz.pinned (.plain (OpenSpec.upto legalSlowSpec)) legalSlowUptoCard
end Rows
end Go.Proofs.YtekonfaeacligaaGreatDoor
