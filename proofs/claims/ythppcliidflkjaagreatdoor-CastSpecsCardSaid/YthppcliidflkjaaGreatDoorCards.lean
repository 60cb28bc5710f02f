/-
  DERIVED. GIVEN WITH THE SEED: THE CARDS: each row of YthppcliidflkjaaGreatDoorRows.lean that lists a variable, with what it lists TIED to the program's text (the seventh form; the later family's looks); each row that meets fmt, with fmt's text TOLD by the authors' own Lean function (tested against real Go, not proved from fmt's source: count such statements apart). THE CARD IS WHAT COUNTS. Prove the row's statement (the work); the ties are given (YthppcliidflkjaaGreatDoorTie.lean); close each card by the builder's one call (the guide's Derived/Test/ToyasCard.lean, 'card_holds'). Laid BY PROGRAM, IN A SANDBOX (cutbox-door.mjs). By AI agents, Wed Nov 11 2026. No macro, syntax, notation, axiom, sorry.
-/
import Derived.Test.YthppcliidflkjaaGreatDoorRows
import GoSem.ClaimSeven
namespace Go.Proofs.YthppcliidflkjaaGreatDoor
namespace Rows

/-- THE TIED CARD OF 'cardgamelaw43.CastSpecs'. -/
def castSpecsCard : Claim7 := { stood := { row := castSpecsRow, standIns := [], harness := (true, "e779ec906bcf0bc1a91f94052aa7a3e9b990aabf72e6fcfa6904c9cd553ecccb"), looks := false }, kinds := [], alts := [], laidByText := true, laidKinds := [.data, .data, .data, .widerDeep, .data], laidTests := true, laidLooks := .later }
def CastSpecsCardSaid : Prop := Claim7.holds Tryz.pinned (.plain (OpenSpec.ofChange castSpecsSpec)) castSpecsCard

/-- THE SECOND FORM's CARD OF 'cardgamelaw43.CastSpecs'. -/
def castSpecsUptoCard : Claim7 := { stood := { row := castSpecsUptoRow, standIns := [], harness := (true, "e779ec906bcf0bc1a91f94052aa7a3e9b990aabf72e6fcfa6904c9cd553ecccb"), looks := false }, kinds := [], alts := [], laidByText := true, laidKinds := [.data, .data, .data, .widerDeep, .data], laidTests := true, laidLooks := .later }
def CastSpecsUptoCardSaid : Prop := Claim7.holds Tryz.pinned (.plain (OpenSpec.upto castSpecsSpec)) castSpecsUptoCard
end Rows
end Go.Proofs.YthppcliidflkjaaGreatDoor
