/-
  DERIVED. GIVEN WITH THE SEED: THE CARDS: each row of YtfmknfnfpeopeaaGreatDoorRows.lean that lists a variable, with what it lists TIED to the program's text (the seventh form; the later family's looks); each row that meets fmt, with fmt's text TOLD by the authors' own Lean function (tested against real Go, not proved from fmt's source: count such statements apart). THE CARD IS WHAT COUNTS. Prove the row's statement (the work); the ties are given (YtfmknfnfpeopeaaGreatDoorTie.lean); close each card by the builder's one call (the guide's Derived/Test/ToyasCard.lean, 'card_holds'). Laid BY PROGRAM, IN A SANDBOX (cutbox-door.mjs). By AI agents, Wed Nov 11 2026. No macro, syntax, notation, axiom, sorry.
-/
import Derived.Test.YtfmknfnfpeopeaaGreatDoorRows
import GoSem.ClaimSeven
namespace Go.Proofs.YtfmknfnfpeopeaaGreatDoor
namespace Rows

/-- THE TIED CARD OF 'cardgamelaw49.BeginHands'. -/
def beginHandsCard : Claim7 := { stood := { row := beginHandsRow, standIns := [], harness := (true, "c7e6c64b1651ad0c4d758facb3fd11a6a909d03f578a0dca682d9a692c2ba456"), looks := false }, kinds := [], alts := [], laidByText := true, laidKinds := [.data, .data, .data, .widerDeep, .data], laidTests := true, laidLooks := .later }
def BeginHandsCardSaid : Prop := Claim7.holds Tryz.pinned (.plain (OpenSpec.ofChange beginHandsSpec)) beginHandsCard

/-- THE SECOND FORM's CARD OF 'cardgamelaw49.BeginHands'. -/
def beginHandsUptoCard : Claim7 := { stood := { row := beginHandsUptoRow, standIns := [], harness := (true, "c7e6c64b1651ad0c4d758facb3fd11a6a909d03f578a0dca682d9a692c2ba456"), looks := false }, kinds := [], alts := [], laidByText := true, laidKinds := [.data, .data, .data, .widerDeep, .data], laidTests := true, laidLooks := .later }
def BeginHandsUptoCardSaid : Prop := Claim7.holds Tryz.pinned (.plain (OpenSpec.upto beginHandsSpec)) beginHandsUptoCard
end Rows
end Go.Proofs.YtfmknfnfpeopeaaGreatDoor
