/-
  DERIVED. GIVEN WITH THE SEED: THE CARDS: each row of YtenjiecnhncfiaaGreatDoorRows.lean that lists a variable, with what it lists TIED to the program's text (the seventh form; the later family's looks); each row that meets fmt, with fmt's text TOLD by the authors' own Lean function (tested against real Go, not proved from fmt's source: count such statements apart). THE CARD IS WHAT COUNTS. Prove the row's statement (the work); the ties are given (YtenjiecnhncfiaaGreatDoorTie.lean); close each card by the builder's one call (the guide's Derived/Test/ToyasCard.lean, 'card_holds'). Laid BY PROGRAM, IN A SANDBOX (cutbox-door.mjs). By AI agents, Wed Nov 11 2026. No macro, syntax, notation, axiom, sorry.
-/
import Derived.Test.YtenjiecnhncfiaaGreatDoorRows
import GoSem.ClaimSeven
namespace Go.Proofs.YtenjiecnhncfiaaGreatDoor
namespace Rows

/-- THE TIED CARD OF 'cardgamelaw49.BeginNews'. -/
def beginNewsCard : Claim7 := { stood := { row := beginNewsRow, standIns := [], harness := (true, "0c80b172629287ac19dedb6e89a2b6e9b20bde9a44f56f559239a6b1b31927d8"), looks := false }, kinds := [], alts := [], laidByText := true, laidKinds := [.data, .data, .data, .widerDeep, .data], laidTests := true, laidLooks := .later }
def BeginNewsCardSaid : Prop := Claim7.holds Tryz.pinned (.plain (OpenSpec.ofChange beginNewsSpec)) beginNewsCard

/-- THE TIED CARD OF 'cardgamelaw49.BeginErrors'. -/
def beginErrorsCard : Claim7 := { stood := { row := beginErrorsRow, standIns := [], harness := (true, "0c80b172629287ac19dedb6e89a2b6e9b20bde9a44f56f559239a6b1b31927d8"), looks := false }, kinds := [], alts := [], laidByText := true, laidKinds := [.data, .data, .data, .widerDeep, .data], laidTests := true, laidLooks := .later }
def BeginErrorsCardSaid : Prop := Claim7.holds Tryz.pinned (.plain (OpenSpec.ofChange beginErrorsSpec)) beginErrorsCard

/-- THE SECOND FORM's CARD OF 'cardgamelaw49.BeginNews'. -/
def beginNewsUptoCard : Claim7 := { stood := { row := beginNewsUptoRow, standIns := [], harness := (true, "0c80b172629287ac19dedb6e89a2b6e9b20bde9a44f56f559239a6b1b31927d8"), looks := false }, kinds := [], alts := [], laidByText := true, laidKinds := [.data, .data, .data, .widerDeep, .data], laidTests := true, laidLooks := .later }
def BeginNewsUptoCardSaid : Prop := Claim7.holds Tryz.pinned (.plain (OpenSpec.upto beginNewsSpec)) beginNewsUptoCard

/-- THE SECOND FORM's CARD OF 'cardgamelaw49.BeginErrors'. -/
def beginErrorsUptoCard : Claim7 := { stood := { row := beginErrorsUptoRow, standIns := [], harness := (true, "0c80b172629287ac19dedb6e89a2b6e9b20bde9a44f56f559239a6b1b31927d8"), looks := false }, kinds := [], alts := [], laidByText := true, laidKinds := [.data, .data, .data, .widerDeep, .data], laidTests := true, laidLooks := .later }
def BeginErrorsUptoCardSaid : Prop := Claim7.holds Tryz.pinned (.plain (OpenSpec.upto beginErrorsSpec)) beginErrorsUptoCard
end Rows
end Go.Proofs.YtenjiecnhncfiaaGreatDoor
