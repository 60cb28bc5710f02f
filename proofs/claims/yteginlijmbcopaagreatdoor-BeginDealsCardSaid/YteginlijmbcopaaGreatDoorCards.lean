/-
  DERIVED. GIVEN WITH THE SEED: THE CARDS: each row of YteginlijmbcopaaGreatDoorRows.lean that lists a variable, with what it lists TIED to the program's text (the seventh form; the later family's looks); each row that meets fmt, with fmt's text TOLD by the authors' own Lean function (tested against real Go, not proved from fmt's source: count such statements apart). THE CARD IS WHAT COUNTS. Prove the row's statement (the work); the ties are given (YteginlijmbcopaaGreatDoorTie.lean); close each card by the builder's one call (the guide's Derived/Test/ToyasCard.lean, 'card_holds'). Laid BY PROGRAM, IN A SANDBOX (cutbox-door.mjs). By AI agents, Wed Nov 11 2026. No macro, syntax, notation, axiom, sorry.
-/
import Derived.Test.YteginlijmbcopaaGreatDoorRows
import GoSem.ClaimSeven
namespace Go.Proofs.YteginlijmbcopaaGreatDoor
namespace Rows

/-- THE TIED CARD OF 'cardgamelaw49.BeginNews'. -/
def beginNewsCard : Claim7 := { stood := { row := beginNewsRow, standIns := [], harness := (true, "a4ddfac72a9de2086997e67c1c62df1b7715e276a7a82916fa8cc1384994d927"), looks := false }, kinds := [], alts := [], laidByText := true, laidKinds := [.data, .data, .data, .widerDeep, .data], laidTests := true, laidLooks := .later }
def BeginNewsCardSaid : Prop := Claim7.holds Tryz.pinned (.plain (OpenSpec.ofChange beginNewsSpec)) beginNewsCard

/-- THE TIED CARD OF 'cardgamelaw49.BeginDeals'. -/
def beginDealsCard : Claim7 := { stood := { row := beginDealsRow, standIns := [], harness := (true, "a4ddfac72a9de2086997e67c1c62df1b7715e276a7a82916fa8cc1384994d927"), looks := false }, kinds := [], alts := [], laidByText := true, laidKinds := [.data, .data, .data, .widerDeep, .data], laidTests := true, laidLooks := .later }
def BeginDealsCardSaid : Prop := Claim7.holds Tryz.pinned (.plain (OpenSpec.ofChange beginDealsSpec)) beginDealsCard

/-- THE TIED CARD OF 'cardgamelaw49.BeginDecks'. -/
def beginDecksCard : Claim7 := { stood := { row := beginDecksRow, standIns := [], harness := (true, "a4ddfac72a9de2086997e67c1c62df1b7715e276a7a82916fa8cc1384994d927"), looks := false }, kinds := [], alts := [], laidByText := true, laidKinds := [.data, .data, .data, .widerDeep, .data], laidTests := true, laidLooks := .later }
def BeginDecksCardSaid : Prop := Claim7.holds Tryz.pinned (.plain (OpenSpec.ofChange beginDecksSpec)) beginDecksCard

/-- THE SECOND FORM's CARD OF 'cardgamelaw49.BeginNews'. -/
def beginNewsUptoCard : Claim7 := { stood := { row := beginNewsUptoRow, standIns := [], harness := (true, "a4ddfac72a9de2086997e67c1c62df1b7715e276a7a82916fa8cc1384994d927"), looks := false }, kinds := [], alts := [], laidByText := true, laidKinds := [.data, .data, .data, .widerDeep, .data], laidTests := true, laidLooks := .later }
def BeginNewsUptoCardSaid : Prop := Claim7.holds Tryz.pinned (.plain (OpenSpec.upto beginNewsSpec)) beginNewsUptoCard

/-- THE SECOND FORM's CARD OF 'cardgamelaw49.BeginDeals'. -/
def beginDealsUptoCard : Claim7 := { stood := { row := beginDealsUptoRow, standIns := [], harness := (true, "a4ddfac72a9de2086997e67c1c62df1b7715e276a7a82916fa8cc1384994d927"), looks := false }, kinds := [], alts := [], laidByText := true, laidKinds := [.data, .data, .data, .widerDeep, .data], laidTests := true, laidLooks := .later }
def BeginDealsUptoCardSaid : Prop := Claim7.holds Tryz.pinned (.plain (OpenSpec.upto beginDealsSpec)) beginDealsUptoCard

/-- THE SECOND FORM's CARD OF 'cardgamelaw49.BeginDecks'. -/
def beginDecksUptoCard : Claim7 := { stood := { row := beginDecksUptoRow, standIns := [], harness := (true, "a4ddfac72a9de2086997e67c1c62df1b7715e276a7a82916fa8cc1384994d927"), looks := false }, kinds := [], alts := [], laidByText := true, laidKinds := [.data, .data, .data, .widerDeep, .data], laidTests := true, laidLooks := .later }
def BeginDecksUptoCardSaid : Prop := Claim7.holds Tryz.pinned (.plain (OpenSpec.upto beginDecksSpec)) beginDecksUptoCard
end Rows
end Go.Proofs.YteginlijmbcopaaGreatDoor
