/-
  DERIVED. GIVEN WITH THE SEED: THE CARDS: each row of YtedobbmpljbccaaGreatDoorRows.lean that lists a variable, with what it lists TIED to the program's text (the seventh form; the later family's looks); each row that meets fmt, with fmt's text TOLD by the authors' own Lean function (tested against real Go, not proved from fmt's source: count such statements apart). THE CARD IS WHAT COUNTS. Prove the row's statement (the work); the ties are given (YtedobbmpljbccaaGreatDoorTie.lean); close each card by the builder's one call (the guide's Derived/Test/ToyasCard.lean, 'card_holds'). Laid BY PROGRAM, IN A SANDBOX (cutbox-door.mjs). By AI agents, Wed Nov 11 2026. No macro, syntax, notation, axiom, sorry.
-/
import Derived.Test.YtedobbmpljbccaaGreatDoorRows
import GoSem.ClaimSeven
namespace Go.Proofs.YtedobbmpljbccaaGreatDoor
namespace Rows

/-- THE TIED CARD OF 'cardgamelaw23.DeckChecks'. -/
def deckChecksCard : Claim7 := { stood := { row := deckChecksRow, standIns := [], harness := (true, "f84ebd447c962023e5b66cf160f44adc06757da4faab9d5c9610262d5af49200"), looks := true }, kinds := [], alts := [], laidByText := true, laidKinds := [.data, .data, .data, .sentinel, .sentinel], laidTests := true, laidLooks := .later }
def DeckChecksCardSaid : Prop := Claim7.holds Tryz.pinned (.plain (OpenSpec.ofChange deckChecksSpec)) deckChecksCard

/-- THE TIED CARD OF 'cardgamelaw23.DeckTexts'. -/
def deckTextsCard : Claim7 := { stood := { row := deckTextsRow, standIns := [], harness := (true, "f84ebd447c962023e5b66cf160f44adc06757da4faab9d5c9610262d5af49200"), looks := true }, kinds := [], alts := [], laidByText := true, laidKinds := [.data, .data, .data, .sentinel, .sentinel], laidTests := true, laidLooks := .later }
def DeckTextsCardSaid : Prop := Claim7.holds Tryz.pinned (.plain (OpenSpec.ofChange deckTextsSpec)) deckTextsCard

/-- THE TIED CARD OF 'cardgamelaw23.DeckBack'. -/
def deckBackCard : Claim7 := { stood := { row := deckBackRow, standIns := [], harness := (true, "f84ebd447c962023e5b66cf160f44adc06757da4faab9d5c9610262d5af49200"), looks := true }, kinds := [], alts := [], laidByText := true, laidKinds := [.data, .data, .data, .sentinel, .sentinel], laidTests := true, laidLooks := .later }
def DeckBackCardSaid : Prop := Claim7.holds Tryz.pinned (.plain (OpenSpec.ofChange deckBackSpec)) deckBackCard

/-- THE TIED CARD OF 'cardgamelaw23.DeckWhole'. -/
def deckWholeCard : Claim7 := { stood := { row := deckWholeRow, standIns := [], harness := (true, "f84ebd447c962023e5b66cf160f44adc06757da4faab9d5c9610262d5af49200"), looks := true }, kinds := [], alts := [], laidByText := true, laidKinds := [.data, .data, .data, .sentinel, .sentinel], laidTests := true, laidLooks := .later }
def DeckWholeCardSaid : Prop := Claim7.holds Tryz.pinned (.plain (OpenSpec.ofChange deckWholeSpec)) deckWholeCard

/-- THE SECOND FORM's CARD OF 'cardgamelaw23.DeckChecks'. -/
def deckChecksUptoCard : Claim7 := { stood := { row := deckChecksUptoRow, standIns := [], harness := (true, "f84ebd447c962023e5b66cf160f44adc06757da4faab9d5c9610262d5af49200"), looks := true }, kinds := [], alts := [], laidByText := true, laidKinds := [.data, .data, .data, .sentinel, .sentinel], laidTests := true, laidLooks := .later }
def DeckChecksUptoCardSaid : Prop := Claim7.holds Tryz.pinned (.plain (OpenSpec.upto deckChecksSpec)) deckChecksUptoCard

/-- THE SECOND FORM's CARD OF 'cardgamelaw23.DeckTexts'. -/
def deckTextsUptoCard : Claim7 := { stood := { row := deckTextsUptoRow, standIns := [], harness := (true, "f84ebd447c962023e5b66cf160f44adc06757da4faab9d5c9610262d5af49200"), looks := true }, kinds := [], alts := [], laidByText := true, laidKinds := [.data, .data, .data, .sentinel, .sentinel], laidTests := true, laidLooks := .later }
def DeckTextsUptoCardSaid : Prop := Claim7.holds Tryz.pinned (.plain (OpenSpec.upto deckTextsSpec)) deckTextsUptoCard

/-- THE SECOND FORM's CARD OF 'cardgamelaw23.DeckBack'. -/
def deckBackUptoCard : Claim7 := { stood := { row := deckBackUptoRow, standIns := [], harness := (true, "f84ebd447c962023e5b66cf160f44adc06757da4faab9d5c9610262d5af49200"), looks := true }, kinds := [], alts := [], laidByText := true, laidKinds := [.data, .data, .data, .sentinel, .sentinel], laidTests := true, laidLooks := .later }
def DeckBackUptoCardSaid : Prop := Claim7.holds Tryz.pinned (.plain (OpenSpec.upto deckBackSpec)) deckBackUptoCard

/-- THE SECOND FORM's CARD OF 'cardgamelaw23.DeckWhole'. -/
def deckWholeUptoCard : Claim7 := { stood := { row := deckWholeUptoRow, standIns := [], harness := (true, "f84ebd447c962023e5b66cf160f44adc06757da4faab9d5c9610262d5af49200"), looks := true }, kinds := [], alts := [], laidByText := true, laidKinds := [.data, .data, .data, .sentinel, .sentinel], laidTests := true, laidLooks := .later }
def DeckWholeUptoCardSaid : Prop := Claim7.holds Tryz.pinned (.plain (OpenSpec.upto deckWholeSpec)) deckWholeUptoCard
end Rows
end Go.Proofs.YtedobbmpljbccaaGreatDoor
