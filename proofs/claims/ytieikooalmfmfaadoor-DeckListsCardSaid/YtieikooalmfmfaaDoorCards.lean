/-
  DERIVED. GIVEN WITH THE SEED: THE CARDS: each row of YtieikooalmfmfaaDoorRows.lean that lists a variable, with what it lists TIED to the program's text (the seventh form; the later family's looks); each row that meets fmt, with fmt's text TOLD by the authors' own Lean function (tested against real Go, not proved from fmt's source: count such statements apart). THE CARD IS WHAT COUNTS. Prove the row's statement (the work); the ties are given (YtieikooalmfmfaaDoorTie.lean); close each card by the builder's one call (the guide's Derived/Test/ToyasCard.lean, 'card_holds'). Laid BY PROGRAM, IN A SANDBOX (cutbox-door.mjs). By AI agents, Wed Nov 11 2026. No macro, syntax, notation, axiom, sorry.
-/
import Derived.Test.YtieikooalmfmfaaDoorRows
import GoSem.ClaimSeven
namespace Go.Proofs.YtieikooalmfmfaaDoor
namespace Rows

/-- THE TIED CARD OF 'cardgamelaw23.DeckLists'. -/
def deckListsCard : Claim7 := { stood := { row := deckListsRow, standIns := [], harness := (true, "9c160085faf7a73b70d3271d9741d9b8ebc3a4ee2d49bcc7f3eefa91c3f0e4c2"), looks := true }, kinds := [], alts := [], laidByText := true, laidKinds := [.data, .data, .data, .sentinel, .sentinel], laidTests := true, laidLooks := .later }
def DeckListsCardSaid : Prop := Claim7.holds Tryd.pinned (.plain (OpenSpec.ofChange deckListsSpec)) deckListsCard

/-- THE TIED CARD OF 'cardgamelaw08.ManaPays'. -/
def manaPaysCard : Claim7 := { stood := { row := manaPaysRow, standIns := [], harness := (true, "9c160085faf7a73b70d3271d9741d9b8ebc3a4ee2d49bcc7f3eefa91c3f0e4c2"), looks := true }, kinds := [], alts := [], laidByText := true, laidKinds := [.data, .data, .data, .sentinel, .sentinel], laidTests := true, laidLooks := .later }
def ManaPaysCardSaid : Prop := Claim7.holds Tryd.pinned (.plain (OpenSpec.ofChange manaPaysSpec)) manaPaysCard

/-- THE TIED CARD OF 'cardgamelaw08.ManaPaysAs'. -/
def manaPaysAsCard : Claim7 := { stood := { row := manaPaysAsRow, standIns := [], harness := (true, "9c160085faf7a73b70d3271d9741d9b8ebc3a4ee2d49bcc7f3eefa91c3f0e4c2"), looks := true }, kinds := [], alts := [], laidByText := true, laidKinds := [.data, .data, .data, .sentinel, .sentinel], laidTests := true, laidLooks := .later }
def ManaPaysAsCardSaid : Prop := Claim7.holds Tryd.pinned (.plain (OpenSpec.ofChange manaPaysAsSpec)) manaPaysAsCard

/-- THE TIED CARD OF 'cardgamelaw08.ManaTexts'. -/
def manaTextsCard : Claim7 := { stood := { row := manaTextsRow, standIns := [], harness := (true, "9c160085faf7a73b70d3271d9741d9b8ebc3a4ee2d49bcc7f3eefa91c3f0e4c2"), looks := true }, kinds := [], alts := [], laidByText := true, laidKinds := [.data, .data, .data, .sentinel, .sentinel], laidTests := true, laidLooks := .later }
def ManaTextsCardSaid : Prop := Claim7.holds Tryd.pinned (.plain (OpenSpec.ofChange manaTextsSpec)) manaTextsCard

/-- THE TIED CARD OF 'cardgamelaw08.ManaPools'. -/
def manaPoolsCard : Claim7 := { stood := { row := manaPoolsRow, standIns := [], harness := (true, "9c160085faf7a73b70d3271d9741d9b8ebc3a4ee2d49bcc7f3eefa91c3f0e4c2"), looks := true }, kinds := [], alts := [], laidByText := true, laidKinds := [.data, .data, .data, .sentinel, .sentinel], laidTests := true, laidLooks := .later }
def ManaPoolsCardSaid : Prop := Claim7.holds Tryd.pinned (.plain (OpenSpec.ofChange manaPoolsSpec)) manaPoolsCard

/-- THE TIED CARD OF 'cardgamelaw08.ManaParses'. -/
def manaParsesCard : Claim7 := { stood := { row := manaParsesRow, standIns := [], harness := (true, "9c160085faf7a73b70d3271d9741d9b8ebc3a4ee2d49bcc7f3eefa91c3f0e4c2"), looks := true }, kinds := [], alts := [], laidByText := true, laidKinds := [.data, .data, .data, .sentinel, .sentinel], laidTests := true, laidLooks := .later }
def ManaParsesCardSaid : Prop := Claim7.holds Tryd.pinned (.plain (OpenSpec.ofChange manaParsesSpec)) manaParsesCard

/-- THE TIED CARD OF 'cardgamelaw08.ManaBack'. -/
def manaBackCard : Claim7 := { stood := { row := manaBackRow, standIns := [], harness := (true, "9c160085faf7a73b70d3271d9741d9b8ebc3a4ee2d49bcc7f3eefa91c3f0e4c2"), looks := true }, kinds := [], alts := [], laidByText := true, laidKinds := [.data, .data, .data, .sentinel, .sentinel], laidTests := true, laidLooks := .later }
def ManaBackCardSaid : Prop := Claim7.holds Tryd.pinned (.plain (OpenSpec.ofChange manaBackSpec)) manaBackCard

/-- THE SECOND FORM's CARD OF 'cardgamelaw23.DeckLists'. -/
def deckListsUptoCard : Claim7 := { stood := { row := deckListsUptoRow, standIns := [], harness := (true, "9c160085faf7a73b70d3271d9741d9b8ebc3a4ee2d49bcc7f3eefa91c3f0e4c2"), looks := true }, kinds := [], alts := [], laidByText := true, laidKinds := [.data, .data, .data, .sentinel, .sentinel], laidTests := true, laidLooks := .later }
def DeckListsUptoCardSaid : Prop := Claim7.holds Tryd.pinned (.plain (OpenSpec.upto deckListsSpec)) deckListsUptoCard

/-- THE SECOND FORM's CARD OF 'cardgamelaw08.ManaPays'. -/
def manaPaysUptoCard : Claim7 := { stood := { row := manaPaysUptoRow, standIns := [], harness := (true, "9c160085faf7a73b70d3271d9741d9b8ebc3a4ee2d49bcc7f3eefa91c3f0e4c2"), looks := true }, kinds := [], alts := [], laidByText := true, laidKinds := [.data, .data, .data, .sentinel, .sentinel], laidTests := true, laidLooks := .later }
def ManaPaysUptoCardSaid : Prop := Claim7.holds Tryd.pinned (.plain (OpenSpec.upto manaPaysSpec)) manaPaysUptoCard

/-- THE SECOND FORM's CARD OF 'cardgamelaw08.ManaPaysAs'. -/
def manaPaysAsUptoCard : Claim7 := { stood := { row := manaPaysAsUptoRow, standIns := [], harness := (true, "9c160085faf7a73b70d3271d9741d9b8ebc3a4ee2d49bcc7f3eefa91c3f0e4c2"), looks := true }, kinds := [], alts := [], laidByText := true, laidKinds := [.data, .data, .data, .sentinel, .sentinel], laidTests := true, laidLooks := .later }
def ManaPaysAsUptoCardSaid : Prop := Claim7.holds Tryd.pinned (.plain (OpenSpec.upto manaPaysAsSpec)) manaPaysAsUptoCard

/-- THE SECOND FORM's CARD OF 'cardgamelaw08.ManaTexts'. -/
def manaTextsUptoCard : Claim7 := { stood := { row := manaTextsUptoRow, standIns := [], harness := (true, "9c160085faf7a73b70d3271d9741d9b8ebc3a4ee2d49bcc7f3eefa91c3f0e4c2"), looks := true }, kinds := [], alts := [], laidByText := true, laidKinds := [.data, .data, .data, .sentinel, .sentinel], laidTests := true, laidLooks := .later }
def ManaTextsUptoCardSaid : Prop := Claim7.holds Tryd.pinned (.plain (OpenSpec.upto manaTextsSpec)) manaTextsUptoCard

/-- THE SECOND FORM's CARD OF 'cardgamelaw08.ManaPools'. -/
def manaPoolsUptoCard : Claim7 := { stood := { row := manaPoolsUptoRow, standIns := [], harness := (true, "9c160085faf7a73b70d3271d9741d9b8ebc3a4ee2d49bcc7f3eefa91c3f0e4c2"), looks := true }, kinds := [], alts := [], laidByText := true, laidKinds := [.data, .data, .data, .sentinel, .sentinel], laidTests := true, laidLooks := .later }
def ManaPoolsUptoCardSaid : Prop := Claim7.holds Tryd.pinned (.plain (OpenSpec.upto manaPoolsSpec)) manaPoolsUptoCard

/-- THE SECOND FORM's CARD OF 'cardgamelaw08.ManaParses'. -/
def manaParsesUptoCard : Claim7 := { stood := { row := manaParsesUptoRow, standIns := [], harness := (true, "9c160085faf7a73b70d3271d9741d9b8ebc3a4ee2d49bcc7f3eefa91c3f0e4c2"), looks := true }, kinds := [], alts := [], laidByText := true, laidKinds := [.data, .data, .data, .sentinel, .sentinel], laidTests := true, laidLooks := .later }
def ManaParsesUptoCardSaid : Prop := Claim7.holds Tryd.pinned (.plain (OpenSpec.upto manaParsesSpec)) manaParsesUptoCard

/-- THE SECOND FORM's CARD OF 'cardgamelaw08.ManaBack'. -/
def manaBackUptoCard : Claim7 := { stood := { row := manaBackUptoRow, standIns := [], harness := (true, "9c160085faf7a73b70d3271d9741d9b8ebc3a4ee2d49bcc7f3eefa91c3f0e4c2"), looks := true }, kinds := [], alts := [], laidByText := true, laidKinds := [.data, .data, .data, .sentinel, .sentinel], laidTests := true, laidLooks := .later }
def ManaBackUptoCardSaid : Prop := Claim7.holds Tryd.pinned (.plain (OpenSpec.upto manaBackSpec)) manaBackUptoCard
end Rows
end Go.Proofs.YtieikooalmfmfaaDoor
