/-
  DERIVED. GIVEN WITH THE SEED: THE CARDS: each row of YtlinpadogiggaaaGreatDoorRows.lean that lists a variable, with what it lists TIED to the program's text (the seventh form; the later family's looks); each row that meets fmt, with fmt's text TOLD by the authors' own Lean function (tested against real Go, not proved from fmt's source: count such statements apart). THE CARD IS WHAT COUNTS. Prove the row's statement (the work); the ties are given (YtlinpadogiggaaaGreatDoorTie.lean); close each card by the builder's one call (the guide's Derived/Test/ToyasCard.lean, 'card_holds'). Laid BY PROGRAM, IN A SANDBOX (cutbox-door.mjs). By AI agents, Wed Nov 11 2026. No macro, syntax, notation, axiom, sorry.
-/
import Derived.Test.YtlinpadogiggaaaGreatDoorRows
import GoSem.ClaimSeven
namespace Go.Proofs.YtlinpadogiggaaaGreatDoor
namespace Rows

/-- THE TIED CARD OF 'cardgamelaw32.EventIs'. -/
def eventIsCard : Claim7 := { stood := { row := eventIsRow, standIns := [], harness := (true, "d487db8b22076526a9e927621341c965ce94246b48df66262c1dda82d79d11aa"), looks := false }, kinds := [], alts := [], laidByText := true, laidKinds := [.data, .data, .data], laidTests := true, laidLooks := .later }
def EventIsCardSaid : Prop := Claim7.holds Tryz.pinned (.plain (OpenSpec.ofChange eventIsSpec)) eventIsCard

/-- THE TIED CARD OF 'cardgamelaw32.EventDecides'. -/
def eventDecidesCard : Claim7 := { stood := { row := eventDecidesRow, standIns := [], harness := (true, "d487db8b22076526a9e927621341c965ce94246b48df66262c1dda82d79d11aa"), looks := false }, kinds := [], alts := [], laidByText := true, laidKinds := [.data, .data, .data], laidTests := true, laidLooks := .later }
def EventDecidesCardSaid : Prop := Claim7.holds Tryz.pinned (.plain (OpenSpec.ofChange eventDecidesSpec)) eventDecidesCard

/-- THE TIED CARD OF 'cardgamelaw32.EventPossible'. -/
def eventPossibleCard : Claim7 := { stood := { row := eventPossibleRow, standIns := [], harness := (true, "d487db8b22076526a9e927621341c965ce94246b48df66262c1dda82d79d11aa"), looks := false }, kinds := [], alts := [], laidByText := true, laidKinds := [.data, .data, .data], laidTests := true, laidLooks := .later }
def EventPossibleCardSaid : Prop := Claim7.holds Tryz.pinned (.plain (OpenSpec.ofChange eventPossibleSpec)) eventPossibleCard

/-- THE TIED CARD OF 'cardgamelaw32.EventAmounts'. -/
def eventAmountsCard : Claim7 := { stood := { row := eventAmountsRow, standIns := [], harness := (true, "d487db8b22076526a9e927621341c965ce94246b48df66262c1dda82d79d11aa"), looks := false }, kinds := [], alts := [], laidByText := true, laidKinds := [.data, .data, .data], laidTests := true, laidLooks := .later }
def EventAmountsCardSaid : Prop := Claim7.holds Tryz.pinned (.plain (OpenSpec.ofChange eventAmountsSpec)) eventAmountsCard

/-- THE SECOND FORM's CARD OF 'cardgamelaw32.EventIs'. -/
def eventIsUptoCard : Claim7 := { stood := { row := eventIsUptoRow, standIns := [], harness := (true, "d487db8b22076526a9e927621341c965ce94246b48df66262c1dda82d79d11aa"), looks := false }, kinds := [], alts := [], laidByText := true, laidKinds := [.data, .data, .data], laidTests := true, laidLooks := .later }
def EventIsUptoCardSaid : Prop := Claim7.holds Tryz.pinned (.plain (OpenSpec.upto eventIsSpec)) eventIsUptoCard

/-- THE SECOND FORM's CARD OF 'cardgamelaw32.EventDecides'. -/
def eventDecidesUptoCard : Claim7 := { stood := { row := eventDecidesUptoRow, standIns := [], harness := (true, "d487db8b22076526a9e927621341c965ce94246b48df66262c1dda82d79d11aa"), looks := false }, kinds := [], alts := [], laidByText := true, laidKinds := [.data, .data, .data], laidTests := true, laidLooks := .later }
def EventDecidesUptoCardSaid : Prop := Claim7.holds Tryz.pinned (.plain (OpenSpec.upto eventDecidesSpec)) eventDecidesUptoCard

/-- THE SECOND FORM's CARD OF 'cardgamelaw32.EventPossible'. -/
def eventPossibleUptoCard : Claim7 := { stood := { row := eventPossibleUptoRow, standIns := [], harness := (true, "d487db8b22076526a9e927621341c965ce94246b48df66262c1dda82d79d11aa"), looks := false }, kinds := [], alts := [], laidByText := true, laidKinds := [.data, .data, .data], laidTests := true, laidLooks := .later }
def EventPossibleUptoCardSaid : Prop := Claim7.holds Tryz.pinned (.plain (OpenSpec.upto eventPossibleSpec)) eventPossibleUptoCard

/-- THE SECOND FORM's CARD OF 'cardgamelaw32.EventAmounts'. -/
def eventAmountsUptoCard : Claim7 := { stood := { row := eventAmountsUptoRow, standIns := [], harness := (true, "d487db8b22076526a9e927621341c965ce94246b48df66262c1dda82d79d11aa"), looks := false }, kinds := [], alts := [], laidByText := true, laidKinds := [.data, .data, .data], laidTests := true, laidLooks := .later }
def EventAmountsUptoCardSaid : Prop := Claim7.holds Tryz.pinned (.plain (OpenSpec.upto eventAmountsSpec)) eventAmountsUptoCard
end Rows
end Go.Proofs.YtlinpadogiggaaaGreatDoor
