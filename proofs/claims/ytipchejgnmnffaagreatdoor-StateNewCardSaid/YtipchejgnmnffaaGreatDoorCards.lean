/-
  DERIVED. GIVEN WITH THE SEED: THE CARDS: each row of YtipchejgnmnffaaGreatDoorRows.lean that lists a variable, with what it lists TIED to the program's text (the seventh form; the later family's looks); each row that meets fmt, with fmt's text TOLD by the authors' own Lean function (tested against real Go, not proved from fmt's source: count such statements apart). THE CARD IS WHAT COUNTS. Prove the row's statement (the work); the ties are given (YtipchejgnmnffaaGreatDoorTie.lean); close each card by the builder's one call (the guide's Derived/Test/ToyasCard.lean, 'card_holds'). Laid BY PROGRAM, IN A SANDBOX (cutbox-door.mjs). By AI agents, Wed Nov 11 2026. No macro, syntax, notation, axiom, sorry.
-/
import Derived.Test.YtipchejgnmnffaaGreatDoorRows
import GoSem.ClaimSeven
namespace Go.Proofs.YtipchejgnmnffaaGreatDoor
namespace Rows

/-- THE TIED CARD OF 'cardgamelaw26.StateNew'. -/
def stateNewCard : Claim7 := { stood := { row := stateNewRow, standIns := [], harness := (true, "1ca92ed9858ab6df1f7745c58ab6cdc4b4ea6b16fe9cd49197f32e9cb2748220"), looks := false }, kinds := [], alts := [], laidByText := true, laidKinds := [.data, .data, .data, .widerDeep, .data], laidTests := true, laidLooks := .later }
def StateNewCardSaid : Prop := Claim7.holds Tryz.pinned (.plain (OpenSpec.ofChange stateNewSpec)) stateNewCard

/-- THE TIED CARD OF 'cardgamelaw26.StateSame'. -/
def stateSameCard : Claim7 := { stood := { row := stateSameRow, standIns := [], harness := (true, "1ca92ed9858ab6df1f7745c58ab6cdc4b4ea6b16fe9cd49197f32e9cb2748220"), looks := false }, kinds := [], alts := [], laidByText := true, laidKinds := [.data, .data, .data, .widerDeep, .data], laidTests := true, laidLooks := .later }
def StateSameCardSaid : Prop := Claim7.holds Tryz.pinned (.plain (OpenSpec.ofChange stateSameSpec)) stateSameCard

/-- THE TIED CARD OF 'cardgamelaw26.StateTurns'. -/
def stateTurnsCard : Claim7 := { stood := { row := stateTurnsRow, standIns := [], harness := (true, "1ca92ed9858ab6df1f7745c58ab6cdc4b4ea6b16fe9cd49197f32e9cb2748220"), looks := false }, kinds := [], alts := [], laidByText := true, laidKinds := [.data, .data, .data, .widerDeep, .data], laidTests := true, laidLooks := .later }
def StateTurnsCardSaid : Prop := Claim7.holds Tryz.pinned (.plain (OpenSpec.ofChange stateTurnsSpec)) stateTurnsCard

/-- THE TIED CARD OF 'cardgamelaw26.StateRound'. -/
def stateRoundCard : Claim7 := { stood := { row := stateRoundRow, standIns := [], harness := (true, "1ca92ed9858ab6df1f7745c58ab6cdc4b4ea6b16fe9cd49197f32e9cb2748220"), looks := false }, kinds := [], alts := [], laidByText := true, laidKinds := [.data, .data, .data, .widerDeep, .data], laidTests := true, laidLooks := .later }
def StateRoundCardSaid : Prop := Claim7.holds Tryz.pinned (.plain (OpenSpec.ofChange stateRoundSpec)) stateRoundCard

/-- THE TIED CARD OF 'cardgamelaw26.StateEnds'. -/
def stateEndsCard : Claim7 := { stood := { row := stateEndsRow, standIns := [], harness := (true, "1ca92ed9858ab6df1f7745c58ab6cdc4b4ea6b16fe9cd49197f32e9cb2748220"), looks := false }, kinds := [], alts := [], laidByText := true, laidKinds := [.data, .data, .data, .widerDeep, .data], laidTests := true, laidLooks := .later }
def StateEndsCardSaid : Prop := Claim7.holds Tryz.pinned (.plain (OpenSpec.ofChange stateEndsSpec)) stateEndsCard

/-- THE SECOND FORM's CARD OF 'cardgamelaw26.StateNew'. -/
def stateNewUptoCard : Claim7 := { stood := { row := stateNewUptoRow, standIns := [], harness := (true, "1ca92ed9858ab6df1f7745c58ab6cdc4b4ea6b16fe9cd49197f32e9cb2748220"), looks := false }, kinds := [], alts := [], laidByText := true, laidKinds := [.data, .data, .data, .widerDeep, .data], laidTests := true, laidLooks := .later }
def StateNewUptoCardSaid : Prop := Claim7.holds Tryz.pinned (.plain (OpenSpec.upto stateNewSpec)) stateNewUptoCard

/-- THE SECOND FORM's CARD OF 'cardgamelaw26.StateSame'. -/
def stateSameUptoCard : Claim7 := { stood := { row := stateSameUptoRow, standIns := [], harness := (true, "1ca92ed9858ab6df1f7745c58ab6cdc4b4ea6b16fe9cd49197f32e9cb2748220"), looks := false }, kinds := [], alts := [], laidByText := true, laidKinds := [.data, .data, .data, .widerDeep, .data], laidTests := true, laidLooks := .later }
def StateSameUptoCardSaid : Prop := Claim7.holds Tryz.pinned (.plain (OpenSpec.upto stateSameSpec)) stateSameUptoCard

/-- THE SECOND FORM's CARD OF 'cardgamelaw26.StateTurns'. -/
def stateTurnsUptoCard : Claim7 := { stood := { row := stateTurnsUptoRow, standIns := [], harness := (true, "1ca92ed9858ab6df1f7745c58ab6cdc4b4ea6b16fe9cd49197f32e9cb2748220"), looks := false }, kinds := [], alts := [], laidByText := true, laidKinds := [.data, .data, .data, .widerDeep, .data], laidTests := true, laidLooks := .later }
def StateTurnsUptoCardSaid : Prop := Claim7.holds Tryz.pinned (.plain (OpenSpec.upto stateTurnsSpec)) stateTurnsUptoCard

/-- THE SECOND FORM's CARD OF 'cardgamelaw26.StateRound'. -/
def stateRoundUptoCard : Claim7 := { stood := { row := stateRoundUptoRow, standIns := [], harness := (true, "1ca92ed9858ab6df1f7745c58ab6cdc4b4ea6b16fe9cd49197f32e9cb2748220"), looks := false }, kinds := [], alts := [], laidByText := true, laidKinds := [.data, .data, .data, .widerDeep, .data], laidTests := true, laidLooks := .later }
def StateRoundUptoCardSaid : Prop := Claim7.holds Tryz.pinned (.plain (OpenSpec.upto stateRoundSpec)) stateRoundUptoCard

/-- THE SECOND FORM's CARD OF 'cardgamelaw26.StateEnds'. -/
def stateEndsUptoCard : Claim7 := { stood := { row := stateEndsUptoRow, standIns := [], harness := (true, "1ca92ed9858ab6df1f7745c58ab6cdc4b4ea6b16fe9cd49197f32e9cb2748220"), looks := false }, kinds := [], alts := [], laidByText := true, laidKinds := [.data, .data, .data, .widerDeep, .data], laidTests := true, laidLooks := .later }
def StateEndsUptoCardSaid : Prop := Claim7.holds Tryz.pinned (.plain (OpenSpec.upto stateEndsSpec)) stateEndsUptoCard
end Rows
end Go.Proofs.YtipchejgnmnffaaGreatDoor
