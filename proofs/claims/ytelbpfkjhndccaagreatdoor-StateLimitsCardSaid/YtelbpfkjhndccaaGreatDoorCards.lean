/-
  DERIVED. GIVEN WITH THE SEED: THE CARDS: each row of YtelbpfkjhndccaaGreatDoorRows.lean that lists a variable, with what it lists TIED to the program's text (the seventh form; the later family's looks); each row that meets fmt, with fmt's text TOLD by the authors' own Lean function (tested against real Go, not proved from fmt's source: count such statements apart). THE CARD IS WHAT COUNTS. Prove the row's statement (the work); the ties are given (YtelbpfkjhndccaaGreatDoorTie.lean); close each card by the builder's one call (the guide's Derived/Test/ToyasCard.lean, 'card_holds'). Laid BY PROGRAM, IN A SANDBOX (cutbox-door.mjs). By AI agents, Wed Nov 11 2026. No macro, syntax, notation, axiom, sorry.
-/
import Derived.Test.YtelbpfkjhndccaaGreatDoorRows
import GoSem.ClaimSeven
namespace Go.Proofs.YtelbpfkjhndccaaGreatDoor
namespace Rows

/-- THE TIED CARD OF 'cardgamelaw26.StateIs'. -/
def stateIsCard : Claim7 := { stood := { row := stateIsRow, standIns := [], harness := (true, "0c974c5e3d138b79f2219c07899572709eb06628119cda9dbabf547e44c7d385"), looks := false }, kinds := [], alts := [], laidByText := true, laidKinds := [.data, .data, .data, .widerDeep, .data], laidTests := true, laidLooks := .later }
def StateIsCardSaid : Prop := Claim7.holds Tryz.pinned (.plain (OpenSpec.ofChange stateIsSpec)) stateIsCard

/-- THE TIED CARD OF 'cardgamelaw26.StateLimits'. -/
def stateLimitsCard : Claim7 := { stood := { row := stateLimitsRow, standIns := [], harness := (true, "0c974c5e3d138b79f2219c07899572709eb06628119cda9dbabf547e44c7d385"), looks := false }, kinds := [], alts := [], laidByText := true, laidKinds := [.data, .data, .data, .widerDeep, .data], laidTests := true, laidLooks := .later }
def StateLimitsCardSaid : Prop := Claim7.holds Tryz.pinned (.plain (OpenSpec.ofChange stateLimitsSpec)) stateLimitsCard

/-- THE SECOND FORM's CARD OF 'cardgamelaw26.StateIs'. -/
def stateIsUptoCard : Claim7 := { stood := { row := stateIsUptoRow, standIns := [], harness := (true, "0c974c5e3d138b79f2219c07899572709eb06628119cda9dbabf547e44c7d385"), looks := false }, kinds := [], alts := [], laidByText := true, laidKinds := [.data, .data, .data, .widerDeep, .data], laidTests := true, laidLooks := .later }
def StateIsUptoCardSaid : Prop := Claim7.holds Tryz.pinned (.plain (OpenSpec.upto stateIsSpec)) stateIsUptoCard

/-- THE SECOND FORM's CARD OF 'cardgamelaw26.StateLimits'. -/
def stateLimitsUptoCard : Claim7 := { stood := { row := stateLimitsUptoRow, standIns := [], harness := (true, "0c974c5e3d138b79f2219c07899572709eb06628119cda9dbabf547e44c7d385"), looks := false }, kinds := [], alts := [], laidByText := true, laidKinds := [.data, .data, .data, .widerDeep, .data], laidTests := true, laidLooks := .later }
def StateLimitsUptoCardSaid : Prop := Claim7.holds Tryz.pinned (.plain (OpenSpec.upto stateLimitsSpec)) stateLimitsUptoCard
end Rows
end Go.Proofs.YtelbpfkjhndccaaGreatDoor
