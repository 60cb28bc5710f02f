/-
  DERIVED. GIVEN WITH THE SEED: THE CARDS: each row of YtcmdlelhdimnfaaGreatDoorRows.lean that lists a variable, with what it lists TIED to the program's text (the seventh form; the later family's looks); each row that meets fmt, with fmt's text TOLD by the authors' own Lean function (tested against real Go, not proved from fmt's source: count such statements apart). THE CARD IS WHAT COUNTS. Prove the row's statement (the work); the ties are given (YtcmdlelhdimnfaaGreatDoorTie.lean); close each card by the builder's one call (the guide's Derived/Test/ToyasCard.lean, 'card_holds'). Laid BY PROGRAM, IN A SANDBOX (cutbox-door.mjs). By AI agents, Wed Nov 11 2026. No macro, syntax, notation, axiom, sorry.
-/
import Derived.Test.YtcmdlelhdimnfaaGreatDoorRows
import GoSem.ClaimSeven
namespace Go.Proofs.YtcmdlelhdimnfaaGreatDoor
namespace Rows

/-- THE TIED CARD OF 'cardgamelaw57.AuditCensus'. -/
def auditCensusCard : Claim7 := { stood := { row := auditCensusRow, standIns := [], harness := (true, "33e9ef1a82590c8540ec13857c424286548e1cd0013de8de3687d6b187c607ef"), looks := false }, kinds := [], alts := [], laidByText := true, laidKinds := [.data, .data, .data, .widerDeep, .data], laidTests := true, laidLooks := .later }
def AuditCensusCardSaid : Prop := Claim7.holds Tryz.pinned (.plain (OpenSpec.ofChange auditCensusSpec)) auditCensusCard

/-- THE SECOND FORM's CARD OF 'cardgamelaw57.AuditCensus'. -/
def auditCensusUptoCard : Claim7 := { stood := { row := auditCensusUptoRow, standIns := [], harness := (true, "33e9ef1a82590c8540ec13857c424286548e1cd0013de8de3687d6b187c607ef"), looks := false }, kinds := [], alts := [], laidByText := true, laidKinds := [.data, .data, .data, .widerDeep, .data], laidTests := true, laidLooks := .later }
def AuditCensusUptoCardSaid : Prop := Claim7.holds Tryz.pinned (.plain (OpenSpec.upto auditCensusSpec)) auditCensusUptoCard
end Rows
end Go.Proofs.YtcmdlelhdimnfaaGreatDoor
