/-
  DERIVED. GIVEN WITH THE SEED: THE CARDS: each row of YtkbcgcmklmelbaaDoorRows.lean that lists a variable, with what it lists TIED to the program's text (the seventh form; the later family's looks); each row that meets fmt, with fmt's text TOLD by the authors' own Lean function (tested against real Go, not proved from fmt's source: count such statements apart). THE CARD IS WHAT COUNTS. Prove the row's statement (the work); the ties are given (YtkbcgcmklmelbaaDoorTie.lean); close each card by the builder's one call (the guide's Derived/Test/ToyasCard.lean, 'card_holds'). Laid BY PROGRAM, IN A SANDBOX (cutbox-door.mjs). By AI agents, Wed Nov 11 2026. No macro, syntax, notation, axiom, sorry.
-/
import Derived.Test.YtkbcgcmklmelbaaDoorRows
import GoSem.ClaimSeven
namespace Go.Proofs.YtkbcgcmklmelbaaDoor
namespace Rows

/-- THE TIED CARD OF 'cardgamelaw01.NumBits'. -/
def numBitsCard : Claim7 := { stood := { row := numBitsRow, standIns := [], harness := (true, "9502dc96840f0beae818da440726bec20b6d99db3bc83b25cc88ddab16da2cf2"), looks := true }, kinds := [], alts := [], laidByText := true, laidKinds := [.data, .data, .data, .sentinel, .sentinel], laidTests := true, laidLooks := .later }
def NumBitsCardSaid : Prop := Claim7.holds Tryd.pinned (.plain (OpenSpec.ofChange numBitsSpec)) numBitsCard

/-- THE TIED CARD OF 'cardgamelaw01.NumTexts'. -/
def numTextsCard : Claim7 := { stood := { row := numTextsRow, standIns := [], harness := (true, "9502dc96840f0beae818da440726bec20b6d99db3bc83b25cc88ddab16da2cf2"), looks := true }, kinds := [], alts := [], laidByText := true, laidKinds := [.data, .data, .data, .sentinel, .sentinel], laidTests := true, laidLooks := .later }
def NumTextsCardSaid : Prop := Claim7.holds Tryd.pinned (.plain (OpenSpec.ofChange numTextsSpec)) numTextsCard

/-- THE TIED CARD OF 'cardgamelaw01.NumBack'. -/
def numBackCard : Claim7 := { stood := { row := numBackRow, standIns := [], harness := (true, "9502dc96840f0beae818da440726bec20b6d99db3bc83b25cc88ddab16da2cf2"), looks := true }, kinds := [], alts := [], laidByText := true, laidKinds := [.data, .data, .data, .sentinel, .sentinel], laidTests := true, laidLooks := .later }
def NumBackCardSaid : Prop := Claim7.holds Tryd.pinned (.plain (OpenSpec.ofChange numBackSpec)) numBackCard

/-- THE TIED CARD OF 'cardgamelaw01.NumMeets'. -/
def numMeetsCard : Claim7 := { stood := { row := numMeetsRow, standIns := [], harness := (true, "9502dc96840f0beae818da440726bec20b6d99db3bc83b25cc88ddab16da2cf2"), looks := true }, kinds := [], alts := [], laidByText := true, laidKinds := [.data, .data, .data, .sentinel, .sentinel], laidTests := true, laidLooks := .later }
def NumMeetsCardSaid : Prop := Claim7.holds Tryd.pinned (.plain (OpenSpec.ofChange numMeetsSpec)) numMeetsCard

/-- THE TIED CARD OF 'cardgamelaw01.NumArithmetic'. -/
def numArithmeticCard : Claim7 := { stood := { row := numArithmeticRow, standIns := [], harness := (true, "9502dc96840f0beae818da440726bec20b6d99db3bc83b25cc88ddab16da2cf2"), looks := true }, kinds := [], alts := [], laidByText := true, laidKinds := [.data, .data, .data, .sentinel, .sentinel], laidTests := true, laidLooks := .later }
def NumArithmeticCardSaid : Prop := Claim7.holds Tryd.pinned (.plain (OpenSpec.ofChange numArithmeticSpec)) numArithmeticCard

/-- THE TIED CARD OF 'cardgamelaw01.NumSaturates'. -/
def numSaturatesCard : Claim7 := { stood := { row := numSaturatesRow, standIns := [], harness := (true, "9502dc96840f0beae818da440726bec20b6d99db3bc83b25cc88ddab16da2cf2"), looks := true }, kinds := [], alts := [], laidByText := true, laidKinds := [.data, .data, .data, .sentinel, .sentinel], laidTests := true, laidLooks := .later }
def NumSaturatesCardSaid : Prop := Claim7.holds Tryd.pinned (.plain (OpenSpec.ofChange numSaturatesSpec)) numSaturatesCard

/-- THE SECOND FORM's CARD OF 'cardgamelaw01.NumBits'. -/
def numBitsUptoCard : Claim7 := { stood := { row := numBitsUptoRow, standIns := [], harness := (true, "9502dc96840f0beae818da440726bec20b6d99db3bc83b25cc88ddab16da2cf2"), looks := true }, kinds := [], alts := [], laidByText := true, laidKinds := [.data, .data, .data, .sentinel, .sentinel], laidTests := true, laidLooks := .later }
def NumBitsUptoCardSaid : Prop := Claim7.holds Tryd.pinned (.plain (OpenSpec.upto numBitsSpec)) numBitsUptoCard

/-- THE SECOND FORM's CARD OF 'cardgamelaw01.NumTexts'. -/
def numTextsUptoCard : Claim7 := { stood := { row := numTextsUptoRow, standIns := [], harness := (true, "9502dc96840f0beae818da440726bec20b6d99db3bc83b25cc88ddab16da2cf2"), looks := true }, kinds := [], alts := [], laidByText := true, laidKinds := [.data, .data, .data, .sentinel, .sentinel], laidTests := true, laidLooks := .later }
def NumTextsUptoCardSaid : Prop := Claim7.holds Tryd.pinned (.plain (OpenSpec.upto numTextsSpec)) numTextsUptoCard

/-- THE SECOND FORM's CARD OF 'cardgamelaw01.NumBack'. -/
def numBackUptoCard : Claim7 := { stood := { row := numBackUptoRow, standIns := [], harness := (true, "9502dc96840f0beae818da440726bec20b6d99db3bc83b25cc88ddab16da2cf2"), looks := true }, kinds := [], alts := [], laidByText := true, laidKinds := [.data, .data, .data, .sentinel, .sentinel], laidTests := true, laidLooks := .later }
def NumBackUptoCardSaid : Prop := Claim7.holds Tryd.pinned (.plain (OpenSpec.upto numBackSpec)) numBackUptoCard

/-- THE SECOND FORM's CARD OF 'cardgamelaw01.NumMeets'. -/
def numMeetsUptoCard : Claim7 := { stood := { row := numMeetsUptoRow, standIns := [], harness := (true, "9502dc96840f0beae818da440726bec20b6d99db3bc83b25cc88ddab16da2cf2"), looks := true }, kinds := [], alts := [], laidByText := true, laidKinds := [.data, .data, .data, .sentinel, .sentinel], laidTests := true, laidLooks := .later }
def NumMeetsUptoCardSaid : Prop := Claim7.holds Tryd.pinned (.plain (OpenSpec.upto numMeetsSpec)) numMeetsUptoCard

/-- THE SECOND FORM's CARD OF 'cardgamelaw01.NumArithmetic'. -/
def numArithmeticUptoCard : Claim7 := { stood := { row := numArithmeticUptoRow, standIns := [], harness := (true, "9502dc96840f0beae818da440726bec20b6d99db3bc83b25cc88ddab16da2cf2"), looks := true }, kinds := [], alts := [], laidByText := true, laidKinds := [.data, .data, .data, .sentinel, .sentinel], laidTests := true, laidLooks := .later }
def NumArithmeticUptoCardSaid : Prop := Claim7.holds Tryd.pinned (.plain (OpenSpec.upto numArithmeticSpec)) numArithmeticUptoCard

/-- THE SECOND FORM's CARD OF 'cardgamelaw01.NumSaturates'. -/
def numSaturatesUptoCard : Claim7 := { stood := { row := numSaturatesUptoRow, standIns := [], harness := (true, "9502dc96840f0beae818da440726bec20b6d99db3bc83b25cc88ddab16da2cf2"), looks := true }, kinds := [], alts := [], laidByText := true, laidKinds := [.data, .data, .data, .sentinel, .sentinel], laidTests := true, laidLooks := .later }
def NumSaturatesUptoCardSaid : Prop := Claim7.holds Tryd.pinned (.plain (OpenSpec.upto numSaturatesSpec)) numSaturatesUptoCard
end Rows
end Go.Proofs.YtkbcgcmklmelbaaDoor
