/- copyCheck of a strings.Builder, at this seat. -/
import Derived.Test.YtieikooalmfmfaaDoorPlShelf
namespace Go.Proofs
open Go.Shelf Go.RowKit
theorem Tryd.copyCheck_used (b : Nat) (w : World) (h0 : w.cell? ⟨b, 0, none⟩ = some (.pointer (some ⟨b, 0, none⟩))) :
    Calls Tryd.prog 82 #[.pointer (some ⟨b, 0, none⟩)] w fun e w' => e = .returned (.tuple #[]) ∧ w' = w :=
  Any.Builder_copyCheck_used (P := Tryd.prog) (ρ := Tryd.lays105_ren) { Tryd.lays105 with } Tryd.Builder_Extra_105.toX72 b w h0
theorem Tryd.copyCheck_fresh (b : Nat) (w : World) (h0 : w.cell? ⟨b, 0, none⟩ = some (.pointer none)) (hsh : w.shape? b = some (89, 2)) (hfz : w.frozen? ⟨b, 0, none⟩ = false) :
    Calls Tryd.prog 82 #[.pointer (some ⟨b, 0, none⟩)] w fun e w' => e = .returned (.tuple #[]) ∧ w' = w.setCell ⟨b, 0, none⟩ (.pointer (some ⟨b, 0, none⟩)) :=
  Any.Builder_copyCheck_fresh (P := Tryd.prog) (ρ := Tryd.lays105_ren) { Tryd.lays105 with } Tryd.Builder_Extra_105.toX72 b w h0 hsh hfz
end Go.Proofs
