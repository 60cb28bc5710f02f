/- Functions of the program, as partial functions in Lean, with proofs. -/
import Derived.Test.YtieikooalmfmfaaDoorPlRtoPlPd
import Derived.Test.YtieikooalmfmfaaDoorPlMaB
namespace Go.PL
open Go Go.RowKit Go.Proofs
set_option maxRecDepth 100000
set_option linter.all false
set_option maxHeartbeats 1000000
def okA6 {α : Type} (ok : α → Prop) (a : A6 α) : Prop := ∀ y ∈ a.l, ok y
theorem dA6 {P : Program} {t e : TypeId} {n : Nat} {cs : List C} {α : Type} {enc : α → List C} {ok : α → Prop} (hu : P.underlying t = some (.array 6 e)) (hd : ∀ {n ds}, typed P n e ds → ∃ x, ds = enc x ∧ ok x) (h : typed P n t cs) : ∃ a : A6 α, cs = eA6 enc a ∧ okA6 ok a := by
  obtain ⟨l, h1, h2, h3⟩ := dA hu hd h
  subst h2
  match l, h1, h3 with
  | [x0, x1, x2, x3, x4, x5], _, h3 => exact ⟨⟨x0, x1, x2, x3, x4, x5⟩, rfl, h3⟩
end Go.PL
