/- Plain laws of the state chapter: light states have an answer; the examples; Same. -/
import Derived.Test.YtipchejgnmnffaaGreatDoorPlStM
namespace Go.PL
open Go
set_option maxRecDepth 100000
set_option linter.all false
set_option maxHeartbeats 1000000
theorem gdS {α : Type} [Inhabited α] (g : Bool) (x : α) : gd g (some x) = some (if g = true then x else default) := by cases g <;> rfl
abbrev T {α : Type} (o : Option α) : Prop := ∃ r, o = some r
theorem okNil {α : Type} {b : Nat} {ok : α → Prop} : okL b ok [] := ⟨by simp, fun y h => by cases h⟩
theorem alive26 : law26_alive = some true := by rfl
end Go.PL
