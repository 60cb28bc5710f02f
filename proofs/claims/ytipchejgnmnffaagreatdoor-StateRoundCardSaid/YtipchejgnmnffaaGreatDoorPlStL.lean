/- Plain laws of the state chapter: comparisons, element by element. -/
import Derived.Test.YtipchejgnmnffaaGreatDoorPlPtoPlPd
import Derived.Test.YtipchejgnmnffaaGreatDoorPlStD
import Derived.Test.YtipchejgnmnffaaGreatDoorPlStF15
namespace Go.PL
open Go
set_option maxRecDepth 100000
set_option linter.all false
set_option maxHeartbeats 1000000
theorem ifO (b q : Bool) : (if b = true then true else q) = (b || q) := by cases b <;> rfl
section
variable {α : Type} [Inhabited α] [DecidableEq α] {l m : List α} {B : Int → Option (Int ⊕ (Unit ⊕ Unit))}
end
theorem okLen {α : Type} {b : Nat} {ok : α → Prop} {l : List α} (h : okL b ok l) (hb : 1 ≤ b := by decide) : l.length < 9223372036854775807 := by
  have h1 := h.1
  have : l.length * 1 ≤ l.length * b := Nat.mul_le_mul_left _ hb
  unfold reachBytes at h1
  omega
theorem okAt {α : Type} {b : Nat} {ok : α → Prop} {l : List α} (h : okL b ok l) {i : Nat} (hi : i < l.length) : ok l[i] := h.2 _ (List.getElem_mem hi)
end Go.PL
