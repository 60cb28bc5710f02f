/- Plain laws of the state chapter: copies; a game's end. -/
import Derived.Test.YtipchejgnmnffaaGreatDoorPlStO
namespace Go.PL
open Go
set_option maxRecDepth 100000
set_option linter.all false
set_option maxHeartbeats 1000000
section
variable {α : Type} {b : Nat} {ok : α → Prop} {l : List α}
end
/-- A state with its end set. -/
def ended (s : SState) (o w : Int) : SState := { { s with Over := o } with Winner := w }
end Go.PL
