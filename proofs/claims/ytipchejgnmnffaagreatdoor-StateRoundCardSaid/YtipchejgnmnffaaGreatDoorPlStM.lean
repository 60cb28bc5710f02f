/- Plain laws of the state chapter: the reference's comparisons, and its light states. -/
import Derived.Test.YtipchejgnmnffaaGreatDoorPlStL
namespace Go.PL
open Go
set_option maxRecDepth 100000
set_option linter.all false
set_option maxHeartbeats 1000000
section
variable {α : Type} [Inhabited α] [DecidableEq α] {l m : List α} {B : Int → Option (Int ⊕ (Unit ⊕ Unit))}
end
end Go.PL
