/- Functions of the program, as partial functions in Lean, with proofs. -/
import Derived.Test.YtipchejgnmnffaaGreatDoorPlStB
import Derived.Test.YtipchejgnmnffaaGreatDoorPlStF1
import Derived.Test.YtipchejgnmnffaaGreatDoorPlStF2
namespace Go.PL
open Go Go.RowKit Go.Proofs
set_option maxRecDepth 100000
set_option linter.all false
set_option maxHeartbeats 1000000
attribute [local irreducible] Holds thenQ blockQ
end Go.PL
