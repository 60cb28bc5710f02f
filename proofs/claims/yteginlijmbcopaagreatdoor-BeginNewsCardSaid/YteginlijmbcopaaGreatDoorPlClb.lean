/- The example of the Begin laws. -/
import Derived.Test.YteginlijmbcopaaGreatDoorPlBdX
namespace Go.PL
open Go
set_option maxRecDepth 100000
theorem pA:IL=some true:=by kernel_rfl
end Go.PL
