/- The example of the Begin laws. -/
import Derived.Test.YteginlijmbcopaaGreatDoorPlBkX
namespace Go.PL
open Go
set_option maxRecDepth 100000
theorem lA:E3=some true:=by kernel_rfl
end Go.PL
