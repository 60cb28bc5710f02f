/- The example of the Begin laws. -/
import Derived.Test.YteginlijmbcopaaGreatDoorPlBlX
namespace Go.PL
open Go
set_option maxRecDepth 100000
theorem nS:Bg=some true:=by kernel_rfl
end Go.PL
