/- The example of the Begin laws. -/
import Derived.Test.YtenjiecnhncfiaaGreatDoorPlBeX
namespace Go.PL
open Go
set_option maxRecDepth 100000
theorem nQ:IB=some true:=by kernel_rfl
end Go.PL
