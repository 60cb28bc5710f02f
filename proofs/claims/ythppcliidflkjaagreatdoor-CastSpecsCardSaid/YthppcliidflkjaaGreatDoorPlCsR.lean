/- CastSpecs' fixed example, run. -/
import Derived.Test.YthppcliidflkjaaGreatDoorKrtoPlPx
import Derived.Test.YthppcliidflkjaaGreatDoorProg
import Derived.KernelRfl
namespace Go.PL
open Go Go.RowKit Go.Proofs
set_option maxRecDepth 100000
theorem ml:mh Tryz.prog [] [] 60 4 []=some (.c (.bool true)):=by kernel_rfl
end Go.PL
