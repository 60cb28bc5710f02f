/- LegalSlow's fixed example, run. -/
import Derived.Test.YtekonfaeacligaaGreatDoorKqtoPlPx
import Derived.Test.YtekonfaeacligaaGreatDoorProg
import Derived.KernelRfl
namespace Go.PL
open Go Go.RowKit Go.Proofs
set_option maxRecDepth 100000
theorem AaT:AaR Tryz.prog [] [] 60 5 []=some (.c (.bool true)):=by kernel_rfl
end Go.PL
