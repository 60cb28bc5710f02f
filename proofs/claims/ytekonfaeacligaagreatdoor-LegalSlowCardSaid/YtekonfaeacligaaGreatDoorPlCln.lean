/- slices.Clone at any type: what it hands back is owned. -/
import Derived.Test.YtekonfaeacligaaGreatDoorPlPhtoPlYe
import Derived.Test.YtekonfaeacligaaGreatDoorPlRtoPlPg
import Derived.Test.YtekonfaeacligaaGreatDoorPlRtoPlPg
namespace Go.PL
open Go Go.RowKit
set_option maxRecDepth 100000
set_option linter.all false
set_option maxHeartbeats 4000000
end Go.PL
