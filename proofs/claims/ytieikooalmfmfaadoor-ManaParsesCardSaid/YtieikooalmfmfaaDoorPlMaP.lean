/- Plain laws of the mana chapter: Whole, Pay; ManaPaysAs, ManaPays. -/
import Derived.Test.YtieikooalmfmfaaDoorPlMaL
namespace Go.PL
open Go
set_option maxRecDepth 100000
set_option linter.all false
set_option maxHeartbeats 1000000
/-! Whole. -/
/-! Pay. -/
def zP : A6 Int := ⟨0, 0, 0, 0, 0, 0⟩
def nd (n b : Int) : Int := n - (if b < n then b else n)
section
end
/-! The generic mana. -/
section
variable {B : Int → Int → A6 Int → Option ((Int × Int × (A6 Int)) ⊕ (Int × (A6 Int)))}
end
end Go.PL
