/- Plain laws of the mana chapter: cost, PoolText, Add; ManaPools. -/
import Derived.Test.YtieikooalmfmfaaDoorPlMaT
import Derived.Test.YtieikooalmfmfaaDoorPlMaP
namespace Go.PL
open Go
set_option maxRecDepth 100000
set_option linter.all false
def costS (p : A6 Int) : SCost := ⟨p.x0, 0, ⟨p.x1, p.x2, p.x3, p.x4, p.x5⟩⟩
theorem cost_eq (p : A6 Int) : mana_cost p = some (costS p) := by kernel_rfl
section
end
end Go.PL
