/- What the answers of the Begin laws are known for. -/
import Derived.Test.YteginlijmbcopaaGreatDoorPlBkR
import Derived.Test.YteginlijmbcopaaGreatDoorPlClc
namespace Go.PL
open Go
theorem ZG {an:List (List Int)} (h:sH 24 (sH 8 (Kv .i64)) an):an.length*24<=140737488355328/\ ∀ a∈an,a.length*8<=140737488355328:=by have h1:=h.1;unfold reachBytes at h1;refine⟨by omega,fun a ha=>?_⟩;have h2:=(h.2 a ha).1;unfold reachBytes at h2;omega
end Go.PL
