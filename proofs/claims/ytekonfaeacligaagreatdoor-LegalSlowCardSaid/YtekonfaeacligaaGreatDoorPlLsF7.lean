/- Functions of the program, as partial functions in Lean, with proofs. -/
import Derived.Test.YtekonfaeacligaaGreatDoorPlLsB
import Derived.Test.YtekonfaeacligaaGreatDoorPlLsF6
namespace Go.PL
open Go Go.RowKit Go.Proofs
set_option maxRecDepth 100000
set_option linter.all false
set_option maxHeartbeats 4000000
attribute [local irreducible] Ak BW BI
def Wr (a0:List (BG)):Option (Bool):=
 (Cu a0).bind fun r1=>
 some (r1 != ([]:List UInt8))
def kZ:BH:=mC [HF] 170 Tryz.f170 .n [.k (.w_ 100)] [.k (.bool)] (fun x=>Wr x.1) Tryz.func170 (by kernel_rfl)
end Go.PL
