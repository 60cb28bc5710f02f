/- Functions of the program, as partial functions in Lean, with proofs. -/
import Derived.Test.YteginlijmbcopaaGreatDoorPlBlB
import Derived.Test.YteginlijmbcopaaGreatDoorPlBlF7
namespace Go.PL
open Go Go.RowKit Go.Proofs
set_option maxRecDepth 100000
set_option linter.all false
set_option maxHeartbeats 4000000
attribute [local irreducible] Aq Cr Cc
def aI (a0:List (BB)):Option (Bool):=
 (Db a0).bind fun r1=>
 some (r1 != ([]:List UInt8))
def rA:A9:=mC [J5] 229 Tryz.f229 .n [.k (.u_ 148)] [.k (.bool)] (fun x=>aI x.1) Tryz.func229 (by kernel_rfl)
end Go.PL
