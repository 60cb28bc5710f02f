/- Functions of the program, as partial functions in Lean, with proofs. -/
import Derived.Test.YteginlijmbcopaaGreatDoorPlBlB
import Derived.Test.YteginlijmbcopaaGreatDoorPlBlF13
import Derived.Test.YteginlijmbcopaaGreatDoorPlBlF14
namespace Go.PL
open Go Go.RowKit Go.Proofs
set_option maxRecDepth 100000
set_option linter.all false
set_option maxHeartbeats 4000000
attribute [local irreducible] Aq Cr Cc
def KM (a0:List (AN)) (a1:Aa):Option (Bool):=
 (L9 a0).bind fun r1=>
 (gd ((r1.2==0)==true) (jU a0 a1)).bind fun r2=>
 (some (if r1.2==0 then r2 else false)).bind fun b3=>
 some b3
def cY:A9:=mC [nQ,yP] 11 Tryz.f11 .n [.k (.u_ 102), .s 36] [.k (.bool)] (fun x=>KM x.1 x.2.1) Tryz.func11 (by kernel_rfl)
end Go.PL
