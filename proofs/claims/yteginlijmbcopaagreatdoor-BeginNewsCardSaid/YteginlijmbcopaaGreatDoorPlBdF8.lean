/- Functions of the program, as partial functions in Lean, with proofs. -/
import Derived.Test.YteginlijmbcopaaGreatDoorPlBdB
import Derived.Test.YteginlijmbcopaaGreatDoorPlBdF0
import Derived.Test.YteginlijmbcopaaGreatDoorPlBdF7
namespace Go.PL
open Go Go.RowKit Go.Proofs
set_option maxRecDepth 100000
set_option linter.all false
set_option maxHeartbeats 4000000
attribute [local irreducible] Ae Cq Cl
def Gv (a0:Av) (a1:Int):Option (Bool):=
 (Gu a0.Op).bind fun r1=>
 (gd ((r1 != ([]:List UInt8))==true) (JI a0.Op)).bind fun r2=>
 (gd ((r1 != ([]:List UInt8))==true) (Ju a0 r2 a1)).bind fun r3=>
 (some (if(r1 != ([]:List UInt8)) then r3 else false)).bind fun b4=>
 some b4
def pw:Bb:=mC [dw,oF,cQ] 208 Tryz.f208 .n [.s 180, .k (.int .i64)] [.k (.bool)] (fun x=>Gv x.1 x.2.1) Tryz.func208 (by kernel_rfl)
def UC (a0:List (AZ)):Option (Bool):=
 (Fd a0).bind fun r1=>
 some (r1 != ([]:List UInt8))
def sV:Bb:=mC [PS] 229 Tryz.f229 .n [.k (.l_ 148)] [.k (.bool)] (fun x=>UC x.1) Tryz.func229 (by kernel_rfl)
end Go.PL
