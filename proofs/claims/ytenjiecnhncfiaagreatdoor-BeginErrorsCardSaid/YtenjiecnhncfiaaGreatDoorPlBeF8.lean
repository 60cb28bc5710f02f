/- Functions of the program, as partial functions in Lean, with proofs. -/
import Derived.Test.YtenjiecnhncfiaaGreatDoorPlBeB
import Derived.Test.YtenjiecnhncfiaaGreatDoorPlBeF0
import Derived.Test.YtenjiecnhncfiaaGreatDoorPlBeF7
namespace Go.PL
open Go Go.RowKit Go.Proofs
set_option maxRecDepth 100000
set_option linter.all false
set_option maxHeartbeats 4000000
attribute [local irreducible] Ag Cv Co
def Gm (a0:Av) (a1:Int):Option (Bool):=
 (Gf a0.Op).bind fun r1=>
 (gd ((r1 != ([]:List UInt8))==true) (Jx a0.Op)).bind fun r2=>
 (gd ((r1 != ([]:List UInt8))==true) (Jl a0 r2 a1)).bind fun r3=>
 (some (if(r1 != ([]:List UInt8)) then r3 else false)).bind fun b4=>
 some b4
def nO:CE TE Tryz.prog I0:=AA [dF,mY,cI] Aa Ac 9 149 Tryz.f149 (Tryz.f149.body.getD .skip) .n [.s 126, .k (.int .i64)] [.k (.bool)] (fun x=>Gm x.1 x.2.1) Tryz.func149 rfl (by kernel_rfl)
def Un (a0:List (A1)):Option (Bool):=
 (E6 a0).bind fun r1=>
 some (r1 != ([]:List UInt8))
def rj:CE TE Tryz.prog I0:=AA [Pz] Aa Ac 9 165 Tryz.f165 (Tryz.f165.body.getD .skip) .n [.k (.u_ 140)] [.k (.bool)] (fun x=>Un x.1) Tryz.func165 rfl (by kernel_rfl)
end Go.PL
