/- Functions of the program, as partial functions in Lean, with proofs. -/
import Derived.Test.YtiddnfpjgojoaaaGreatDoorPlEdB
import Derived.Test.YtiddnfpjgojoaaaGreatDoorPlEdF20
import Derived.Test.YtiddnfpjgojoaaaGreatDoorPlEdF21
namespace Go.PL
open Go Go.RowKit Go.Proofs
set_option maxRecDepth 100000
set_option linter.all false
set_option maxHeartbeats 4000000
attribute [local irreducible] Aj BO Bz
def Jg (a0:List (A1)) (a1:Ao):Option (Bool):=
 (Of a0).bind fun r1=>
 (gd ((r1.2==0)==true) (ei a0 a1)).bind fun r2=>
 (some (if(r1.2==0)=true then r2 else false)).bind fun b3=>
 some b3
def Zo:CE TE Tryz.prog I0:=AK [iR,sj] Ab Ad 9 4 Tryz.f4 (Tryz.f4.body.getD .skip) .n [.k (.lst 73), .s 31] [.k (.bool)] (fun x=>Jg x.1 x.2.1) Tryz.func4 rfl (by kernel_rfl)
end Go.PL
