/- Functions of the program, as partial functions in Lean, with proofs. -/
import Derived.Test.YtiddnfpjgojoaaaGreatDoorPlEdB
import Derived.Test.YtiddnfpjgojoaaaGreatDoorPlEdF12
import Derived.Test.YtiddnfpjgojoaaaGreatDoorPlEdF19
import Derived.Test.YtiddnfpjgojoaaaGreatDoorPlEdF2
import Derived.Test.YtiddnfpjgojoaaaGreatDoorPlEdF22
import Derived.Test.YtiddnfpjgojoaaaGreatDoorPlEdF4
namespace Go.PL
open Go Go.RowKit Go.Proofs
set_option maxRecDepth 100000
set_option linter.all false
set_option maxHeartbeats 4000000
attribute [local irreducible] Aj BO Bz
def Cx (a0:List (A1)) (a1:Ao) (a2:Be):Option (Bool):=
 (Jg a0 a1).bind fun r1=>
 (if(!r1)=true then
  (EV).bind fun r3=>
  some r3
 else
  (VY a0 a1).bind fun r4=>
  (EV).bind fun r5=>
  (gd (r5==true) (Dx a1 r4 a2)).bind fun r6=>
  (gd (r5==true) (GE a1 r4 a2)).bind fun r7=>
  (some (if r5=true then r6==r7 else false)).bind fun b8=>
  some b8)
def Ni:CE TE Tryz.prog I0:=AK [Zo,E_law32_alive,pK,LN,YW] Ab Ad 9 3 Tryz.f3 (Tryz.f3.body.getD .skip) .n [.k (.lst 73), .s 31, .s 34] [.k (.bool)] (fun x=>Cx x.1 x.2.1 x.2.2.1) Tryz.func3 rfl (by kernel_rfl)
def Nj (a0:List (A1)) (a1:Ao) (a2:Be) (r:Bool):Prop:=AQ Tryz.prog I0 3 [vL B8 a0,vA A4 a1,vA FK a2] (· =vB r)
theorem L2 {a0:List (A1)} {a1:Ao} {a2:Be} {r:Bool} (h:Cx a0 a1 a2=some r):Nj a0 a1 a2 r:=Cz (by kernel_rfl) (Ni.ok (a0,a1,a2,()) r h)
end Go.PL
