/- Functions of the program, as partial functions in Lean, with proofs. -/
import Derived.Test.YtiddnfpjgojoaaaGreatDoorPlEdB
import Derived.Test.YtiddnfpjgojoaaaGreatDoorPlEdF12
import Derived.Test.YtiddnfpjgojoaaaGreatDoorPlEdF19
import Derived.Test.YtiddnfpjgojoaaaGreatDoorPlEdF2
import Derived.Test.YtiddnfpjgojoaaaGreatDoorPlEdF22
import Derived.Test.YtiddnfpjgojoaaaGreatDoorPlEdF4
namespace Go.PL
open Go Go.RowKit Go.Proofs
set_option maxRecDepth 100000
set_option linter.all false
set_option maxHeartbeats 4000000
attribute [local irreducible] Aj BM By
def Cu (a0:List (A0)) (a1:Ao) (a2:Be):Option (Bool):=
 (I8 a0 a1).bind fun r1=>
 (if(!r1)=true then
  (ER).bind fun r3=>
  some r3
 else
  (VP a0 a1).bind fun r4=>
  (ER).bind fun r5=>
  (gd (r5==true) (Du a1 r4 a2)).bind fun r6=>
  (gd (r5==true) (Gy a1 r4 a2)).bind fun r7=>
  (some (if r5=true then r6==r7 else false)).bind fun b8=>
  some b8)
def M7:CE TE Tryz.prog I0:=AI [Y9,E_law32_alive,pv,LB,YH] Ab Ad 9 3 Tryz.f3 (Tryz.f3.body.getD .skip) .n [.k (.lst 73), .s 31, .s 34] [.k (.bool)] (fun x=>Cu x.1 x.2.1 x.2.2.1) Tryz.func3 rfl (by kernel_rfl)
def M8 (a0:List (A0)) (a1:Ao) (a2:Be) (r:Bool):Prop:=AP Tryz.prog I0 3 [vL B5 a0,vA A4 a1,vA FF a2] (· =vB r)
theorem LO {a0:List (A0)} {a1:Ao} {a2:Be} {r:Bool} (h:Cu a0 a1 a2=some r):M8 a0 a1 a2 r:=Cx (by kernel_rfl) (M7.ok (a0,a1,a2,()) r h)
end Go.PL
