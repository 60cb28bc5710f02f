/- Functions of the program, as partial functions in Lean, with proofs. -/
import Derived.Test.YtekonfaeacligaaGreatDoorPlLsB
import Derived.Test.YtekonfaeacligaaGreatDoorPlLsF0
import Derived.Test.YtekonfaeacligaaGreatDoorPlLsF1
import Derived.Test.YtekonfaeacligaaGreatDoorPlLsF12
import Derived.Test.YtekonfaeacligaaGreatDoorPlLsF3
import Derived.Test.YtekonfaeacligaaGreatDoorPlLsF4
namespace Go.PL
open Go Go.RowKit Go.Proofs
set_option maxRecDepth 100000
set_option linter.all false
set_option maxHeartbeats 4000000
attribute [local irreducible] Ak BW BI
def NN (a0:List (A4)) (a1:AF):Option (Bool):=
 (gd ((a1.Over==1)==true) (CB a1 a1.aeC)).bind fun r22=>
 (some (if a1.Over==1 then !r22 else false)).bind fun b23=>
 (some (if a1.Over != 1 then a1.aeC != (-1:Int)else false)).bind fun b24=>
 (some (if b23 then true else b24)).bind fun b25=>
 (if b25 then
  some false
 else
  (Ig a0 a1).bind fun r27=>
  (gd (r27==true) (Mv a1)).bind fun r28=>
  (some (if r27 then r28 else false)).bind fun b29=>
  some b29)
def NO (a1:AF) (aev:Int):Option ((Int)⊕(Unit⊕Bool)):=
 (if(decide (aev<(a1.Extra.length:Int))) then
  (idx a1.Extra aev).bind fun e35=>
  (CB a1 e35).bind fun r36=>
  (if !r36 then
   some (.inr (.inr false))
  else
   some (.inl (Aj (aev+1))))
 else
  some (.inr (.inl ())))
def bK (a0:List (A4)) (a1:AF):Option (Bool):=
 (Ds a1.aaE (1:Int) (1000000:Int)).bind fun r1=>
 (gd ((!r1)==false) (Ds a1.Ti (1:Int) (1000000:Int))).bind fun r2=>
 (some (if !r1 then true else !r2)).bind fun b3=>
 (gd (b3==false) (Ds a1.aaL (0:Int) (500:Int))).bind fun r4=>
 (some (if b3 then true else !r4)).bind fun b5=>
 (gd (b5==false) (Ds a1.Step (0:Int) (10:Int))).bind fun r6=>
 (some (if b5 then true else !r6)).bind fun b7=>
 (some (if b7 then true else decide (2048<(a1.b_.length:Int)))).bind fun b8=>
 (if b8 then
  some false
 else
  (Ih a1).bind fun r10=>
  (gd ((!r10)==false) (CB a1 a1.acq)).bind fun r11=>
  (some (if !r10 then true else !r11)).bind fun b12=>
  (gd (b12==false) (CB a1 a1.Priority)).bind fun r13=>
  (some (if b12 then true else !r13)).bind fun b14=>
  (gd (b14==false) (Ds a1.Passes (0:Int) (a1.e_.length:Int))).bind fun r15=>
  (some (if b14 then true else !r15)).bind fun b16=>
  (some (if b16 then true else decide (500<(a1.Extra.length:Int)))).bind fun b17=>
  (gd (b17==false) (Ds a1.Over (0:Int) (2:Int))).bind fun r18=>
  (some (if b17 then true else !r18)).bind fun b19=>
  (if b19 then
   some false
  else
   jn (fun(v:Unit)=>NN a0 a1) (fun agN=>
   (iter (fun(v:Int)=>NO a1 v) FU (0:Int)).bind (Sum.elim (fun o0=>agN ()) (fun o1=>some o1)))))
def tR:BH:=mC [LD,Xb,JT,W8,gJ] 10 Tryz.f10 (.s .n (.s .n (.s .n (.j ⟨[0,3],[],[[3]],[]⟩ (.s .n (.l ⟨[0,3],[Ci 5],[[3]],[]⟩ [(1,⟨[0,3],[],[[3]],[]⟩),(0,⟨[],[GE 4],[],[]⟩)] .n)) .n)))) [.k (.w_ 88), .s 31] [.k (.bool)] (fun x=>bK x.1 x.2.1) Tryz.func10 (by kernel_rfl)
end Go.PL
