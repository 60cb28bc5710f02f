/- Functions of the program, as partial functions in Lean, with proofs. -/
import Derived.Test.YteginlijmbcopaaGreatDoorPlBlB
import Derived.Test.YteginlijmbcopaaGreatDoorPlBlF0
import Derived.Test.YteginlijmbcopaaGreatDoorPlBlF13
import Derived.Test.YteginlijmbcopaaGreatDoorPlBlF2
import Derived.Test.YteginlijmbcopaaGreatDoorPlBlF4
import Derived.Test.YteginlijmbcopaaGreatDoorPlBlF5
namespace Go.PL
open Go Go.RowKit Go.Proofs
set_option maxRecDepth 100000
set_option linter.all false
set_option maxHeartbeats 4000000
attribute [local irreducible] Aq Cr Cc
def QY (a0:List (AN)) (a1:Aa):Option (Bool):=
 (gd ((a1.aae==1)==true) (Cx a1 a1.z_)).bind fun r22=>
 (some (if a1.aae==1 then !r22 else false)).bind fun b23=>
 (some (if a1.aae != 1 then a1.z_ != (-1:Int)else false)).bind fun b24=>
 (some (if b23 then true else b24)).bind fun b25=>
 (if b25 then
  some false
 else
  (KI a0 a1).bind fun r27=>
  (gd (r27==true) (Pn a1)).bind fun r28=>
  (some (if r27 then r28 else false)).bind fun b29=>
  some b29)
def QZ (a1:Aa) (amd:Int):Option ((Int)⊕(Unit⊕Bool)):=
 (if(decide (amd<(a1.Extra.length:Int))) then
  (idx a1.Extra amd).bind fun e35=>
  (Cx a1 e35).bind fun r36=>
  (if !r36 then
   some (.inr (.inr false))
  else
   some (.inl (Ab (amd+1))))
 else
  some (.inr (.inl ())))
def jU (a0:List (AN)) (a1:Aa):Option (Bool):=
 (Eu a1.f_ (1:Int) (1000000:Int)).bind fun r1=>
 (gd ((!r1)==false) (Eu a1.c_ (1:Int) (1000000:Int))).bind fun r2=>
 (some (if !r1 then true else !r2)).bind fun b3=>
 (gd (b3==false) (Eu a1.I_ (0:Int) (500:Int))).bind fun r4=>
 (some (if b3 then true else !r4)).bind fun b5=>
 (gd (b5==false) (Eu a1.Step (0:Int) (10:Int))).bind fun r6=>
 (some (if b5 then true else !r6)).bind fun b7=>
 (some (if b7 then true else decide (2048<(a1.b_.length:Int)))).bind fun b8=>
 (if b8 then
  some false
 else
  (KJ a1).bind fun r10=>
  (gd ((!r10)==false) (Cx a1 a1.k_)).bind fun r11=>
  (some (if !r10 then true else !r11)).bind fun b12=>
  (gd (b12==false) (Cx a1 a1.Priority)).bind fun r13=>
  (some (if b12 then true else !r13)).bind fun b14=>
  (gd (b14==false) (Eu a1.Passes (0:Int) (a1.a_.length:Int))).bind fun r15=>
  (some (if b14 then true else !r15)).bind fun b16=>
  (some (if b16 then true else decide (500<(a1.Extra.length:Int)))).bind fun b17=>
  (gd (b17==false) (Eu a1.aae (0:Int) (2:Int))).bind fun r18=>
  (some (if b17 then true else !r18)).bind fun b19=>
  (if b19 then
   some false
  else
   jn (fun(v:Unit)=>QY a0 a1) (fun aiG=>
   (iter (fun(v:Int)=>QZ a1 v) FU (0:Int)).bind (Sum.elim (fun o0=>aiG ()) (fun o1=>some o1)))))
def yP:A9:=mC [Oi,cQ,II,cL,nR] 18 Tryz.f18 (.s .n (.s .n (.s .n (.j ⟨[0,3],[],[[3]],[]⟩ (.s .n (.l ⟨[0,3],[A0 5],[[3]],[]⟩ [(1,⟨[0,3],[],[[3]],[]⟩),(0,⟨[],[EO 4],[],[]⟩)] .n)) .n)))) [.k (.u_ 102), .s 36] [.k (.bool)] (fun x=>jU x.1 x.2.1) Tryz.func18 (by kernel_rfl)
end Go.PL
