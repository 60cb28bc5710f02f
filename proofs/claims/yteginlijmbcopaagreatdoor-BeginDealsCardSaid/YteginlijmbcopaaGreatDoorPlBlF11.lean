/- Functions of the program, as partial functions in Lean, with proofs. -/
import Derived.Test.YteginlijmbcopaaGreatDoorPlBlB
import Derived.Test.YteginlijmbcopaaGreatDoorPlBlF10
import Derived.Test.YteginlijmbcopaaGreatDoorPlBlF2
import Derived.Test.YteginlijmbcopaaGreatDoorPlBlF4
import Derived.Test.YteginlijmbcopaaGreatDoorPlBlF5
import Derived.Test.YteginlijmbcopaaGreatDoorPlBlF6
import Derived.Test.YteginlijmbcopaaGreatDoorPlBlF7
namespace Go.PL
open Go Go.RowKit Go.Proofs
set_option maxRecDepth 100000
set_option linter.all false
set_option maxHeartbeats 4000000
attribute [local irreducible] Aq Cr Cc
def fS (a0:AG) (b4:Bool):Option (Bool):=
 (if b4 then
  (Pk a0.acg).bind fun r10=>
  (gd (r10==true) (KL a0.w_ (a0.acg.length:Int))).bind fun r11=>
  (some (if r10 then r11 else false)).bind fun b12=>
  some b12
 else
  (some (if((a0.acg.length:Int)==0) then(a0.w_.length:Int)==0 else false)).bind fun b13=>
  some b13)
def fT (a0:AG) (b4:Bool):Option (Bool):=
 jn (fun(v:Unit)=>fS a0 b4) (fun jJ8=>
 (if a0.Kind==5 then
  (jT a0.Replace).bind fun r15=>
  (if !r15 then
   some false
  else
   jJ8 ())
 else if(!(a0.Replace==(⟨0,0,(⟨0,0,0,0,0,0,0,[],0,0,(⟨0,0⟩:As),(⟨0,0⟩:As),(⟨0,0⟩:As)⟩:Av),0,0,0,0⟩:Bn))) then
  some false
 else
  jJ8 ()))
def fU (a0:AG) (b4:Bool):Option (Bool):=
 jn (fun(v:Unit)=>fT a0 b4) (fun jJ7=>
 (if a0.Kind==4 then
  (jP a0.acv).bind fun r19=>
  (if !r19 then
   some false
  else
   jJ7 ())
 else
  (some (if(!(a0.acv==(⟨0,0,(⟨0,0,0,0,0,0,0,[],0,0,(⟨0,0⟩:As),(⟨0,0⟩:As),(⟨0,0⟩:As)⟩:Av)⟩:Bz))) then true else a0.May)).bind fun b21=>
  (if b21 then
   some false
  else
   jJ7 ())))
def fV (a0:AG) (b4:Bool):Option (Bool):=
 jn (fun(v:Unit)=>fU a0 b4) (fun jJ6=>
 (if a0.Kind==3 then
  (Pf a0.afC).bind fun r24=>
  (if !r24 then
   some false
  else
   jJ6 ())
 else
  (some (if(!(a0.afC==(⟨(⟨0,0,(⟨0,0,0,0,0⟩:A5 (Int))⟩:AS),false,false,0⟩:CC))) then true else a0.alb)).bind fun b26=>
  (if b26 then
   some false
  else
   jJ6 ())))
def M4 (a0:AG):Option (Bool):=
 (some (if decide (a0.Kind<1) then true else decide (5<a0.Kind))).bind fun b1=>
 (if b1 then
  some false
 else
  (some (if a0.Kind==2 then true else a0.Kind==3)).bind fun b3=>
  (some (if b3 then true else a0.Kind==4)).bind fun b4=>
  jn (fun(v:Unit)=>fV a0 b4) (fun jJ5=>
  (if a0.Kind==1 then
   (FM a0.Filter).bind fun r29=>
   (some (if !r29 then true else a0.Filter.O_ != 0)).bind fun b30=>
   (gd (b30==false) (Db a0.aai)).bind fun r31=>
   (some (if b30 then true else r31==([]:List UInt8))).bind fun b32=>
   (if b32 then
    some false
   else
    jJ5 ())
  else
   (some (if(!(a0.Filter==(⟨0,0,0,0,0,0,0,[],0,0,(⟨0,0⟩:As),(⟨0,0⟩:As),(⟨0,0⟩:As)⟩:Av))) then true else decide (0<(a0.aai.length:Int)))).bind fun b34=>
   (if b34 then
    some false
   else
    jJ5 ()))))
def aP:A9:=mC [GE,J5,nr,yJ,yM,nM,cX] 95 Tryz.f95 (.s .n (.s .n (.s .n (.j ⟨[1,3],[],[[1]],[]⟩ .n (.j ⟨[1,3],[],[[1]],[]⟩ .n (.j ⟨[1,3],[],[[1]],[]⟩ .n (.j ⟨[1,3],[],[[1]],[]⟩ .n .n))))))) [.s 121] [.k (.bool)] (fun x=>M4 x.1) Tryz.func95 (by kernel_rfl)
end Go.PL
