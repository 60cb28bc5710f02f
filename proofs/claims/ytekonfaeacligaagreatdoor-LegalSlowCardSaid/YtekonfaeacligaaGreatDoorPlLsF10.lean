/- Functions of the program, as partial functions in Lean, with proofs. -/
import Derived.Test.YtekonfaeacligaaGreatDoorPlLsB
import Derived.Test.YtekonfaeacligaaGreatDoorPlLsF1
import Derived.Test.YtekonfaeacligaaGreatDoorPlLsF3
import Derived.Test.YtekonfaeacligaaGreatDoorPlLsF4
import Derived.Test.YtekonfaeacligaaGreatDoorPlLsF5
import Derived.Test.YtekonfaeacligaaGreatDoorPlLsF6
import Derived.Test.YtekonfaeacligaaGreatDoorPlLsF9
namespace Go.PL
open Go Go.RowKit Go.Proofs
set_option maxRecDepth 100000
set_option linter.all false
set_option maxHeartbeats 4000000
attribute [local irreducible] Ak BW BI
def Zc (a0:AB) (b4:Bool):Option (Bool):=
 (if b4 then
  (Mu a0.aam).bind fun r10=>
  (gd (r10==true) (Ii a0.B_ (a0.aam.length:Int))).bind fun r11=>
  (some (if r10 then r11 else false)).bind fun b12=>
  some b12
 else
  (some (if((a0.aam.length:Int)==0) then(a0.B_.length:Int)==0 else false)).bind fun b13=>
  some b13)
def Zd (a0:AB) (b4:Bool):Option (Bool):=
 jn (fun(v:Unit)=>Zc a0 b4) (fun jJ8=>
 (if a0.Kind==5 then
  (bJ a0.Replace).bind fun r15=>
  (if !r15 then
   some false
  else
   jJ8 ())
 else if(!(a0.Replace==(⟨0,0,(⟨0,0,0,0,0,0,0,[],0,0,(⟨0,0⟩:Ag),(⟨0,0⟩:Ag),(⟨0,0⟩:Ag)⟩:Am),0,0,0,0⟩:Bk))) then
  some false
 else
  jJ8 ()))
def Ze (a0:AB) (b4:Bool):Option (Bool):=
 jn (fun(v:Unit)=>Zd a0 b4) (fun jJ7=>
 (if a0.Kind==4 then
  (bE a0.aby).bind fun r19=>
  (if !r19 then
   some false
  else
   jJ7 ())
 else
  (some (if(!(a0.aby==(⟨0,0,(⟨0,0,0,0,0,0,0,[],0,0,(⟨0,0⟩:Ag),(⟨0,0⟩:Ag),(⟨0,0⟩:Ag)⟩:Am)⟩:Bu))) then true else a0.May)).bind fun b21=>
  (if b21 then
   some false
  else
   jJ7 ())))
def Zf (a0:AB) (b4:Bool):Option (Bool):=
 jn (fun(v:Unit)=>Ze a0 b4) (fun jJ6=>
 (if a0.Kind==3 then
  (Mq a0.aek).bind fun r24=>
  (if !r24 then
   some false
  else
   jJ6 ())
 else
  (some (if(!(a0.aek==(⟨(⟨0,0,(⟨0,0,0,0,0⟩:A5 (Int))⟩:AJ),false,false,0⟩:CL))) then true else a0.ahl)).bind fun b26=>
  (if b26 then
   some false
  else
   jJ6 ())))
def J3 (a0:AB):Option (Bool):=
 (some (if decide (a0.Kind<1) then true else decide (5<a0.Kind))).bind fun b1=>
 (if b1 then
  some false
 else
  (some (if a0.Kind==2 then true else a0.Kind==3)).bind fun b3=>
  (some (if b3 then true else a0.Kind==4)).bind fun b4=>
  jn (fun(v:Unit)=>Zf a0 b4) (fun jJ5=>
  (if a0.Kind==1 then
   (D5 a0.Filter).bind fun r29=>
   (some (if !r29 then true else a0.Filter.F_ != 0)).bind fun b30=>
   (gd (b30==false) (Cu a0.N_)).bind fun r31=>
   (some (if b30 then true else r31==([]:List UInt8))).bind fun b32=>
   (if b32 then
    some false
   else
    jJ5 ())
  else
   (some (if(!(a0.Filter==(⟨0,0,0,0,0,0,0,[],0,0,(⟨0,0⟩:Ag),(⟨0,0⟩:Ag),(⟨0,0⟩:Ag)⟩:Am))) then true else decide (0<(a0.N_.length:Int)))).bind fun b34=>
   (if b34 then
    some false
   else
    jJ5 ()))))
def Wx:BH:=mC [EE,HF,gz,tL,tO,gH,Xc] 32 Tryz.f32 (.s .n (.s .n (.s .n (.j ⟨[1,3],[],[[1]],[]⟩ .n (.j ⟨[1,3],[],[[1]],[]⟩ .n (.j ⟨[1,3],[],[[1]],[]⟩ .n (.j ⟨[1,3],[],[[1]],[]⟩ .n .n))))))) [.s 70] [.k (.bool)] (fun x=>J3 x.1) Tryz.func32 (by kernel_rfl)
end Go.PL
