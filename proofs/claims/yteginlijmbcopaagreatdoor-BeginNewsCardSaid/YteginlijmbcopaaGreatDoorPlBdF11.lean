/- Functions of the program, as partial functions in Lean, with proofs. -/
import Derived.Test.YteginlijmbcopaaGreatDoorPlBdB
import Derived.Test.YteginlijmbcopaaGreatDoorPlBdF0
import Derived.Test.YteginlijmbcopaaGreatDoorPlBdF10
import Derived.Test.YteginlijmbcopaaGreatDoorPlBdF2
import Derived.Test.YteginlijmbcopaaGreatDoorPlBdF4
import Derived.Test.YteginlijmbcopaaGreatDoorPlBdF5
import Derived.Test.YteginlijmbcopaaGreatDoorPlBdF6
import Derived.Test.YteginlijmbcopaaGreatDoorPlBdF7
namespace Go.PL
open Go Go.RowKit Go.Proofs
set_option maxRecDepth 100000
set_option linter.all false
set_option maxHeartbeats 4000000
attribute [local irreducible] Ae Cq Cl
def MQ:Option (Int×Int):=
 some ((-1:Int),(0:Int))
def Dx (a0:List (AO)) (afT:Int):Option ((Int)⊕(Unit⊕(Int×Int))):=
 (if(decide (afT<(a0.length:Int))) then
  (idx a0 afT).bind fun e9=>
  (UD e9).bind fun r10=>
  (if !r10 then
   some (.inr (.inr (afT,(9:Int))))
  else
   (Jo a0 e9.Name).bind fun r12=>
   (if decide (r12<afT) then
    some (.inr (.inr (afT,(6:Int))))
   else
    (H6 a0 e9).bind fun r14=>
    (if r14 then
     some (.inr (.inr (afT,(7:Int))))
    else
     some (.inl (Aa (afT+1))))))
 else
  some (.inr (.inl ())))
def FE (a0:List (AO)):Option (Int×Int):=
 (if(decide (256<(a0.length:Int))) then
  some ((-1:Int),(5:Int))
 else
  jn (fun(v:Unit)=>MQ) (fun H_=>
  (iter (fun(v:Int)=>Dx a0 v) FU (0:Int)).bind (Sum.elim (fun o0=>H_ ()) (fun o1=>some (o1.1,o1.2)))))
def Yi:Bb:=mC [xa,bC,XW] 54 Tryz.f54 (.s .n (.s .n (.j IT (.s .n (.l ⟨[0,9,10],[Bd 11],[],[]⟩ [(1,IT),(0,⟨[],[Bd 2,Bd 3],[],[]⟩)] .n)) .n))) [.k (.l_ 102)] [.k (.int .i64), .k (.int .i64)] (fun x=>FE x.1) Tryz.func54 (by kernel_rfl)
def MR (a0:AE) (b4:Bool):Option (Bool):=
 (if b4 then
  (Qx a0.aai).bind fun r10=>
  (gd (r10==true) (LC a0.n_ (a0.aai.length:Int))).bind fun r11=>
  (some (if r10 then r11 else false)).bind fun b12=>
  some b12
 else
  (some (if((a0.aai.length:Int)==0) then(a0.n_.length:Int)==0 else false)).bind fun b13=>
  some b13)
def JN (a0:AE) (b4:Bool):Option (Bool):=
 jn (fun(v:Unit)=>MR a0 b4) (fun jJ8=>
 (if a0.Kind==5 then
  (Sa a0.Replace).bind fun r15=>
  (if !r15 then
   some false
  else
   jJ8 ())
 else if(!(a0.Replace==(⟨0,0,(⟨0,0,0,0,0,0,0,[],0,0,(⟨0,0⟩:Ac),(⟨0,0⟩:Ac),(⟨0,0⟩:Ac)⟩:Ag),0,0,0,0⟩:Au))) then
  some false
 else
  jJ8 ()))
def JO (a0:AE) (b4:Bool):Option (Bool):=
 jn (fun(v:Unit)=>JN a0 b4) (fun jJ7=>
 (if a0.Kind==4 then
  (PQ a0.aay).bind fun r19=>
  (if !r19 then
   some false
  else
   jJ7 ())
 else
  (some (if(!(a0.aay==(⟨0,0,(⟨0,0,0,0,0,0,0,[],0,0,(⟨0,0⟩:Ac),(⟨0,0⟩:Ac),(⟨0,0⟩:Ac)⟩:Ag)⟩:AY))) then true else a0.May)).bind fun b21=>
  (if b21 then
   some false
  else
   jJ7 ())))
def JP (a0:AE) (b4:Bool):Option (Bool):=
 jn (fun(v:Unit)=>JO a0 b4) (fun jJ6=>
 (if a0.Kind==3 then
  (Qs a0.acb).bind fun r24=>
  (if !r24 then
   some false
  else
   jJ6 ())
 else
  (some (if(!(a0.acb==(⟨(⟨0,0,(⟨0,0,0,0,0⟩:A5 (Int))⟩:Az),false,false,0⟩:BX))) then true else a0.ahg)).bind fun b26=>
  (if b26 then
   some false
  else
   jJ6 ())))
def L3 (a0:AE):Option (Bool):=
 (some (if decide (a0.Kind<1) then true else decide (5<a0.Kind))).bind fun b1=>
 (if b1 then
  some false
 else
  (some (if a0.Kind==2 then true else a0.Kind==3)).bind fun b3=>
  (some (if b3 then true else a0.Kind==4)).bind fun b4=>
  jn (fun(v:Unit)=>JP a0 b4) (fun jJ5=>
  (if a0.Kind==1 then
   (I2 a0.Filter).bind fun r29=>
   (some (if !r29 then true else a0.Filter.AT != 0)).bind fun b30=>
   (gd (b30==false) (Fd a0.aap)).bind fun r31=>
   (some (if b30 then true else r31==([]:List UInt8))).bind fun b32=>
   (if b32 then
    some false
   else
    jJ5 ())
  else
   (some (if(!(a0.Filter==(⟨0,0,0,0,0,0,0,[],0,0,(⟨0,0⟩:Ac),(⟨0,0⟩:Ac),(⟨0,0⟩:Ac)⟩:Ag))) then true else decide (0<(a0.aap.length:Int)))).bind fun b34=>
   (if b34 then
    some false
   else
    jJ5 ()))))
def Aaf:Bb:=mC [G8,PS,o8,Aaa,Aad,pv,eD] 95 Tryz.f95 (.s .n (.s .n (.s .n (.j ⟨[1,3],[],[[1]],[]⟩ .n (.j ⟨[1,3],[],[[1]],[]⟩ .n (.j ⟨[1,3],[],[[1]],[]⟩ .n (.j ⟨[1,3],[],[[1]],[]⟩ .n .n))))))) [.s 121] [.k (.bool)] (fun x=>L3 x.1) Tryz.func95 (by kernel_rfl)
end Go.PL
