/- Functions of the program, as partial functions in Lean, with proofs. -/
import Derived.Test.YtenjiecnhncfiaaGreatDoorPlBeB
import Derived.Test.YtenjiecnhncfiaaGreatDoorPlBeF0
import Derived.Test.YtenjiecnhncfiaaGreatDoorPlBeF10
import Derived.Test.YtenjiecnhncfiaaGreatDoorPlBeF2
import Derived.Test.YtenjiecnhncfiaaGreatDoorPlBeF4
import Derived.Test.YtenjiecnhncfiaaGreatDoorPlBeF5
import Derived.Test.YtenjiecnhncfiaaGreatDoorPlBeF6
import Derived.Test.YtenjiecnhncfiaaGreatDoorPlBeF7
namespace Go.PL
open Go Go.RowKit Go.Proofs
set_option maxRecDepth 100000
set_option linter.all false
set_option maxHeartbeats 4000000
attribute [local irreducible] Ag Cv Co
def MB:Option (Int×Int):=
 some ((-1:Int),(0:Int))
def CP (a0:List (AO)) (aeO:Int):Option ((Int)⊕(Unit⊕(Int×Int))):=
 (if(decide (aeO<(a0.length:Int))) then
  (idx a0 aeO).bind fun e9=>
  (Uo e9).bind fun r10=>
  (if !r10 then
   some (.inr (.inr (aeO,(9:Int))))
  else
   (Jf a0 e9.Name).bind fun r12=>
   (if decide (r12<aeO) then
    some (.inr (.inr (aeO,(6:Int))))
   else
    (HU a0 e9).bind fun r14=>
    (if r14 then
     some (.inr (.inr (aeO,(7:Int))))
    else
     some (.inl (Ad (aeO+1))))))
 else
  some (.inr (.inl ())))
def Fw (a0:List (AO)):Option (Int×Int):=
 (if(decide (256<(a0.length:Int))) then
  some ((-1:Int),(5:Int))
 else
  jn (fun(v:Unit)=>MB) (fun K_=>
  (iter (fun(v:Int)=>CP a0 v) FU (0:Int)).bind (Sum.elim (fun o0=>K_ ()) (fun o1=>some (o1.1,o1.2)))))
def XZ:CE TE Tryz.prog I0:=AA [u5,bt,XC] Aa Ac 9 34 Tryz.f34 (Tryz.f34.body.getD .skip) (.s .n (.s .n (.j ⟨[],[],[],[]⟩ (.s .n (.l ⟨[0,9,10],[(11, .c (.v (.k (.int .i64))))],[],[]⟩ [(1,⟨[],[],[],[]⟩),(0,⟨[],[(2, .c (.v (.k (.int .i64)))),(3, .c (.v (.k (.int .i64))))],[],[]⟩)] .n)) .n))) [.k (.u_ 51)] [.k (.int .i64), .k (.int .i64)] (fun x=>Fw x.1) Tryz.func34 rfl (by kernel_rfl)
def MC (a0:AE) (b4:Bool):Option (Bool):=
 (if b4 then
  (Qi a0.D_).bind fun r10=>
  (gd (r10==true) (Lm a0.f_ (a0.D_.length:Int))).bind fun r11=>
  (some (if r10 then r11 else false)).bind fun b12=>
  some b12
 else
  (some (if((a0.D_.length:Int)==0) then(a0.f_.length:Int)==0 else false)).bind fun b13=>
  some b13)
def JC (a0:AE) (b4:Bool):Option (Bool):=
 jn (fun(v:Unit)=>MC a0 b4) (fun jJ8=>
 (if a0.Kind==5 then
  (RP a0.Replace).bind fun r15=>
  (if !r15 then
   some false
  else
   jJ8 ())
 else
  (if(!(a0.Replace==(⟨0,0,(⟨0,0,0,0,0,0,0,[],0,0,(⟨0,0⟩:Af),(⟨0,0⟩:Af),(⟨0,0⟩:Af)⟩:Aj),0,0,0,0⟩:Au))) then
   some false
  else
   jJ8 ())))
def JD (a0:AE) (b4:Bool):Option (Bool):=
 jn (fun(v:Unit)=>JC a0 b4) (fun jJ7=>
 (if a0.Kind==4 then
  (NL a0.c_).bind fun r19=>
  (if !r19 then
   some false
  else
   jJ7 ())
 else
  (some (if(!(a0.c_==(⟨0,0,(⟨0,0,0,0,0,0,0,[],0,0,(⟨0,0⟩:Af),(⟨0,0⟩:Af),(⟨0,0⟩:Af)⟩:Aj)⟩:A0))) then true else a0.May)).bind fun b21=>
  (if b21 then
   some false
  else
   jJ7 ())))
def JE (a0:AE) (b4:Bool):Option (Bool):=
 jn (fun(v:Unit)=>JD a0 b4) (fun jJ6=>
 (if a0.Kind==3 then
  (Qe a0.y_).bind fun r24=>
  (if !r24 then
   some false
  else
   jJ6 ())
 else
  (some (if(!(a0.y_==(⟨(⟨0,0,(⟨0,0,0,0,0⟩:A5 (Int))⟩:AB),false,false,0⟩:BV))) then true else a0.ac0)).bind fun b26=>
  (if b26 then
   some false
  else
   jJ6 ())))
def LJ (a0:AE):Option (Bool):=
 (some (if decide (a0.Kind<1) then true else decide (5<a0.Kind))).bind fun b1=>
 (if b1 then
  some false
 else
  (some (if a0.Kind==2 then true else a0.Kind==3)).bind fun b3=>
  (some (if b3 then true else a0.Kind==4)).bind fun b4=>
  jn (fun(v:Unit)=>JE a0 b4) (fun jJ5=>
  (if a0.Kind==1 then
   (IQ a0.Filter).bind fun r29=>
   (some (if !r29 then true else a0.Filter.q_ != 0)).bind fun b30=>
   (gd (b30==false) (E6 a0.Tg)).bind fun r31=>
   (some (if b30 then true else r31==([]:List UInt8))).bind fun b32=>
   (if b32 then
    some false
   else
    jJ5 ())
  else
   (some (if(!(a0.Filter==(⟨0,0,0,0,0,0,0,[],0,0,(⟨0,0⟩:Af),(⟨0,0⟩:Af),(⟨0,0⟩:Af)⟩:Aj))) then true else decide (0<(a0.Tg.length:Int)))).bind fun b34=>
   (if b34 then
    some false
   else
    jJ5 ()))))
def yn:CE TE Tryz.prog I0:=AA [GW,Pz,nC,yi,yl,nN,eG] Aa Ac 9 47 Tryz.f47 (Tryz.f47.body.getD .skip) (.s .n (.s .n (.s .n (.j ⟨[1,3],[],[[1]],[]⟩ .n (.j ⟨[1,3],[],[[1]],[]⟩ .n (.j ⟨[1,3],[],[[1]],[]⟩ .n (.j ⟨[1,3],[],[[1]],[]⟩ .n .n))))))) [.s 104] [.k (.bool)] (fun x=>LJ x.1) Tryz.func47 rfl (by kernel_rfl)
end Go.PL
