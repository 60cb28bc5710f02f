/- Functions of the program, as partial functions in Lean, with proofs. -/
import Derived.Test.YtiddnfpjgojoaaaGreatDoorPlEdB
import Derived.Test.YtiddnfpjgojoaaaGreatDoorPlEdF10
import Derived.Test.YtiddnfpjgojoaaaGreatDoorPlEdF12
import Derived.Test.YtiddnfpjgojoaaaGreatDoorPlEdF14
import Derived.Test.YtiddnfpjgojoaaaGreatDoorPlEdF15
import Derived.Test.YtiddnfpjgojoaaaGreatDoorPlEdF17
import Derived.Test.YtiddnfpjgojoaaaGreatDoorPlEdF2
import Derived.Test.YtiddnfpjgojoaaaGreatDoorPlEdF4
import Derived.Test.YtiddnfpjgojoaaaGreatDoorPlEdF5
import Derived.Test.YtiddnfpjgojoaaaGreatDoorPlEdF8
import Derived.Test.YtiddnfpjgojoaaaGreatDoorPlEdF9
namespace Go.PL
open Go Go.RowKit Go.Proofs
set_option maxRecDepth 100000
set_option linter.all false
set_option maxHeartbeats 4000000
attribute [local irreducible] Aj BO Bz
def BV (a0:Aw) (b4:Bool):Option (Bool):=
 (if b4=true then
  (Oe a0.Specs).bind fun r10=>
  (gd (r10==true) (Jf a0.Effects (a0.Specs.length:Int))).bind fun r11=>
  (some (if r10=true then r11 else false)).bind fun b12=>
  some b12
 else
  (some (if((a0.Specs.length:Int)==0)=true then(a0.Effects.length:Int)==0 else false)).bind fun b13=>
  some b13)
def Eg (a0:Aw) (b4:Bool):Option (Bool):=
 jn (fun(v:Unit)=>BV a0 b4) (fun jJ8=>
 (if(a0.Kind==5)=true then
  (d8 a0.Replace).bind fun r15=>
  (if(!r15)=true then
   some false
  else
   jJ8 ())
 else
  (if(!(a0.Replace==(⟨0,0,(⟨0,0,0,0,0,0,0,[],0,0,(⟨0,0⟩:Az),(⟨0,0⟩:Az),(⟨0,0⟩:Az)⟩:Ar),0,0,0,0⟩:BB)))=true then
   some false
  else
   jJ8 ())))
def Ks (a0:Aw) (b4:Bool):Option (Bool):=
 jn (fun(v:Unit)=>Eg a0 b4) (fun jJ7=>
 (if(a0.Kind==4)=true then
  (dR a0.Trigger).bind fun r19=>
  (if(!r19)=true then
   some false
  else
   jJ7 ())
 else
  (some (if(!(a0.Trigger==(⟨0,0,(⟨0,0,0,0,0,0,0,[],0,0,(⟨0,0⟩:Az),(⟨0,0⟩:Az),(⟨0,0⟩:Az)⟩:Ar)⟩:B1)))=true then true else a0.May)).bind fun b21=>
  (if b21=true then
   some false
  else
   jJ7 ())))
def SW (a0:Aw) (b4:Bool):Option (Bool):=
 jn (fun(v:Unit)=>Ks a0 b4) (fun jJ6=>
 (if(a0.Kind==3)=true then
  (Oa a0.Price).bind fun r24=>
  (if(!r24)=true then
   some false
  else
   jJ6 ())
 else
  (some (if(!(a0.Price==(⟨(⟨0,0,(⟨0,0,0,0,0⟩:A5 (Int))⟩:Bs),false,false,0⟩:EG)))=true then true else a0.Slow)).bind fun b26=>
  (if b26=true then
   some false
  else
   jJ6 ())))
def PE (a0:Aw):Option (Bool):=
 (some (if(decide (a0.Kind<1))=true then true else decide (5<a0.Kind))).bind fun b1=>
 (if b1=true then
  some false
 else
  (some (if(a0.Kind==2)=true then true else a0.Kind==3)).bind fun b3=>
  (some (if b3=true then true else a0.Kind==4)).bind fun b4=>
  jn (fun(v:Unit)=>SW a0 b4) (fun jJ5=>
  (if(a0.Kind==1)=true then
   (FQ a0.Filter).bind fun r29=>
   (some (if(!r29)=true then true else a0.Filter.Zone != 0)).bind fun b30=>
   (gd (b30==false) (Ee a0.Mods)).bind fun r31=>
   (some (if b30=true then true else r31==([]:List UInt8))).bind fun b32=>
   (if b32=true then
    some false
   else
    jJ5 ())
  else
   (some (if(!(a0.Filter==(⟨0,0,0,0,0,0,0,[],0,0,(⟨0,0⟩:Az),(⟨0,0⟩:Az),(⟨0,0⟩:Az)⟩:Ar)))=true then true else decide (0<(a0.Mods.length:Int)))).bind fun b34=>
   (if b34=true then
    some false
   else
    jJ5 ()))))
def Yf:CE TE Tryz.prog I0:=AK [Ev,Iu,ik,sb,se,iK,Zn] Ab Ad 9 48 Tryz.f48 (Tryz.f48.body.getD .skip) (.s .n (.s .n (.s .n (.j ⟨[1,3],[],[[1]],[]⟩ .n (.j ⟨[1,3],[],[[1]],[]⟩ .n (.j ⟨[1,3],[],[[1]],[]⟩ .n (.j ⟨[1,3],[],[[1]],[]⟩ .n .n))))))) [.s 113] [.k (.bool)] (fun x=>PE x.1) Tryz.func48 rfl (by kernel_rfl)
def OP (b2_5:AD) (l35_6:List (Int)):Option (AD×(List (Int))):=
 some (b2_5,l35_6)
def Ix (a1:Int) (l16_3:List (Int)) (left_t6_13:List (Int)) (n_t10_14:Int) (b2_15:AD) (l35_16:List (Int)):Option (((List (Int))×Int×AD×(List (Int)))⊕((AD×(List (Int))))):=
 (if(decide (n_t10_14<(l16_3.length:Int)))=true then
  (Kr b2_15 left_t6_13 a1).bind fun r21=>
  (app 8 l35_16 ([r21]:List (Int))).bind fun l22=>
  (D6 b2_15 r21 a1).bind fun r23=>
  (I6 left_t6_13 r21).bind fun r24=>
  some (.inl (r24,(Ac (n_t10_14+1)),r23,l22))
 else
  some (.inr (b2_15,l35_16)))
def OQ (a1:Int) (b2_1:AD) (l16_3:List (Int)):Option (AD×(List (Int))):=
 jn (fun(v:AD×(List (Int)))=>OP v.1 v.2) (fun jJ7=>
 (iter (fun(v:(List (Int))×Int×AD×(List (Int)))=>Ix a1 l16_3 v.1 v.2.1 v.2.2.1 v.2.2.2) FU (l16_3,(0:Int),b2_1,([]:List (Int)))).bind (fun o0=>jJ7 (o0.1,o0.2)))
def Ng (i_t7_28:Int) (l16_33:List (Int)):Option ((Int×(List (Int)))⊕((List (Int)))):=
 some (.inl ((Ac (i_t7_28+1)),l16_33))
def Iy (a1:Int) (b2_1:AD) (i_t7_28:Int) (l16_29:List (Int)):Option ((Int×(List (Int)))⊕((List (Int)))):=
 (if(decide (i_t7_28<(b2_1.L.length:Int)))=true then
  jn (fun(v:(List (Int)))=>Ng i_t7_28 v) (fun jJ34=>
  (idx b2_1.L i_t7_28).bind fun e35=>
  (I8 e35 a1).bind fun r36=>
  (if r36=true then
   (app 8 l16_29 ([i_t7_28]:List (Int))).bind fun l38=>
   jJ34 l38
  else
   jJ34 l16_29))
 else
  some (.inr l16_29))
def JH (a1:Int) (b2_1:AD):Option (AD×(List (Int))):=
 jn (fun(v:(List (Int)))=>OQ a1 b2_1 v) (fun jJ4=>
 (iter (fun(v:Int×(List (Int)))=>Iy a1 b2_1 v.1 v.2) FU ((0:Int),([]:List (Int)))).bind (fun o0=>jJ4 o0))
def Lw (a0:AD) (a1:Int):Option (AD×(List (Int))):=
 jn (fun(v:AD)=>JH a1 v) (fun jJ2=>
 (if(a1==7)=true then
  (EU a0).bind fun r40=>
  jJ2 r40
 else
  jJ2 a0))
def ed:CE TE Tryz.prog I0:=AK [E_r30_counted,Y2,E_r30_next,E_r30_applied,YV] Ab Ad 9 16 Tryz.f16 (Tryz.f16.body.getD .skip) (.s .n (.j ⟨[1,2,4],[],[[4]],[([2], .box [.v (.s 55)])]⟩ .n (.s .n (.j ⟨[1,2,4],[(6, .c (.c (.osl [16])))],[[2],[4]],[([16], .row 3)]⟩ (.s .n (.l ⟨[1,2,4],[(6, .c (.c (.osl [16]))),(7, .c (.v (.k (.int .i64))))],[[2],[4]],[([16], .row 3)]⟩ [(1,⟨[1,2,4],[(6, .c (.c (.osl [16])))],[[2],[4]],[([16], .row 3)]⟩)] (.s .n (.j ⟨[1,2,4,7],[(6, .c (.c (.osl [16])))],[[2],[4]],[([16], .row 3)]⟩ .n .n)))) (.s .n (.s .n (.j ⟨[2,4],[(8, .c (.c (.osl [35])))],[[4]],[([2], .box [.v (.s 55)]),([35], .row 3)]⟩ (.s .n (.l ⟨[1,2,4,9],[(6, .c (.v (.k (.lst 3)))),(8, .c (.c (.osl [35]))),(10, .c (.v (.k (.int .i64))))],[[4]],[([2], .box [.v (.s 55)]),([35], .row 3)]⟩ [(3,⟨[2,4],[(8, .c (.c (.osl [35])))],[[4]],[([2], .box [.v (.s 55)]),([35], .row 3)]⟩)] .n)) .n))))))) [.s 55, .k (.int .i64)] [.s 55, .k (.lst 3)] (fun x=>Lw x.1 x.2.1) Tryz.func16 rfl (by kernel_rfl)
end Go.PL
