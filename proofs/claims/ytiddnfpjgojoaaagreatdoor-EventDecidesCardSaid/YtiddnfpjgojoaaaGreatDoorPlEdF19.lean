/- Functions of the program, as partial functions in Lean, with proofs. -/
import Derived.Test.YtiddnfpjgojoaaaGreatDoorPlEdB
import Derived.Test.YtiddnfpjgojoaaaGreatDoorPlEdF0
import Derived.Test.YtiddnfpjgojoaaaGreatDoorPlEdF1
import Derived.Test.YtiddnfpjgojoaaaGreatDoorPlEdF13
import Derived.Test.YtiddnfpjgojoaaaGreatDoorPlEdF18
import Derived.Test.YtiddnfpjgojoaaaGreatDoorPlEdF4
import Derived.Test.YtiddnfpjgojoaaaGreatDoorPlEdF6
import Derived.Test.YtiddnfpjgojoaaaGreatDoorPlEdF8
namespace Go.PL
open Go Go.RowKit Go.Proofs
set_option maxRecDepth 100000
set_option linter.all false
set_option maxHeartbeats 4000000
attribute [local irreducible] Aj BO Bz
def Yg (a0:A1) (vt3_20:Int):Option (Bool):=
 (QR a0).bind fun r22=>
 (if r22=true then
  (some (if(!a0.Token)=true then a0.Keys==0 else false)).bind fun b24=>
  (some (if b24=true then(a0.Abilities.length:Int)==1 else false)).bind fun b25=>
  (some (if b25=true then vt3_20==1 else false)).bind fun b26=>
  some b26
 else
  (some (if(!a0.Token)=true then(eN .i64 a0.Line.Types (32:Int))==(0:Int)else false)).bind fun b27=>
  (some (if b27=true then true else a0.Cost==(⟨0,0,(⟨0,0,0,0,0⟩:A5 (Int))⟩:Bs))).bind fun b28=>
  (some (if(vt3_20==0)=true then b28 else false)).bind fun b29=>
  some b29)
def PF (vt4_33:Int) (vt3_38:Int):Option ((Int×Int)⊕(Int⊕Bool)):=
 some (.inl (vt3_38,(Ac (vt4_33+1))))
def PG (a0:A1) (vt3_32:Int) (vt4_33:Int):Option ((Int×Int)⊕(Int⊕Bool)):=
 (if(decide (vt4_33<(a0.Abilities.length:Int)))=true then
  jn (fun(v:Int)=>PF vt4_33 v) (fun jJ39=>
  (idx a0.Abilities vt4_33).bind fun e40=>
  (PE e40).bind fun r41=>
  (if(!r41)=true then
   some (.inr (.inr false))
  else
   (idx a0.Abilities vt4_33).bind fun e43=>
   (if(e43.Kind==2)=true then
    jJ39 (Ac (vt3_32+1))
   else
    jJ39 vt3_32)))
 else
  some (.inr (.inl vt3_32)))
def eg (a0:A1):Option (Bool):=
 (SM a0.Name).bind fun r1=>
 (gd ((!r1)==false) (MH a0.Cost)).bind fun r2=>
 (some (if(!r1)=true then true else !r2)).bind fun b3=>
 (gd (b3==false) (dO a0.Line)).bind fun r4=>
 (some (if b3=true then true else !r4)).bind fun b5=>
 (gd (b5==false) (XF a0.Keys)).bind fun r6=>
 (some (if b5=true then true else !r6)).bind fun b7=>
 (some (if b7=true then true else decide (a0.Color<0))).bind fun b8=>
 (some (if b8=true then true else decide (31<a0.Color))).bind fun b9=>
 (if b9=true then
  some false
 else
  (some (if(decide (a0.Power<0))=true then true else decide (99<a0.Power))).bind fun b11=>
  (some (if b11=true then true else decide (a0.Tough<0))).bind fun b12=>
  (some (if b12=true then true else decide (99<a0.Tough))).bind fun b13=>
  (gd (b13==false) (G9 a0)).bind fun r14=>
  (some (if(a0.Power != 0)=true then true else a0.Tough != 0)).bind fun b15=>
  (some (if(!r14)=true then b15 else false)).bind fun b16=>
  (some (if b13=true then true else b16)).bind fun b17=>
  (some (if b17=true then true else decide (8<(a0.Abilities.length:Int)))).bind fun b18=>
  (if b18=true then
   some false
  else
   jn (fun(v:Int)=>Yg a0 v) (fun jJ21=>
   (iter (fun(v:Int×Int)=>PG a0 v.1 v.2) FU ((0:Int),(0:Int))).bind (Sum.elim (fun o0=>jJ21 o0) (fun o1=>some o1)))))
def si:CE TE Tryz.prog I0:=AK [XU,MI,rZ,gR,XG,Yf,lw] Ab Ad 9 18 Tryz.f18 (Tryz.f18.body.getD .skip) (.s .n (.s .n (.s .n (.s .n (.j ⟨[1],[(3, .c (.v (.k (.int .i64))))],[[1]],[]⟩ (.s .n (.l ⟨[1],[(3, .c (.v (.k (.int .i64)))),(4, .c (.v (.k (.int .i64))))],[[1]],[]⟩ [(1,⟨[1],[(3, .c (.v (.k (.int .i64))))],[[1]],[]⟩),(0,⟨[],[(2, .c (.v (.k (.bool))))],[],[]⟩)] (.s .n (.j ⟨[1,4],[(3, .c (.v (.k (.int .i64))))],[[1]],[]⟩ .n .n)))) .n))))) [.s 73] [.k (.bool)] (fun x=>eg x.1) Tryz.func18 rfl (by kernel_rfl)
def RB (a0:Ao) (a1:H6):Option (Bool):=
 (DT a1.Id (1:Int) (Ac (a0.NextId - 1))).bind fun r1=>
 (gd ((!r1)==false) (DT a1.X (0:Int) (1000000:Int))).bind fun r2=>
 (some (if(!r1)=true then true else !r2)).bind fun b3=>
 (some (if b3=true then true else decide (4<(a1.Targets.length:Int)))).bind fun b4=>
 (gd (b4==false) (CS a0 a1.Control)).bind fun r5=>
 (some (if b4=true then true else !r5)).bind fun b6=>
 (if b6=true then
  some false
 else
  (FO a0 a1.Id).bind fun r8=>
  (if(a1.Kind==1)=true then
   (Rk a1.Ability (⟨0,(⟨0,0,0,0,0,0,0,[],0,0,(⟨0,0⟩:Az),(⟨0,0⟩:Az),(⟨0,0⟩:Az)⟩:Ar),([]:List (BI)),(⟨(⟨0,0,(⟨0,0,0,0,0⟩:A5 (Int))⟩:Bs),false,false,0⟩:EG),false,(⟨0,0,(⟨0,0,0,0,0,0,0,[],0,0,(⟨0,0⟩:Az),(⟨0,0⟩:Az),(⟨0,0⟩:Az)⟩:Ar)⟩:B1),false,([]:List (DF)),([]:List (AV)),(⟨0,0,(⟨0,0,0,0,0,0,0,[],0,0,(⟨0,0⟩:Az),(⟨0,0⟩:Az),(⟨0,0⟩:Az)⟩:Ar),0,0,0,0⟩:BB)⟩:Aw)).bind fun r10=>
   (some (if(a1.Source==a1.Id)=true then r8.2 else false)).bind fun b11=>
   (some (if b11=true then r8.1.Zone==5 else false)).bind fun b12=>
   (gd ((b12==true)&&(r10==false)) (PE a1.Ability)).bind fun r13=>
   (some (if r10=true then true else r13)).bind fun b14=>
   (some (if b12=true then b14 else false)).bind fun b15=>
   some b15
  else
   (some (if(a1.Kind==2)=true then !r8.2 else false)).bind fun b16=>
   (gd (b16==true) (PE a1.Ability)).bind fun r17=>
   (some (if b16=true then r17 else false)).bind fun b18=>
   some b18))
def mf:CE TE Tryz.prog I0:=AK [MM,K5,Rf,lS,Yf] Ab Ad 9 55 Tryz.f55 (Tryz.f55.body.getD .skip) .n [.s 31, .s 128] [.k (.bool)] (fun x=>RB x.1 x.2.1) Tryz.func55 rfl (by kernel_rfl)
def mg (b5_2:AD):Option ((List (Ah))):=
 some b5_2.All
def Nh (i_t6_7:Int) (b5_8:AD):Option ((Int×AD)⊕(AD)):=
 (if(decide (i_t6_7≤8))=true then
  (Lw b5_8 i_t6_7).bind fun r12=>
  some (.inl ((Ac (i_t6_7+1)),r12.1))
 else
  some (.inr b5_8))
def VY (a0:List (A1)) (a1:Ao):Option ((List (Ah))):=
 (Hx a0 a1).bind fun r1=>
 jn (fun(v:AD)=>mg v) (fun jJ3=>
 (iter (fun(v:Int×AD)=>Nh v.1 v.2) FU ((1:Int),r1)).bind (fun o0=>jJ3 o0))
def pK:CE TE Tryz.prog I0:=AK [E_r30_first,ed] Ab Ad 9 6 Tryz.f6 (Tryz.f6.body.getD .skip) (.s .n (.s .n (.j ⟨[5],[],[],[([5], .box [.v (.s 55)])]⟩ (.s .n (.l ⟨[5],[(6, .c (.v (.k (.int .i64))))],[],[([5], .box [.v (.s 55)])]⟩ [(1,⟨[5],[],[],[([5], .box [.v (.s 55)])]⟩)] .n)) .n))) [.k (.lst 73), .s 31] [.k (.lst 70)] (fun x=>VY x.1 x.2.1) Tryz.func6 rfl (by kernel_rfl)
end Go.PL
