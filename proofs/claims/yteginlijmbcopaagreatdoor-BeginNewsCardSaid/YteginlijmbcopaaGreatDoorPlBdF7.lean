/- Functions of the program, as partial functions in Lean, with proofs. -/
import Derived.Test.YteginlijmbcopaaGreatDoorPlBdB
import Derived.Test.YteginlijmbcopaaGreatDoorPlBdF0
import Derived.Test.YteginlijmbcopaaGreatDoorPlBdF1
import Derived.Test.YteginlijmbcopaaGreatDoorPlBdF3
import Derived.Test.YteginlijmbcopaaGreatDoorPlBdF4
import Derived.Test.YteginlijmbcopaaGreatDoorPlBdF5
import Derived.Test.YteginlijmbcopaaGreatDoorPlBdF6
namespace Go.PL
open Go Go.RowKit Go.Proofs
set_option maxRecDepth 100000
set_option linter.all false
set_option maxHeartbeats 4000000
attribute [local irreducible] Ae Cq Cl
def MO (anp:Bool):Option (Bool):=
 (if anp then
  some false
 else
  some true)
def HP (a0:Av) (a1:AL) (anq:Bool):Option (Bool):=
 (if anq then
  some false
 else
  jn (fun(v:Bool)=>MO v) (fun anU=>
  (gd (a1.ajy==true) (Fc a0.aap)).bind fun r27=>
  (some (if a1.ajy then r27==([]:List UInt8)else false)).bind fun b28=>
  (if b28 then
   anU b28
  else
   (some (if !a1.ajy then decide (0<(a0.aap.length:Int))else false)).bind fun b30=>
   anU b30)))
def HQ (a0:Av) (a1:AL) (ans:Bool):Option (Bool):=
 (if ans then
  some false
 else
  jn (fun(v:Bool)=>HP a0 a1 v) (fun anV=>
  (gd ((a1.alc==true)&&((a0.abE==(⟨0,0,0,0,0,0⟩:A6 (Int)))==false)) (FD a0.abE)).bind fun r31=>
  (some (if(a0.abE==(⟨0,0,0,0,0,0⟩:A6 (Int))) then true else r31==([]:List UInt8))).bind fun b32=>
  (some (if a1.alc then b32 else false)).bind fun b33=>
  (if b33 then
   anV b33
  else
   (some (if !a1.alc then !(a0.abE==(⟨0,0,0,0,0,0⟩:A6 (Int)))else false)).bind fun b35=>
   anV b35)))
def HR (a0:Av) (a1:AL) (adP:Int) (ao0:Bool):Option (Bool):=
 (if ao0 then
  some false
 else
  jn (fun(v:Bool)=>HQ a0 a1 v) (fun aeS=>
  (gd (a1.filter==true) (B0 a0.Filter)).bind fun r36=>
  (some (if !r36 then true else a0.Filter.AT != adP)).bind fun b37=>
  (some (if a1.filter then b37 else false)).bind fun b38=>
  (if b38 then
   aeS b38
  else
   (some (if !a1.filter then !(a0.Filter==(⟨0,0,0,0,0,0,0,[],0,0,(⟨0,0⟩:Ac),(⟨0,0⟩:Ac),(⟨0,0⟩:Ac)⟩:Ag))else false)).bind fun b40=>
   aeS b40)))
def HS (a0:Av) (a1:AL) (adP:Int) (ao2:Bool):Option (Bool):=
 (if ao2 then
  some false
 else
  jn (fun(v:Bool)=>HR a0 a1 adP v) (fun aeT=>
  (gd (a1.aiN==true) (Qo a0.ad1)).bind fun r41=>
  (some (if a1.aiN then !r41 else false)).bind fun b42=>
  (if b42 then
   aeT b42
  else
   (some (if !a1.aiN then a0.ad1 != ([]:List UInt8)else false)).bind fun b44=>
   aeT b44)))
def HT (a0:Av) (a1:AL) (adP:Int) (arb:Bool):Option (Bool):=
 (if arb then
  some false
 else
  jn (fun(v:Bool)=>HS a0 a1 adP v) (fun afB=>
  (some (if decide (a0.AT<0) then true else decide (4<a0.AT))).bind fun b45=>
  (some (if a1.aj0 then b45 else false)).bind fun b46=>
  (if b46 then
   afB b46
  else
   (some (if !a1.aj0 then a0.AT != 0 else false)).bind fun b48=>
   afB b48)))
def I4 (a0:Av) (a1:AL) (adP:Int) (ard:Bool):Option (Bool):=
 (if ard then
  some false
 else
  jn (fun(v:Bool)=>HT a0 a1 adP v) (fun ad_=>
  (gd (a1.counter==true) (E4 a0.r_)).bind fun r49=>
  (some (if a1.counter then r49==([]:List UInt8)else false)).bind fun b50=>
  (if b50 then
   ad_ b50
  else
   (some (if !a1.counter then a0.r_ != 0 else false)).bind fun b52=>
   ad_ b52)))
def I5 (a0:Av) (a1:AL) (adP:Int) (arn:Bool):Option (Bool):=
 (if arn then
  some false
 else
  jn (fun(v:Bool)=>I4 a0 a1 adP v) (fun jJ7=>
  (gd (a1.aem==true) (D3 a0.adN)).bind fun r53=>
  (some (if a1.aem then !r53 else false)).bind fun b54=>
  (if b54 then
   jJ7 b54
  else
   (some (if !a1.aem then !(a0.adN==(⟨0,0,0,(⟨0,0,0,0,0,0,0,[],0,0,(⟨0,0⟩:Ac),(⟨0,0⟩:Ac),(⟨0,0⟩:Ac)⟩:Ag)⟩:AW))else false)).bind fun b56=>
   jJ7 b56)))
def I6 (a0:Av) (a1:AL) (a2:Int) (adP:Int):Option (Bool):=
 jn (fun(v:Bool)=>I5 a0 a1 adP v) (fun jJ4=>
 (gd (a1.ref==true) (KP a0.Ref a2)).bind fun r57=>
 (some (if a1.ref then !r57 else false)).bind fun b58=>
 (if b58 then
  jJ4 b58
 else
  (some (if !a1.ref then !(a0.Ref==(⟨0,0,(⟨0,0,0,0,0,0,0,[],0,0,(⟨0,0⟩:Ac),(⟨0,0⟩:Ac),(⟨0,0⟩:Ac)⟩:Ag)⟩:HF))else false)).bind fun b60=>
  jJ4 b60))
def Ju (a0:Av) (a1:AL) (a2:Int):Option (Bool):=
 jn (fun(v:Int)=>I6 a0 a1 a2 v) (fun H_=>
 (if a0.Op==21 then
  H_ (2:Int)
 else
  H_ (0:Int)))
def cQ:Bb:=mC [z7,pk,KE,VK,Dd,X8,PR] 260 Tryz.f260 (.s .n (.s .n (.j ⟨[2,3,4],[Bd 7],[[3],[4]],[]⟩ .n (.s (.j ⟨[3,4,7],[ES 11],[[3],[4]],[]⟩ .n (.i .n (.j ⟨[3,4,7],[ES 30],[[3],[4]],[]⟩ .n (.i .n (.j ⟨[3,4,7],[ES 48],[[3],[4]],[]⟩ .n (.i .n (.j ⟨[3,4,7],[ES 65],[[3],[4]],[]⟩ .n (.i .n (.j ⟨[3,4,7],[ES 86],[[3],[4]],[]⟩ .n (.i .n (.j ⟨[3,4],[ES 103],[[3],[4]],[]⟩ .n (.i .n (.j ⟨[3,4],[ES 128],[[3],[4]],[]⟩ .n (.i .n (.j ⟨[],[ES 152],[],[]⟩ .n .n))))))))))))))) .n)))) [.s 180, .s 253, .k (.int .i64)] [.k (.bool)] (fun x=>Ju x.1 x.2.1 x.2.2.1) Tryz.func260 (by kernel_rfl)
def Oz (anD:List UInt8):Option ((List UInt8)):=
 some anD
def HU (a0:List (AZ)) (abC:Int) (amx:List UInt8):Option (((List UInt8)×Int)⊕((List UInt8)⊕(List UInt8))):=
 (idx a0 abC).bind fun e18=>
 (UA e18).bind fun r19=>
 (cat amx r19).bind fun s20=>
 some (.inl (s20,(Aa (abC+1))))
def MP (a0:List (AZ)) (ahU:List UInt8) (abC:Int):Option (((List UInt8)×Int)⊕((List UInt8)⊕(List UInt8))):=
 (if(decide (abC<(a0.length:Int))) then
  (idx a0 abC).bind fun e13=>
  (PO e13).bind fun r14=>
  (if !r14 then
   some (.inr (.inr ([]:List UInt8)))
  else
   jn (fun(v:(List UInt8))=>HU a0 abC v) (fun amL=>
   (if decide (0<abC) then
    (cat ahU Dq).bind fun s22=>
    amL s22
   else
    amL ahU)))
 else
  some (.inr (.inl ahU)))
def Fd (a0:List (AZ)):Option ((List UInt8)):=
 (some (if((a0.length:Int)==0) then true else decide (6<(a0.length:Int)))).bind fun b1=>
 (if b1 then
  some ([]:List UInt8)
 else
  jn (fun(v:(List UInt8))=>Oz v) (fun jJ4=>
  (iter (fun(v:(List UInt8)×Int)=>MP a0 v.1 v.2) FU (([]:List UInt8),(0:Int))).bind (Sum.elim (fun o0=>jJ4 o0) (fun o1=>some o1))))
def PS:Bb:=mC [pq,sU] 97 Tryz.f97 (.s .n (.s .n (.s .n (.j ⟨[],[Kt 3],[],[]⟩ (.s .n (.l ⟨[0],[Kt 3,Bd 4],[],[]⟩ [(1,⟨[],[Kt 3],[],[]⟩),(0,⟨[],[Kt 2],[],[]⟩)] (.s .n (.s (.s .n (.j ⟨[0,4],[Kt 3],[],[]⟩ .n .n)) .n)))) .n)))) [.k (.l_ 148)] [.k (.str)] (fun x=>Fd x.1) Tryz.func97 (by kernel_rfl)
def NZ (a0:Au) (b6:Bool) (anr:Bool):Option (Bool):=
 (if anr then
  (some (if b6 then decide (0<=a0.Who)else false)).bind fun b29=>
  (some (if b29 then decide (a0.Who<=2)else false)).bind fun b30=>
  (some (if b30 then a0.Filter==(⟨0,0,0,0,0,0,0,[],0,0,(⟨0,0⟩:Ac),(⟨0,0⟩:Ac),(⟨0,0⟩:Ac)⟩:Ag)else false)).bind fun b31=>
  some b31
 else
  some false)
def Sa (a0:Au):Option (Bool):=
 (if a0.On==2 then
  (Qw a0).bind fun r2=>
  some r2
 else
  (JK a0).bind fun r3=>
  (if !r3 then
   some false
  else
   (some (if a0.Do==3 then true else a0.Do==4)).bind fun b5=>
   (some (if b5 then true else a0.Do==8)).bind fun b6=>
   (if a0.On==1 then
    (some (if a0.Do != 1 then a0.Do != 2 else false)).bind fun b8=>
    (some (if b8 then a0.Do != 3 else false)).bind fun b9=>
    (some (if b9 then a0.Do != 4 else false)).bind fun b10=>
    (if b10 then
     some false
    else
     (gd ((a0.Who==0)==true) (JM a0.Filter)).bind fun r12=>
     (some (if a0.Who==0 then r12 else false)).bind fun b13=>
     (some (if a0.Who==1 then true else a0.Who==2)).bind fun b14=>
     (some (if b14 then a0.Filter==(⟨0,0,0,0,0,0,0,[],0,0,(⟨0,0⟩:Ac),(⟨0,0⟩:Ac),(⟨0,0⟩:Ac)⟩:Ag)else false)).bind fun b15=>
     (some (if b13 then true else b15)).bind fun b16=>
     some b16)
   else if a0.On==8 then
    (some (if b6 then a0.Who==0 else false)).bind fun b18=>
    (gd (b18==true) (JM a0.Filter)).bind fun r19=>
    (some (if b18 then r19 else false)).bind fun b20=>
    some b20
   else if a0.On==3 then
    (some (if a0.Do==4 then true else a0.Do==8)).bind fun b22=>
    (some (if b22 then decide (0<=a0.Who)else false)).bind fun b23=>
    (some (if b23 then decide (a0.Who<=2)else false)).bind fun b24=>
    (some (if b24 then a0.Filter==(⟨0,0,0,0,0,0,0,[],0,0,(⟨0,0⟩:Ac),(⟨0,0⟩:Ac),(⟨0,0⟩:Ac)⟩:Ag)else false)).bind fun b25=>
    some b25
   else
    jn (fun(v:Bool)=>NZ a0 b6 v) (fun anS=>
    (if a0.On==4 then
     anS (a0.On==4)
    else if a0.On==5 then
     anS (a0.On==5)
    else
     anS (a0.On==10))))))
def Aad:Bb:=mC [pt,oR,XG] 140 Tryz.f140 (.s .n (.s .n (.s .n (.s .n (.s .n (.s (.s .n (.s .n (.i .n (.s .n (.i .n (.s .n (.i .n (.j ⟨[1,3,4],[ES 109],[[1]],[]⟩ .n .n)))))))) .n)))))) [.s 119] [.k (.bool)] (fun x=>Sa x.1) Tryz.func140 (by kernel_rfl)
end Go.PL
