/- Functions of the program, as partial functions in Lean, with proofs. -/
import Derived.Test.YteginlijmbcopaaGreatDoorPlBdB
import Derived.Test.YteginlijmbcopaaGreatDoorPlBdF0
import Derived.Test.YteginlijmbcopaaGreatDoorPlBdF1
import Derived.Test.YteginlijmbcopaaGreatDoorPlBdF2
import Derived.Test.YteginlijmbcopaaGreatDoorPlBdF3
import Derived.Test.YteginlijmbcopaaGreatDoorPlBdF4
namespace Go.PL
open Go Go.RowKit Go.Proofs
set_option maxRecDepth 100000
set_option linter.all false
set_option maxHeartbeats 4000000
attribute [local irreducible] Ae Cq Cl
def Um (a0:AZ):Option ((List UInt8)):=
 (HM a0).bind fun r1=>
 (if !r1 then
  some ([]:List UInt8)
 else if a0.Kind==1 then
  some Xq
 else if a0.Kind==2 then
  (Cv a0.N).bind fun r5=>
  (cat Np r5).bind fun s6=>
  some s6
 else if a0.Kind==3 then
  (Cv a0.N).bind fun r8=>
  (cat Lo r8).bind fun s9=>
  some s9
 else if a0.Kind==4 then
  (cat TA a0.Sub).bind fun s11=>
  some s11
 else if a0.Kind==5 then
  (cat Qj a0.Sub).bind fun s13=>
  some s13
 else if a0.Kind==6 then
  (EL a0.N).bind fun r15=>
  (cat Lp r15).bind fun s16=>
  some s16
 else if a0.Kind==7 then
  (EL a0.N).bind fun r18=>
  (cat Jm r18).bind fun s19=>
  some s19
 else if a0.Kind==8 then
  (G4 a0.N).bind fun r21=>
  (cat Nu r21).bind fun s22=>
  some s22
 else if a0.Kind==9 then
  (G4 a0.N).bind fun r24=>
  (cat Ee r24).bind fun s25=>
  some s25
 else if a0.Kind==10 then
  some ib
 else if a0.Kind==11 then
  (II a0.Filter).bind fun r28=>
  (cat HZ r28).bind fun s29=>
  (cat s29 YK).bind fun s30=>
  some s30
 else if a0.Kind==12 then
  (Db a0.N).bind fun r32=>
  (cat YL r32).bind fun s33=>
  (cat s33 Lq).bind fun s34=>
  (Db a0.M).bind fun r35=>
  (cat s34 r35).bind fun s36=>
  some s36
 else if a0.Kind==13 then
  (Db a0.N).bind fun r38=>
  (cat TB r38).bind fun s39=>
  (cat s39 Lq).bind fun s40=>
  (Db a0.M).bind fun r41=>
  (cat s40 r41).bind fun s42=>
  some s42
 else
  some QR)
def sQ:Bb:=mC [pj,ML,ajS,ck,Q1,NF] 253 Tryz.f253 .n [.s 148] [.k (.str)] (fun x=>Um x.1) Tryz.func253 (by kernel_rfl)
def Fb (a0:Da):Option ((List UInt8)):=
 (if !a0.Object then
  (some (if !a0.acR then true else !(a0.Filter==(⟨0,0,0,0,0,0,0,[],0,0,(⟨0,0⟩:Ac),(⟨0,0⟩:Ac),(⟨0,0⟩:Ac)⟩:Ag)))).bind fun b2=>
  (if b2 then
   some ([]:List UInt8)
  else
   some kr)
 else
  (B0 a0.Filter).bind fun r4=>
  (some (if a0.Filter.AT != 0 then a0.Filter.AT != 3 else false)).bind fun b5=>
  (some (if b5 then a0.Filter.AT != 5 else false)).bind fun b6=>
  (some (if !r4 then true else b6)).bind fun b7=>
  (if b7 then
   some ([]:List UInt8)
  else
   (II a0.Filter).bind fun r9=>
   (cat uz r9).bind fun s10=>
   (cat s10 ij).bind fun s11=>
   (if a0.acR then
    (cat Ob s11).bind fun s13=>
    some s13
   else
    (cat uA s11).bind fun s14=>
    some s14)))
def R7:Bb:=mC [Dd,Q1] 207 Tryz.f207 .n [.s 184] [.k (.str)] (fun x=>Fb x.1) Tryz.func207 (by kernel_rfl)
def cL (aiW:Ai):Option (Ai):=
 some aiW
def cM (a1:Int) (a2:Int) (agj:Int) (am4:Ai):Option ((Int×Ai)⊕(Ai)):=
 (if decide (agj<a2) then
  (MJ am4 (2:Int) a1).bind fun r11=>
  (if((r11.length:Int)==0) then
   some (.inr am4)
  else
   (idx r11 (0:Int)).bind fun e13=>
   (Wb am4 e13 (1:Int) a1 false).bind fun r14=>
   some (.inl ((Aa (agj+1)),r14.1)))
 else
  some (.inr am4))
def XE (a0:Ai) (a1:Int) (a2:Int):Option (Ai):=
 jn (fun(v:Ai)=>cL v) (fun H_=>
 (iter (fun(v:Int×Ai)=>cM a1 a2 v.1 v.2) FU ((0:Int),a0)).bind (fun o0=>H_ o0))
def ey:Bb:=mC [Pw,XD] 36 Tryz.f36 (.s .n (.j ⟨[3,6],[],[[6]],[([3], .box [.v (.s 36)])]⟩ (.s .n (.l ⟨[1,3,6,8],[Bd 9],[[6]],[([3], .box [.v (.s 36)])]⟩ [(1,⟨[3,6],[],[[6]],[([3], .box [.v (.s 36)])]⟩)] (.s .n (.s .n (.s (.s .n (.s .n (.r [] [] (.t (.q 0 .lz .n))))) .n))))) .n)) [.s 36, .k (.int .i64), .k (.int .i64)] [.s 36] (fun x=>XE x.1 x.2.1 x.2.2.1) Tryz.func36 (by kernel_rfl)
def ez (a0:Cb) (a1:List (Int)) (ao1:Bool):Option (Bool):=
 (if ao1 then
  (IH a0 a1).bind fun r22=>
  (gd (r22==true) (Ul a0 a1)).bind fun r23=>
  (some (if r22 then r23 else false)).bind fun b24=>
  some b24
 else if a0.Kind==8 then
  (TZ a0 a1).bind fun r26=>
  some r26
 else
  some false)
def lj (a0:Cb) (a1:List (Int)) (ak3:Bool):Option (Bool):=
 (if ak3 then
  (gd (((a1.length:Int)==1)==true) (IH a0 a1)).bind fun r5=>
  (some (if((a1.length:Int)==1) then r5 else false)).bind fun b6=>
  some b6
 else if a0.Kind==3 then
  (some (if(decide (a0.aes<=(a1.length:Int))) then decide ((a1.length:Int)<=a0.aoG)else false)).bind fun b8=>
  (gd (b8==true) (IH a0 a1)).bind fun r9=>
  (some (if b8 then r9 else false)).bind fun b10=>
  some b10
 else if a0.Kind==4 then
  (gd (((a1.length:Int)==(a0.Options.length:Int))==true) (IH a0 a1)).bind fun r12=>
  (some (if((a1.length:Int)==(a0.Options.length:Int)) then r12 else false)).bind fun b13=>
  some b13
 else if a0.Kind==5 then
  (gd (((a1.length:Int)==1)==true) (idx a1 (0:Int))).bind fun e15=>
  (some (if((a1.length:Int)==1) then decide (a0.aes<=e15)else false)).bind fun b16=>
  (gd (b16==true) (idx a1 (0:Int))).bind fun e17=>
  (some (if b16 then decide (e17<=a0.aoG)else false)).bind fun b18=>
  some b18
 else
  jn (fun(v:Bool)=>ez a0 a1 v) (fun alz=>
  (if a0.Kind==6 then
   alz (a0.Kind==6)
  else
   alz (a0.Kind==7))))
def iH (a0:Cb) (a1:List (Int)):Option (Bool):=
 (if(decide (256<(a1.length:Int))) then
  some false
 else
  jn (fun(v:Bool)=>lj a0 a1 v) (fun jJ3=>
  (if a0.Kind==1 then
   jJ3 (a0.Kind==1)
  else if a0.Kind==2 then
   jJ3 (a0.Kind==2)
  else if a0.Kind==9 then
   jJ3 (a0.Kind==9)
  else if a0.Kind==10 then
   jJ3 (a0.Kind==10)
  else
   jJ3 (a0.Kind==11))))
def po:Bb:=mC [d9,cH,bH] 81 Tryz.f81 (.s .n (.s .n (.s (.s .n (.j ⟨[1,2,9],[ES 10],[[2]],[]⟩ .n (.i .n (.s .n (.i .n (.s .n (.i .n (.s .n (.i .n (.j ⟨[1,2,9],[ES 77],[[2]],[]⟩ .n .n)))))))))) .n))) [.s 54, .k (.l_ 3)] [.k (.bool)] (fun x=>iH x.1 x.2.1) Tryz.func81 (by kernel_rfl)
def Un (a1:Int) (asB:Ai):Option (Ai):=
 (MJ asB (2:Int) a1).bind fun r3=>
 (CP asB.adt r3).bind fun r4=>
 (pn asB (2:Int) a1 r4.1).bind fun r5=>
 some ({r5 with adt:=r4.2})
def R8 (a1:Int) (r6:(List (Int))) (ajr:Int) (aqY:Ai):Option ((Int×Ai)⊕(Ai)):=
 (if(decide (ajr<(r6.length:Int))) then
  (idx r6 ajr).bind fun e15=>
  (Wb aqY e15 (2:Int) a1 false).bind fun r16=>
  some (.inl ((Aa (ajr+1)),r16.1))
 else
  some (.inr aqY))
def PN (a0:Ai) (a1:Int):Option (Ai):=
 jn (fun(v:Ai)=>Un a1 v) (fun H_=>
 (MJ a0 (1:Int) a1).bind fun r6=>
 (iter (fun(v:Int×Ai)=>R8 a1 r6 v.1 v.2) FU ((0:Int),a0)).bind (fun o0=>H_ o0))
def Wd:Bb:=mC [Pw,XD,PA,sO] 39 Tryz.f39 (.s .n (.j ⟨[1,2,4],[],[[4]],[([2], .box [.v (.s 36)])]⟩ (.s .n (.l ⟨[1,2,4,11,12],[Bd 13],[[4]],[([2], .box [.v (.s 36)])]⟩ [(1,⟨[1,2,4],[],[[4]],[([2], .box [.v (.s 36)])]⟩)] .n)) (.s (.r [] [] (.t (.q 2 .lz .n))) .n))) [.s 36, .k (.int .i64)] [.s 36] (fun x=>PN x.1 x.2.1) Tryz.func39 (by kernel_rfl)
def cN (a0:AZ) (ao3:Bool):Option (Bool):=
 (if ao3 then
  (some (if decide (1<=a0.N) then decide (a0.N<=131071)else false)).bind fun b20=>
  some b20
 else if a0.Kind==11 then
  (I2 a0.Filter).bind fun r22=>
  some r22
 else if a0.Kind==12 then
  (some (if decide (0<=a0.N) then decide (a0.N<=99)else false)).bind fun b24=>
  (some (if b24 then decide (0<=a0.M)else false)).bind fun b25=>
  (some (if b25 then decide (a0.M<=99)else false)).bind fun b26=>
  some b26
 else if a0.Kind==13 then
  (some (if(decide ((-99:Int)<=a0.N)) then decide (a0.N<=99)else false)).bind fun b28=>
  (some (if b28 then decide ((-99:Int)<=a0.M)else false)).bind fun b29=>
  (some (if b29 then decide (a0.M<=99)else false)).bind fun b30=>
  some b30
 else
  some true)
def cO (a0:AZ) (are:Bool):Option (Bool):=
 (if are then
  (JL a0.Sub).bind fun r12=>
  some r12
 else if a0.Kind==6 then
  (some (if decide (0<=a0.N) then decide (a0.N<=31)else false)).bind fun b14=>
  some b14
 else if a0.Kind==7 then
  (some (if decide (1<=a0.N) then decide (a0.N<=31)else false)).bind fun b16=>
  some b16
 else
  jn (fun(v:Bool)=>cN a0 v) (fun aix=>
  (if a0.Kind==8 then
   aix (a0.Kind==8)
  else
   aix (a0.Kind==9))))
def iI (a0:AZ) (arh:Bool):Option (Bool):=
 (if arh then
  (Qq a0.N).bind fun r8=>
  some r8
 else
  jn (fun(v:Bool)=>cO a0 v) (fun ad_=>
  (if a0.Kind==4 then
   ad_ (a0.Kind==4)
  else
   ad_ (a0.Kind==5))))
def PO (a0:AZ):Option (Bool):=
 (some (if decide (a0.Kind<1) then true else decide (14<a0.Kind))).bind fun b1=>
 (gd (b1==false) (bK a0)).bind fun r2=>
 (some (if b1 then true else !(r2==(⟨0,0,0,[],(⟨0,0,0,0,0,0,0,[],0,0,(⟨0,0⟩:Ac),(⟨0,0⟩:Ac),(⟨0,0⟩:Ac)⟩:Ag)⟩:AZ)))).bind fun b3=>
 (if b3 then
  some false
 else
  jn (fun(v:Bool)=>iI a0 v) (fun jJ6=>
  (if a0.Kind==2 then
   jJ6 (a0.Kind==2)
  else
   jJ6 (a0.Kind==3))))
def pq:Bb:=mC [sA,oO,PD,G8] 143 Tryz.f143 (.s .n (.s .n (.s (.s .n (.j ⟨[1,18],[ES 19],[[1]],[]⟩ .n (.i .n (.j ⟨[1,18],[ES 25],[[1]],[]⟩ .n (.i .n (.s .n (.i .n (.s .n (.i .n (.j ⟨[1,18],[ES 51],[[1]],[]⟩ .n .n)))))))))) .n))) [.s 148] [.k (.bool)] (fun x=>PO x.1) Tryz.func143 (by kernel_rfl)
def Uo (aqk:List (List UInt8)):Option ((List UInt8)):=
 (if((aqk.length:Int)==0) then
  some YJ
 else
  (T5 aqk kq).bind fun r41=>
  some r41)
def Up (a0:Ag) (aql:List (List UInt8)):Option ((List UInt8)):=
 (D2 ii a0.Value).bind fun r37=>
 jn (fun(v:(List (List UInt8)))=>Uo v) (fun anQ=>
 (if(r37==([]:List UInt8)) then
  anQ aql
 else
  (app 16 aql ([r37]:List (List UInt8))).bind fun l43=>
  anQ l43))
def Uq (a0:Ag) (aqm:List (List UInt8)):Option ((List UInt8)):=
 (D2 ig a0.abv).bind fun r34=>
 jn (fun(v:(List (List UInt8)))=>Up a0 v) (fun apF=>
 (if(r34==([]:List UInt8)) then
  apF aqm
 else
  (app 16 aqm ([r34]:List (List UInt8))).bind fun l45=>
  apF l45))
def Ur (a0:Ag) (aqn:List (List UInt8)):Option ((List UInt8)):=
 (D2 ic a0.Power).bind fun r31=>
 jn (fun(v:(List (List UInt8)))=>Uq a0 v) (fun aut=>
 (if(r31==([]:List UInt8)) then
  aut aqn
 else
  (app 16 aqn ([r31]:List (List UInt8))).bind fun l47=>
  aut l47))
def Us (a0:Ag) (r6:(List (List UInt8))) (aqo:List (List UInt8)):Option ((List UInt8)):=
 (idx r6 a0.Tap).bind fun e28=>
 jn (fun(v:(List (List UInt8)))=>Ur a0 v) (fun auw=>
 (if(e28==([]:List UInt8)) then
  auw aqo
 else
  (app 16 aqo ([e28]:List (List UInt8))).bind fun l49=>
  auw l49))
def ll (afm:Int) (at2:List (List UInt8)):Option ((Int×(List (List UInt8)))⊕((List (List UInt8)))):=
 some (.inl ((Aa (afm+1)),at2))
def NU (a0:Ag) (afm:Int) (anI:List (List UInt8)):Option ((Int×(List (List UInt8)))⊕((List (List UInt8)))):=
 (if decide (afm<17) then
  jn (fun(v:(List (List UInt8)))=>ll afm v) (fun auq=>
  (Lx a0.Keys afm).bind fun r60=>
  (if r60 then
   (Ug afm).bind fun r62=>
   (cat Mw r62).bind fun s63=>
   (app 16 anI ([s63]:List (List UInt8))).bind fun l64=>
   auq l64
  else
   auq anI))
 else
  some (.inr anI))
def NV (a0:Ag) (r6:(List (List UInt8))) (at3:List (List UInt8)):Option ((List UInt8)):=
 jn (fun(v:(List (List UInt8)))=>Us a0 r6 v) (fun anS=>
 (iter (fun(v:Int×(List (List UInt8)))=>NU a0 v.1 v.2) FU ((0:Int),at3)).bind (fun o0=>anS o0))
def Ut (a0:Ag) (r6:(List (List UInt8))) (aqp:List (List UInt8)):Option ((List UInt8)):=
 jn (fun(v:(List (List UInt8)))=>NV a0 r6 v) (fun anU=>
 (if(a0.Sub != ([]:List UInt8)) then
  (cat HY a0.Sub).bind fun s66=>
  (app 16 aqp ([s66]:List (List UInt8))).bind fun l67=>
  anU l67
 else
  anU aqp))
def lm (afn:Int) (at1:List (List UInt8)):Option ((Int×(List (List UInt8)))⊕((List (List UInt8)))):=
 some (.inl ((Aa (afn+1)),at1))
def NW (a0:Ag) (afn:Int) (anH:List (List UInt8)):Option ((Int×(List (List UInt8)))⊕((List (List UInt8)))):=
 (if decide (afn<5) then
  jn (fun(v:(List (List UInt8)))=>lm afn v) (fun aum=>
  (Lx a0.aaZ afn).bind fun r78=>
  (if r78 then
   (Ps afn).bind fun r80=>
   (cat GI r80).bind fun s81=>
   (app 16 anH ([s81]:List (List UInt8))).bind fun l82=>
   aum l82
  else
   aum anH))
 else
  some (.inr anH))
def Uu (a0:Ag) (r6:(List (List UInt8))) (at4:List (List UInt8)):Option ((List UInt8)):=
 jn (fun(v:(List (List UInt8)))=>Ut a0 r6 v) (fun arW=>
 (iter (fun(v:Int×(List (List UInt8)))=>NW a0 v.1 v.2) FU ((0:Int),at4)).bind (fun o0=>arW o0))
def lp (afo:Int) (atZ:List (List UInt8)):Option ((Int×(List (List UInt8)))⊕((List (List UInt8)))):=
 some (.inl ((Aa (afo+1)),atZ))
def NX (a0:Ag) (afo:Int) (anG:List (List UInt8)):Option ((Int×(List (List UInt8)))⊕((List (List UInt8)))):=
 (if decide (afo<5) then
  jn (fun(v:(List (List UInt8)))=>lp afo v) (fun auk=>
  (Lx a0.adM afo).bind fun r93=>
  (if r93 then
   (Ps afo).bind fun r95=>
   (app 16 anG ([r95]:List (List UInt8))).bind fun l96=>
   auk l96
  else
   auk anG))
 else
  some (.inr anG))
def Uv (a0:Ag) (r6:(List (List UInt8))) (at5:List (List UInt8)):Option ((List UInt8)):=
 jn (fun(v:(List (List UInt8)))=>Uu a0 r6 v) (fun ahu=>
 (iter (fun(v:Int×(List (List UInt8)))=>NX a0 v.1 v.2) FU ((0:Int),at5)).bind (fun o0=>ahu o0))
def eA (afj:Int) (arJ:List (List UInt8)):Option ((Int×(List (List UInt8)))⊕((List (List UInt8)))):=
 some (.inl ((Aa (afj+1)),arJ))
def LY (a0:Ag) (afj:Int) (alm:List (List UInt8)):Option ((Int×(List (List UInt8)))⊕((List (List UInt8)))):=
 (if decide (afj<6) then
  jn (fun(v:(List (List UInt8)))=>eA afj v) (fun aqy=>
  (Lx a0.abw afj).bind fun ayf=>
  (if ayf then
   (Jt afj).bind fun aye=>
   (cat GI aye).bind fun axT=>
   (app 16 alm ([axT]:List (List UInt8))).bind fun ayN=>
   aqy ayN
  else
   aqy alm))
 else
  some (.inr alm))
def Uw (a0:Ag) (r6:(List (List UInt8))) (at6:List (List UInt8)):Option ((List UInt8)):=
 jn (fun(v:(List (List UInt8)))=>Uv a0 r6 v) (fun aeS=>
 (iter (fun(v:Int×(List (List UInt8)))=>LY a0 v.1 v.2) FU ((0:Int),at6)).bind (fun o0=>aeS o0))
def eC (afk:Int) (arI:List (List UInt8)):Option ((Int×(List (List UInt8)))⊕((List (List UInt8)))):=
 some (.inl ((Aa (afk+1)),arI))
def LZ (a0:Ag) (afk:Int) (alk:List (List UInt8)):Option ((Int×(List (List UInt8)))⊕((List (List UInt8)))):=
 (if decide (afk<6) then
  jn (fun(v:(List (List UInt8)))=>eC afk v) (fun aqw=>
  (Lx a0.Types afk).bind fun ayd=>
  (if ayd then
   (Jt afk).bind fun ayc=>
   (app 16 alk ([ayc]:List (List UInt8))).bind fun ayJ=>
   aqw ayJ
  else
   aqw alk))
 else
  some (.inr alk))
def Ux (a0:Ag) (r6:(List (List UInt8))) (at7:List (List UInt8)):Option ((List UInt8)):=
 jn (fun(v:(List (List UInt8)))=>Uw a0 r6 v) (fun amL=>
 (iter (fun(v:Int×(List (List UInt8)))=>LZ a0 v.1 v.2) FU ((0:Int),at7)).bind (fun o0=>amL o0))
def Uy (a0:Ag) (r5:(List (List UInt8))) (r6:(List (List UInt8))) (aqq:List (List UInt8)):Option ((List UInt8)):=
 (idx r5 a0.Self).bind fun e13=>
 jn (fun(v:(List (List UInt8)))=>Ux a0 r6 v) (fun ad9=>
 (if(e13==([]:List UInt8)) then
  ad9 aqq
 else
  (app 16 aqq ([e13]:List (List UInt8))).bind fun ayI=>
  ad9 ayI))
def XF (a0:Ag) (r4:(List (List UInt8))) (r5:(List (List UInt8))) (r6:(List (List UInt8))) (at0:List (List UInt8)):Option ((List UInt8)):=
 (idx r4 a0.Who).bind fun e10=>
 jn (fun(v:(List (List UInt8)))=>Uy a0 r5 r6 v) (fun agH=>
 (if(e10==([]:List UInt8)) then
  agH at0
 else
  (app 16 at0 ([e10]:List (List UInt8))).bind fun ayH=>
  agH ayH))
def Uz (a0:Ag):Option ((List UInt8)):=
 (I2 a0).bind fun r1=>
 (if !r1 then
  some ([]:List UInt8)
 else
  (QV).bind fun r3=>
  (T3).bind fun r4=>
  (QW).bind fun r5=>
  (T4).bind fun r6=>
  (idx r3 a0.AT).bind fun e7=>
  jn (fun(v:(List (List UInt8)))=>XF a0 r4 r5 r6 v) (fun jJ9=>
  (if(e7==([]:List UInt8)) then
   jJ9 ([]:List (List UInt8))
  else
   (app 16 ([]:List (List UInt8)) ([e7]:List (List UInt8))).bind fun ayG=>
   jJ9 ayG)))
def sR:Bb:=mC [G8,X1,bM,X2,bN,w6,cJ,bL,cj,Yc,sC] 198 Tryz.f198 (.s .n (.s .n (.s .n (.s .n (.s .n (.s .n (.s .n (.s (.r [] [] (.j 6 ⟨[1,4,5,6],[(26, .c (.c (.e_ [7])))],[[1]],[([7], .row 9)]⟩ .n .n)) (.s (.r [] [] (.j 6 ⟨[1,5,6],[(33, .c (.c (.e_ [7])))],[[1]],[([7], .row 9)]⟩ .n .n)) (.s (.r [] [] (.j 6 ⟨[1,6],[(40, .c (.c (.e_ [7])))],[[1]],[([7], .row 9)]⟩ .n .n)) (.j ⟨[1,6],[(7, .c (.c (.e_ [7])))],[[1]],[([7], .row 9)]⟩ (.s .n (.l ⟨[1,6],[(7, .c (.c (.e_ [7]))),Bd 8],[[1]],[([7], .row 9)]⟩ [(1,⟨[1,6],[(7, .c (.c (.e_ [7])))],[[1]],[([7], .row 9)]⟩)] (.s .n (.j ⟨[1,6,8],[(7, .c (.c (.e_ [7])))],[[1]],[([7], .row 9)]⟩ .n .n)))) (.j ⟨[1,6],[(7, .c (.c (.e_ [7])))],[[1]],[([7], .row 9)]⟩ (.s .n (.l ⟨[1,6],[(7, .c (.c (.e_ [7]))),Bd 9],[[1]],[([7], .row 9)]⟩ [(3,⟨[1,6],[(7, .c (.c (.e_ [7])))],[[1]],[([7], .row 9)]⟩)] (.s .n (.j ⟨[1,6,9],[(7, .c (.c (.e_ [7])))],[[1]],[([7], .row 9)]⟩ .n .n)))) (.j ⟨[1,6],[(7, .c (.c (.e_ [7])))],[[1]],[([7], .row 9)]⟩ (.s .n (.l ⟨[1,6],[(7, .c (.c (.e_ [7]))),Bd 10],[[1]],[([7], .row 9)]⟩ [(5,⟨[1,6],[(7, .c (.c (.e_ [7])))],[[1]],[([7], .row 9)]⟩)] (.s .n (.j ⟨[1,6,10],[(7, .c (.c (.e_ [7])))],[[1]],[([7], .row 9)]⟩ .n .n)))) (.j ⟨[1,6],[(7, .c (.c (.e_ [7])))],[[1]],[([7], .row 9)]⟩ (.s .n (.l ⟨[1,6],[(7, .c (.c (.e_ [7]))),Bd 11],[[1]],[([7], .row 9)]⟩ [(7,⟨[1,6],[(7, .c (.c (.e_ [7])))],[[1]],[([7], .row 9)]⟩)] (.s .n (.j ⟨[1,6,11],[(7, .c (.c (.e_ [7])))],[[1]],[([7], .row 9)]⟩ .n .n)))) (.j ⟨[1,6],[(7, .c (.c (.e_ [7])))],[[1]],[([7], .row 9)]⟩ .n (.j ⟨[1,6],[(7, .c (.c (.e_ [7])))],[[1]],[([7], .row 9)]⟩ (.s .n (.l ⟨[1,6],[(7, .c (.c (.e_ [7]))),Bd 12],[[1]],[([7], .row 9)]⟩ [(9,⟨[1,6],[(7, .c (.c (.e_ [7])))],[[1]],[([7], .row 9)]⟩)] (.s .n (.j ⟨[1,6,12],[(7, .c (.c (.e_ [7])))],[[1]],[([7], .row 9)]⟩ .n .n)))) (.s (.r [] [] (.j 6 ⟨[1],[(124, .c (.c (.e_ [7])))],[[1]],[([7], .row 9)]⟩ .n .n)) (.s (.r [] [] (.j 4 ⟨[1],[(129, .c (.c (.e_ [7])))],[[1]],[([7], .row 9)]⟩ .n .n)) (.s (.r [] [] (.j 4 ⟨[1],[(134, .c (.c (.e_ [7])))],[[1]],[([7], .row 9)]⟩ .n .n)) (.s (.r [] [] (.j 4 ⟨[],[(139, .c (.c (.e_ [7])))],[],[([7], .row 9)]⟩ .n .n)) .n)))))))))))))))))))) [.s 110] [.k (.str)] (fun x=>Uz x.1) Tryz.func198 (by kernel_rfl)
def cP (a0:AY) (ams:Int):Option (Bool):=
 (I2 a0.Filter).bind fun r11=>
 (some (if r11 then a0.Filter.AT==ams else false)).bind fun b12=>
 some b12
def PQ (a0:AY):Option (Bool):=
 (ID a0.aiq).bind fun r1=>
 (some (if(r1==([]:List UInt8)) then true else decide (a0.Who<0))).bind fun b2=>
 (some (if b2 then true else decide (2<a0.Who))).bind fun b3=>
 (gd (b3==false) (KJ a0.aiq)).bind fun r4=>
 (some (if !r4 then a0.Who != 0 else false)).bind fun b5=>
 (if(if b3=true then true else b5) then
  some false
 else
  (LV a0.aiq).bind fun r7=>
  (if !r7 then
   some (a0.Filter==(⟨0,0,0,0,0,0,0,[],0,0,(⟨0,0⟩:Ac),(⟨0,0⟩:Ac),(⟨0,0⟩:Ac)⟩:Ag))
  else
   jn (fun(v:Int)=>cP a0 v) (fun ad_=>
   (if a0.aiq==9 then
    ad_ (5:Int)
   else
    ad_ (0:Int)))))
def Aaa:Bb:=mC [bP,T6,X7,G8] 139 Tryz.f139 (.s .n (.s .n (.s .n (.s .n (.j ⟨[1],[Bd 3],[[1]],[]⟩ .n .n))))) [.s 115] [.k (.bool)] (fun x=>PQ x.1) Tryz.func139 (by kernel_rfl)
def JM (a0:Ag):Option (Bool):=
 (I2 a0).bind fun r1=>
 (some (if r1 then a0.AT==0 else false)).bind fun b2=>
 some b2
def XG:Bb:=mC [G8] 190 Tryz.f190 .n [.s 110] [.k (.bool)] (fun x=>JM x.1) Tryz.func190 (by kernel_rfl)
def KR (a0:Da):Option (Bool):=
 (if !a0.Object then
  (some (if a0.acR then a0.Filter==(⟨0,0,0,0,0,0,0,[],0,0,(⟨0,0⟩:Ac),(⟨0,0⟩:Ac),(⟨0,0⟩:Ac)⟩:Ag)else false)).bind fun b2=>
  some b2
 else
  (I2 a0.Filter).bind fun r3=>
  (some (if a0.Filter.AT==0 then true else a0.Filter.AT==3)).bind fun b4=>
  (some (if b4 then true else a0.Filter.AT==5)).bind fun b5=>
  (some (if r3 then b5 else false)).bind fun b6=>
  some b6)
def sS:Bb:=mC [G8] 191 Tryz.f191 .n [.s 184] [.k (.bool)] (fun x=>KR x.1) Tryz.func191 (by kernel_rfl)
def iJ (a0:HF):Option (Bool):=
 (if a0.Kind==4 then
  (I2 a0.Filter).bind fun r7=>
  some r7
 else
  some (a0.Filter==(⟨0,0,0,0,0,0,0,[],0,0,(⟨0,0⟩:Ac),(⟨0,0⟩:Ac),(⟨0,0⟩:Ac)⟩:Ag)))
def We (a0:HF) (ak8:Int):Option (Bool):=
 (some (if decide (a0.Kind<1) then true else decide (8<a0.Kind))).bind fun b3=>
 (if b3 then
  some false
 else
  jn (fun(v:Unit)=>iJ a0) (fun jJ5=>
  (NI a0.Kind).bind fun r8=>
  (if r8 then
   (some (if decide (a0.N<1) then true else decide (ak8<a0.N))).bind fun b10=>
   (if b10 then
    some false
   else
    jJ5 ())
  else if a0.N != 0 then
   some false
  else
   jJ5 ())))
def Wf (a0:HF) (a1:Int):Option (Bool):=
 jn (fun(v:Int)=>We a0 v) (fun H_=>
 (if decide (4<a1) then
  H_ (4:Int)
 else
  H_ a1))
def Aab:Bb:=mC [bR,G8] 226 Tryz.f226 (.s .n (.j ⟨[2],[Bd 1],[[2]],[]⟩ .n (.s .n (.j ⟨[2],[],[[2]],[]⟩ .n .n)))) [.s 176, .k (.int .i64)] [.k (.bool)] (fun x=>Wf x.1 x.2.1) Tryz.func226 (by kernel_rfl)
def Wg (a0:AW) (aiW:AW):Option (Bool):=
 (some (if decide (0<=a0.Kind) then decide (a0.Kind<=7)else false)).bind fun b3=>
 (some (if b3 then aiW==(⟨a0.Kind,0,0,(⟨0,0,0,0,0,0,0,[],0,0,(⟨0,0⟩:Ac),(⟨0,0⟩:Ac),(⟨0,0⟩:Ac)⟩:Ag)⟩:AW)else false)).bind fun b4=>
 some b4
def R9 (a0:AW):Option (Bool):=
 jn (fun(v:AW)=>Wg a0 v) (fun H_=>
 (if a0.Kind==0 then
  (some (if decide (a0.N<0) then true else decide (1000000<a0.N))).bind fun b6=>
  (if b6 then
   some false
  else
   H_ ({a0 with N:=(0:Int)}))
 else if a0.Kind==2 then
  (some (if decide (a0.N<1) then true else decide (99<a0.N))).bind fun b9=>
  (gd (b9==false) (I2 a0.Filter)).bind fun r10=>
  (some (if b9 then true else !r10)).bind fun b11=>
  (if b11 then
   some false
  else
   H_ ({{a0 with N:=(0:Int)}with Filter:=(⟨0,0,0,0,0,0,0,[],0,0,(⟨0,0⟩:Ac),(⟨0,0⟩:Ac),(⟨0,0⟩:Ac)⟩:Ag)}))
 else if a0.Kind==4 then
  (Pt a0.r_).bind fun r14=>
  (if(r14==([]:List UInt8)) then
   some false
  else
   H_ ({a0 with r_:=(0:Int)}))
 else
  H_ a0))
def Aac:Bb:=mC [G8,bU] 228 Tryz.f228 (.s .n (.s .n (.j ⟨[1,3],[],[[1]],[([3], .box [.v (.s 178)])]⟩ .n .n))) [.s 178] [.k (.bool)] (fun x=>R9 x.1) Tryz.func228 (by kernel_rfl)
def Q3 (a1:Ag) (amr:Int):Option (Bool):=
 (I2 a1).bind fun r3=>
 (some (if r3 then a1.AT==amr else false)).bind fun b4=>
 some b4
def NY (a0:Int) (a1:Ag):Option (Bool):=
 jn (fun(v:Int)=>Q3 a1 v) (fun H_=>
 (if a0==21 then
  H_ (2:Int)
 else
  H_ (0:Int)))
def lq:Bb:=mC [G8] 231 Tryz.f231 (.s .n (.s .n (.j ⟨[3],[Bd 5],[[3]],[]⟩ .n .n))) [.k (.int .i64), .s 110] [.k (.bool)] (fun x=>NY x.1 x.2.1) Tryz.func231 (by kernel_rfl)
end Go.PL
