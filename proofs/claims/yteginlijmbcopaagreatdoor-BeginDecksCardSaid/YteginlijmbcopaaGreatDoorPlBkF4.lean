/- Functions of the program, as partial functions in Lean, with proofs. -/
import Derived.Test.YteginlijmbcopaaGreatDoorPlBkB
import Derived.Test.YteginlijmbcopaaGreatDoorPlBkF0
import Derived.Test.YteginlijmbcopaaGreatDoorPlBkF1
import Derived.Test.YteginlijmbcopaaGreatDoorPlBkF2
import Derived.Test.YteginlijmbcopaaGreatDoorPlBkF3
namespace Go.PL
open Go Go.RowKit Go.Proofs
set_option maxRecDepth 100000
set_option linter.all false
set_option maxHeartbeats 4000000
attribute [local irreducible] Ad Cx Cr
def No (a0:B4) (an2:Bool):Option (Bool):=
 (if an2 then
  (I1 a0.N (1:Int) (131071:Int)).bind fun r21=>
  some r21
 else if a0.Kind==11 then
  (Ct a0.Filter).bind fun r23=>
  some r23
 else if a0.Kind==12 then
  (I1 a0.N (0:Int) (99:Int)).bind fun r25=>
  (gd (r25==true) (I1 a0.M (0:Int) (99:Int))).bind fun r26=>
  (some (if r25 then r26 else false)).bind fun b27=>
  some b27
 else if a0.Kind==13 then
  (I1 a0.N (-99:Int) (99:Int)).bind fun r29=>
  (gd (r29==true) (I1 a0.M (-99:Int) (99:Int))).bind fun r30=>
  (some (if r29 then r30 else false)).bind fun b31=>
  some b31
 else
  some true)
def Np (a0:B4) (an7:Bool):Option (Bool):=
 (if an7 then
  (HN a0.Sub).bind fun r13=>
  some r13
 else if a0.Kind==6 then
  (I1 a0.N (0:Int) (31:Int)).bind fun r15=>
  some r15
 else if a0.Kind==7 then
  (I1 a0.N (1:Int) (31:Int)).bind fun r17=>
  some r17
 else
  jn (fun(v:Bool)=>No a0 v) (fun afS=>
  (if a0.Kind==8 then
   afS (a0.Kind==8)
  else
   afS (a0.Kind==9))))
def Pv (a0:B4) (aqc:Bool):Option (Bool):=
 (if aqc then
  (I1 a0.N (1:Int) (63:Int)).bind fun r8=>
  (some (if r8 then(JS .i64 a0.N (6:Int))==(0:Int)else false)).bind fun b9=>
  some b9
 else
  jn (fun(v:Bool)=>Np a0 v) (fun aa9=>
  (if a0.Kind==4 then
   aa9 (a0.Kind==4)
  else
   aa9 (a0.Kind==5))))
def LR (a0:B4):Option (Bool):=
 (I1 a0.Kind (1:Int) (14:Int)).bind fun r1=>
 (gd ((!r1)==false) (OG a0)).bind fun r2=>
 (some (if !r1 then true else !(a0==r2))).bind fun b3=>
 (if b3 then
  some false
 else
  jn (fun(v:Bool)=>Pv a0 v) (fun jJ6=>
  (if a0.Kind==2 then
   jJ6 (a0.Kind==2)
  else
   jJ6 (a0.Kind==3))))
def lq:Cj:=mC [wq,oF,Ng,Di] 252 Tryz.f252 (.s .n (.s .n (.s (.s .n (.j ⟨[1,14],[JL 15],[[1]],[]⟩ .n (.i .n (.j ⟨[1,14],[JL 27],[[1]],[]⟩ .n (.i .n (.s .n (.i .n (.s .n (.i .n (.j ⟨[1,14],[JL 43],[[1]],[]⟩ .n .n)))))))))) .n))) [.s 148] [.k (.bool)] (fun x=>LR x.1) Tryz.func252 (by kernel_rfl)
def NI (ag5:List (List UInt8)):Option ((List UInt8)):=
 (if((ag5.length:Int)==0) then
  some qk
 else
  (PR ag5 ql).bind fun r37=>
  some r37)
def NJ (a0:Aq) (ag6:List (List UInt8)):Option ((List UInt8)):=
 (CX sR a0.Value).bind fun r33=>
 jn (fun(v:(List (List UInt8)))=>NI v) (fun aos=>
 (if(r33 != ([]:List UInt8)) then
  (app 16 ag6 ([r33]:List (List UInt8))).bind fun l39=>
  aos l39
 else
  aos ag6))
def NK (a0:Aq) (ag7:List (List UInt8)):Option ((List UInt8)):=
 (CX sQ a0.acS).bind fun r30=>
 jn (fun(v:(List (List UInt8)))=>NJ a0 v) (fun asX=>
 (if(r30 != ([]:List UInt8)) then
  (app 16 ag7 ([r30]:List (List UInt8))).bind fun l41=>
  asX l41
 else
  asX ag7))
def NL (a0:Aq) (ag8:List (List UInt8)):Option ((List UInt8)):=
 (CX sN a0.Power).bind fun r27=>
 jn (fun(v:(List (List UInt8)))=>NK a0 v) (fun amT=>
 (if(r27 != ([]:List UInt8)) then
  (app 16 ag8 ([r27]:List (List UInt8))).bind fun l43=>
  amT l43
 else
  amT ag8))
def NM (a0:Aq) (ag9:List (List UInt8)):Option ((List UInt8)):=
 (idx (⟨([]:List UInt8),oo,fV⟩:A3 (List UInt8)).l a0.Tap).bind fun e24=>
 jn (fun(v:(List (List UInt8)))=>NL a0 v) (fun asZ=>
 (if(e24 != ([]:List UInt8)) then
  (app 16 ag9 ([e24]:List (List UInt8))).bind fun l45=>
  asZ l45
 else
  asZ ag9))
def V7 (adp:Int) (akv:List (List UInt8)):Option ((Int×(List (List UInt8)))⊕((List (List UInt8)))):=
 some (.inl ((Ac (adp+1)),akv))
def D1 (adp:Int) (acK:List (List UInt8)) (an8:List UInt8):Option ((Int×(List (List UInt8)))⊕((List (List UInt8)))):=
 (cat dK an8).bind fun s58=>
 jn (fun(v:(List (List UInt8)))=>V7 adp v) (fun asV=>
 (if(s58 != ([]:List UInt8)) then
  (app 16 acK ([s58]:List (List UInt8))).bind fun l62=>
  asV l62
 else
  asV acK))
def I4 (adg:((List UInt8))->Option ((Int×(List (List UInt8)))⊕((List (List UInt8))))) (anY:List UInt8):Option ((Int×(List (List UInt8)))⊕((List (List UInt8)))):=
 (BY ([anY,Mn]:List (List UInt8))).bind fun r68=>
 (cat r68 OD).bind fun s69=>
 adg s69
def I5 (adg:((List UInt8))->Option ((Int×(List (List UInt8)))⊕((List (List UInt8))))) (anX:List UInt8):Option ((Int×(List (List UInt8)))⊕((List (List UInt8)))):=
 (BY ([anX,HL]:List (List UInt8))).bind fun r72=>
 (cat r72 OC).bind fun s73=>
 adg s73
def FW (r46:(List (Int))) (adp:Int) (acK:List (List UInt8)):Option ((Int×(List (List UInt8)))⊕((List (List UInt8)))):=
 (if(decide (adp<(r46.length:Int))) then
  (idx r46 adp).bind fun e55=>
  jn (fun(v:(List UInt8))=>D1 adp acK v) (fun adg=>
  (some (if decide (e55<0) then true else decide (17<=e55))).bind fun b63=>
  (if b63 then
   adg ([]:List UInt8)
  else
   (n_ (0<=e55)).bind fun u65=>
   jn (fun(v:(List UInt8))=>I4 adg v) (fun akC=>
   jn (fun(v:(List UInt8))=>I5 adg v) (fun asU=>
   (if((Ac ((1:Int)*2 ^ (min (e55).toNat (IntKind.i64).bits)))==(1:Int)) then
    adg YJ
   else if((Ac ((1:Int)*2 ^ (min (e55).toNat (IntKind.i64).bits)))==(2:Int)) then
    adg dH
   else if((Ac ((1:Int)*2 ^ (min (e55).toNat (IntKind.i64).bits)))==(4:Int)) then
    adg dJ
   else if((Ac ((1:Int)*2 ^ (min (e55).toNat (IntKind.i64).bits)))==(8:Int)) then
    adg R2
   else if((Ac ((1:Int)*2 ^ (min (e55).toNat (IntKind.i64).bits)))==(16:Int)) then
    adg Vt
   else if((Ac ((1:Int)*2 ^ (min (e55).toNat (IntKind.i64).bits)))==(32:Int)) then
    asU Po
   else if((Ac ((1:Int)*2 ^ (min (e55).toNat (IntKind.i64).bits)))==(64:Int)) then
    asU ([]:List UInt8)
   else if((Ac ((1:Int)*2 ^ (min (e55).toNat (IntKind.i64).bits)))==(128:Int)) then
    adg YK
   else if((Ac ((1:Int)*2 ^ (min (e55).toNat (IntKind.i64).bits)))==(256:Int)) then
    adg R3
   else if((Ac ((1:Int)*2 ^ (min (e55).toNat (IntKind.i64).bits)))==(512:Int)) then
    adg YL
   else if((Ac ((1:Int)*2 ^ (min (e55).toNat (IntKind.i64).bits)))==(1024:Int)) then
    adg R4
   else if((Ac ((1:Int)*2 ^ (min (e55).toNat (IntKind.i64).bits)))==(2048:Int)) then
    adg YM
   else if((Ac ((1:Int)*2 ^ (min (e55).toNat (IntKind.i64).bits)))==(4096:Int)) then
    adg YN
   else if((Ac ((1:Int)*2 ^ (min (e55).toNat (IntKind.i64).bits)))==(8192:Int)) then
    adg Vu
   else if((Ac ((1:Int)*2 ^ (min (e55).toNat (IntKind.i64).bits)))==(16384:Int)) then
    akC fS
   else if((Ac ((1:Int)*2 ^ (min (e55).toNat (IntKind.i64).bits)))==(65536:Int)) then
    akC ([]:List UInt8)
   else
    adg R5)))))
 else
  some (.inr acK))
def I6 (a0:Aq) (akw:List (List UInt8)):Option ((List UInt8)):=
 jn (fun(v:(List (List UInt8)))=>NM a0 v) (fun axe=>
 (FK a0.Keys).bind fun r46=>
 (iter (fun(v:Int×(List (List UInt8)))=>FW r46 v.1 v.2) FU ((0:Int),akw)).bind (fun o0=>axe o0))
def NN (ahE:((List (List UInt8)))->Option ((List UInt8))) (aku:List (List UInt8)):Option ((List UInt8)):=
 ahE aku
def NO (a0:Aq) (aeT:List (List UInt8)):Option ((List UInt8)):=
 jn (fun(v:(List (List UInt8)))=>I6 a0 v) (fun ahE=>
 (if(a0.Sub != ([]:List UInt8)) then
  (cat PS a0.Sub).bind fun s91=>
  jn (fun(v:(List (List UInt8)))=>NN ahE v) (fun asT=>
  (if(s91 != ([]:List UInt8)) then
   (app 16 aeT ([s91]:List (List UInt8))).bind fun l95=>
   asT l95
  else
   asT aeT))
 else
  ahE aeT))
def Ul (acG:Int) (ajp:List (List UInt8)):Option ((Int×(List (List UInt8)))⊕((List (List UInt8)))):=
 some (.inl ((Ac (acG+1)),ajp))
def HS (acG:Int) (acd:List (List UInt8)) (amv:List UInt8):Option ((Int×(List (List UInt8)))⊕((List (List UInt8)))):=
 (cat YQ amv).bind fun ass=>
 jn (fun(v:(List (List UInt8)))=>Ul acG v) (fun alc=>
 (if(ass != ([]:List UInt8)) then
  (app 16 acd ([ass]:List (List UInt8))).bind fun aw6=>
  alc aw6
 else
  alc acd))
def Fj (r96:(List (Int))) (acG:Int) (acd:List (List UInt8)):Option ((Int×(List (List UInt8)))⊕((List (List UInt8)))):=
 (if(decide (acG<(r96.length:Int))) then
  (idx r96 acG).bind fun ajA=>
  jn (fun(v:(List UInt8))=>HS acG acd v) (fun apm=>
  (some (if decide (ajA<0) then true else decide (5<=ajA))).bind fun azq=>
  (if azq then
   apm ([]:List UInt8)
  else
   (n_ (0<=ajA/\ajA<((5:Nat):Int))).bind fun avV=>
   (n_ (ajA.toNat<EJ.length)).bind fun avU=>
   apm (EJ.getD ajA.toNat [])))
 else
  some (.inr acd))
def NP (a0:Aq) (akx:List (List UInt8)):Option ((List UInt8)):=
 jn (fun(v:(List (List UInt8)))=>NO a0 v) (fun afS=>
 (FK a0.ab3).bind fun r96=>
 (iter (fun(v:Int×(List (List UInt8)))=>Fj r96 v.1 v.2) FU ((0:Int),akx)).bind (fun o0=>afS o0))
def Um (acF:Int) (ajo:List (List UInt8)):Option ((Int×(List (List UInt8)))⊕((List (List UInt8)))):=
 some (.inl ((Ac (acF+1)),ajo))
def HT (acF:Int) (acb:List (List UInt8)) (amu:List UInt8):Option ((Int×(List (List UInt8)))⊕((List (List UInt8)))):=
 (cat ([]:List UInt8) amu).bind fun asr=>
 jn (fun(v:(List (List UInt8)))=>Um acF v) (fun apj=>
 (if(asr != ([]:List UInt8)) then
  (app 16 acb ([asr]:List (List UInt8))).bind fun aw3=>
  apj aw3
 else
  apj acb))
def Fk (aoi:(List (Int))) (acF:Int) (acb:List (List UInt8)):Option ((Int×(List (List UInt8)))⊕((List (List UInt8)))):=
 (if(decide (acF<(aoi.length:Int))) then
  (idx aoi acF).bind fun akJ=>
  jn (fun(v:(List UInt8))=>HT acF acb v) (fun apk=>
  (some (if decide (akJ<0) then true else decide (5<=akJ))).bind fun azp=>
  (if azp then
   apk ([]:List UInt8)
  else
   (n_ (0<=akJ/\akJ<((5:Nat):Int))).bind fun aDi=>
   (n_ (akJ.toNat<EJ.length)).bind fun aDh=>
   apk (EJ.getD akJ.toNat [])))
 else
  some (.inr acb))
def NQ (a0:Aq) (aky:List (List UInt8)):Option ((List UInt8)):=
 jn (fun(v:(List (List UInt8)))=>NP a0 v) (fun axf=>
 (FK a0.ae5).bind fun aoi=>
 (iter (fun(v:Int×(List (List UInt8)))=>Fk aoi v.1 v.2) FU ((0:Int),aky)).bind (fun o0=>axf o0))
def Un (adS:Int) (ajn:List (List UInt8)):Option ((Int×(List (List UInt8)))⊕((List (List UInt8)))):=
 some (.inl ((Ac (adS+1)),ajn))
def Fl (aoh:(List (Int))) (adS:Int) (ad1:List (List UInt8)):Option ((Int×(List (List UInt8)))⊕((List (List UInt8)))):=
 (if(decide (adS<(aoh.length:Int))) then
  (idx aoh adS).bind fun aug=>
  (n_ (0<=aug)).bind fun avT=>
  (CC (Ac ((1:Int)*2 ^ (min (aug).toNat (IntKind.i64).bits)))).bind fun awq=>
  (cat YQ awq).bind fun asq=>
  jn (fun(v:(List (List UInt8)))=>Un adS v) (fun api=>
  (if(asq != ([]:List UInt8)) then
   (app 16 ad1 ([asq]:List (List UInt8))).bind fun aw2=>
   api aw2
  else
   api ad1))
 else
  some (.inr ad1))
def NR (a0:Aq) (akz:List (List UInt8)):Option ((List UInt8)):=
 jn (fun(v:(List (List UInt8)))=>NQ a0 v) (fun ahF=>
 (FK a0.acT).bind fun aoh=>
 (iter (fun(v:Int×(List (List UInt8)))=>Fl aoh v.1 v.2) FU ((0:Int),akz)).bind (fun o0=>ahF o0))
def Uo (adR:Int) (ajm:List (List UInt8)):Option ((Int×(List (List UInt8)))⊕((List (List UInt8)))):=
 some (.inl ((Ac (adR+1)),ajm))
def Fm (aog:(List (Int))) (adR:Int) (ad0:List (List UInt8)):Option ((Int×(List (List UInt8)))⊕((List (List UInt8)))):=
 (if(decide (adR<(aog.length:Int))) then
  (idx aog adR).bind fun ara=>
  (n_ (0<=ara)).bind fun aDd=>
  (CC (Ac ((1:Int)*2 ^ (min (ara).toNat (IntKind.i64).bits)))).bind fun awl=>
  (cat ([]:List UInt8) awl).bind fun asp=>
  jn (fun(v:(List (List UInt8)))=>Uo adR v) (fun apg=>
  (if(asp != ([]:List UInt8)) then
   (app 16 ad0 ([asp]:List (List UInt8))).bind fun aw0=>
   apg aw0
  else
   apg ad0))
 else
  some (.inr ad0))
def NS (a0:Aq) (akA:List (List UInt8)):Option ((List UInt8)):=
 jn (fun(v:(List (List UInt8)))=>NR a0 v) (fun aex=>
 (FK a0.Types).bind fun aog=>
 (iter (fun(v:Int×(List (List UInt8)))=>Fm aog v.1 v.2) FU ((0:Int),akA)).bind (fun o0=>aex o0))
def OQ (a0:Aq) (aic:List (List UInt8)):Option ((List UInt8)):=
 (idx (⟨([]:List UInt8),wl,sM⟩:A3 (List UInt8)).l a0.Self).bind fun e9=>
 jn (fun(v:(List (List UInt8)))=>NS a0 v) (fun aa9=>
 (if(e9 != ([]:List UInt8)) then
  (app 16 aic ([e9]:List (List UInt8))).bind fun awY=>
  aa9 awY
 else
  aa9 aic))
def OR (a0:Aq) (aid:List (List UInt8)):Option ((List UInt8)):=
 (idx (⟨([]:List UInt8),sL,om⟩:A3 (List UInt8)).l a0.Who).bind fun e6=>
 jn (fun(v:(List (List UInt8)))=>OQ a0 v) (fun jJ8=>
 (if(e6 != ([]:List UInt8)) then
  (app 16 aid ([e6]:List (List UInt8))).bind fun awX=>
  jJ8 awX
 else
  jJ8 aid))
def IL (a0:Aq):Option ((List UInt8)):=
 (Ct a0).bind fun r1=>
 (if !r1 then
  some ([]:List UInt8)
 else
  (I2 a0.B_).bind fun r3=>
  jn (fun(v:(List (List UInt8)))=>OR a0 v) (fun jJ5=>
  (if(r3 != ([]:List UInt8)) then
   (app 16 ([]:List (List UInt8)) ([r3]:List (List UInt8))).bind fun awW=>
   jJ5 awW
  else
   jJ5 ([]:List (List UInt8)))))
def PY:Cj:=mC [Di,R9,QL,Mz,Adp,NB,QQ,gw] 258 Tryz.f258 (.s .n (.s .n (.s (.r [] [([9],0,[1000,9],9)] .n) (.s .n (.s (.r [] [] (.j 4 ⟨[1,3,4],[],[[1]],[([9], .box [.c (.j_ [1000,9])]),([1000,9], .row 9)]⟩ (.s (.r [] [] (.g 0 (.ug [1,3,4]) .n)) .n) .n)) (.s (.r [] [] (.j 5 ⟨[1,3,4],[],[[1]],[([9], .box [.c (.j_ [1000,9])]),([1000,9], .row 9)]⟩ (.s (.r [] [] (.g 0 (.ug [1,3,4]) .n)) .n) .n)) (.s (.r [] [] (.j 5 ⟨[1,3,4],[],[[1]],[([9], .box [.c (.j_ [1000,9])]),([1000,9], .row 9)]⟩ (.s (.r [] [] (.g 0 (.ug [1,3,4]) .n)) .n) .n)) (.s (.r [] [] (.j 3 ⟨[1,3,4],[],[[1]],[([9], .box [.c (.j_ [1000,9])]),([1000,9], .row 9)]⟩ (.s (.r [] [] (.g 0 (.ug [1,3,4]) .n)) (.l ⟨[0,2,3,11,12],[BS 13],[[1]],[([9], .box [.c (.j_ [1000,9])]),([1000,9], .row 9)]⟩ [(1,⟨[],[],[[1]],[([9], .box [.c (.j_ [1000,9])]),([1000,9], .row 9)]⟩)] (.s .n (.s .n (.s (.s .n (.r [] [] (.c 4 (.s (.r [] [] (.g 0 (.ug [0,2,3,11,12,13,17,18,21]) .n)) .n) (.j 6 ⟨[0,2,3,11,12,13],[],[[1]],[([9], .box [.c (.j_ [1000,9])]),([1000,9], .row 9)]⟩ (.s (.r [] [] (.g 0 (.ug [0,2,3,11,12,13]) .n)) .n) .n)))) .n))))) .n)) (.s (.r [] [] (.j 3 ⟨[1,3,4],[],[[1]],[([9], .box [.c (.j_ [1000,9])]),([1000,9], .row 9)]⟩ (.s (.r [] [] (.g 0 (.ug [1,3,4]) .n)) (.l ⟨[0,2,3,11,12],[BS 13],[[1]],[([9], .box [.c (.j_ [1000,9])]),([1000,9], .row 9)]⟩ [(1,⟨[],[],[[1]],[([9], .box [.c (.j_ [1000,9])]),([1000,9], .row 9)]⟩)] (.s .n (.s .n (.s (.s .n (.r [] [] (.c 4 (.s (.r [] [] (.g 0 (.ug [0,2,3,11,12,13,17,18,21]) .n)) .n) (.j 6 ⟨[0,2,3,11,12,13],[],[[1]],[([9], .box [.c (.j_ [1000,9])]),([1000,9], .row 9)]⟩ (.s (.r [] [] (.g 0 (.ug [0,2,3,11,12,13]) .n)) .n) .n)))) .n))))) .n)) (.s (.r [] [] (.j 3 ⟨[1,3,4],[],[[1]],[([9], .box [.c (.j_ [1000,9])]),([1000,9], .row 9)]⟩ (.s (.r [] [] (.g 0 (.ug [1,3,4]) .n)) (.l ⟨[0,2,3,11,12],[BS 13],[[1]],[([9], .box [.c (.j_ [1000,9])]),([1000,9], .row 9)]⟩ [(1,⟨[],[],[[1]],[([9], .box [.c (.j_ [1000,9])]),([1000,9], .row 9)]⟩)] (.s .n (.s .n (.s (.s .n (.r [] [] (.j 4 ⟨[0,2,3,11,12,13,17,18],[sq 21],[[1],[9],[1000,9]],[]⟩ (.s (.r [] [] (.g 0 (.ug [0,2,3,11,12,13,17,18,21]) .n)) (.s .n (.s (.r [] [] (.q 1 .ga (.q 2 .gl .n))) .n))) (.j 6 ⟨[0,2,3,11,12,13],[],[[1]],[([9], .box [.c (.j_ [1000,9])]),([1000,9], .row 9)]⟩ (.s (.r [] [] (.g 0 (.ug [0,2,3,11,12,13]) .n)) .n) .n)))) .n))))) .n)) (.s (.r [] [] (.j 3 ⟨[1,3,4],[],[[1]],[([9], .box [.c (.j_ [1000,9])]),([1000,9], .row 9)]⟩ (.s (.r [] [] (.g 0 (.ug [1,3,4]) .n)) (.l ⟨[0,2,3,11,12],[BS 13],[[1]],[([9], .box [.c (.j_ [1000,9])]),([1000,9], .row 9)]⟩ [(1,⟨[],[],[[1]],[([9], .box [.c (.j_ [1000,9])]),([1000,9], .row 9)]⟩)] (.s .n (.s .n (.s (.s .n (.r [] [] (.j 4 ⟨[0,2,3,11,12,13,17,18],[sq 21],[[1],[9],[1000,9]],[]⟩ (.s (.r [] [] (.g 0 (.ug [0,2,3,11,12,13,17,18,21]) .n)) (.s .n (.s (.r [] [] (.q 1 .ga (.q 2 .gl .n))) .n))) (.j 6 ⟨[0,2,3,11,12,13],[],[[1]],[([9], .box [.c (.j_ [1000,9])]),([1000,9], .row 9)]⟩ (.s (.r [] [] (.g 0 (.ug [0,2,3,11,12,13]) .n)) .n) .n)))) .n))))) .n)) (.j ⟨[1,3,4],[],[[1]],[([9], .box [.c (.j_ [1000,9])]),([1000,9], .row 9)]⟩ (.s .n (.i (.r [] [] (.j 4 ⟨[1,3,4],[],[[1]],[([9], .box [.c (.j_ [1000,9])]),([1000,9], .row 9)]⟩ (.s (.r [] [] (.g 0 (.ug [1,3,4]) .n)) .n) .n)) .n)) (.s (.r [] [] (.j 3 ⟨[1,3,4],[],[[1]],[([9], .box [.c (.j_ [1000,9])]),([1000,9], .row 9)]⟩ (.s (.r [] [] (.g 0 (.ug [1,3,4]) .n)) (.l ⟨[0,2,3,11,12],[BS 13],[[1]],[([9], .box [.c (.j_ [1000,9])]),([1000,9], .row 9)]⟩ [(1,⟨[],[],[[1]],[([9], .box [.c (.j_ [1000,9])]),([1000,9], .row 9)]⟩)] (.s .n (.s .n (.s (.s .n (.r [] [] (.j 4 ⟨[0,2,3,11,12,13,17,18],[sq 21],[[1],[9],[1000,9]],[]⟩ (.s (.r [] [] (.g 0 (.ug [0,2,3,11,12,13,17,18,21]) .n)) (.s .n (.s .n (.s (.s .n (.j ⟨[],[sq 3],[[1],[9],[1000,9]],[]⟩ (.s (.s (.s (.s (.s (.s (.s (.s (.j ⟨[],[sq 3],[[1],[9],[1000,9]],[]⟩ .n .n) .n) .n) .n) .n) .n) .n) .n) .n) .n)) .n)))) (.j 6 ⟨[0,2,3,11,12,13],[],[[1]],[([9], .box [.c (.j_ [1000,9])]),([1000,9], .row 9)]⟩ (.s (.r [] [] (.g 0 (.ug [0,2,3,11,12,13]) .n)) .n) .n)))) .n))))) .n)) (.s (.r [] [] (.j 5 ⟨[1,3,4],[],[[1]],[([9], .box [.c (.j_ [1000,9])]),([1000,9], .row 9)]⟩ (.s (.r [] [] (.g 0 (.ug [1,3,4]) .n)) .n) .n)) (.s (.r [] [] (.j 4 ⟨[1,3,4],[],[[1]],[([9], .box [.c (.j_ [1000,9])]),([1000,9], .row 9)]⟩ (.s (.r [] [] (.g 0 (.ug [1,3,4]) .n)) .n) .n)) (.s (.r [] [] (.j 4 ⟨[1,3,4],[],[[1]],[([9], .box [.c (.j_ [1000,9])]),([1000,9], .row 9)]⟩ (.s (.r [] [] (.g 0 (.ug [1,3,4]) .n)) .n) .n)) (.s (.r [] [] (.j 4 ⟨[3],[],[],[([9], .box [.c (.j_ [1000,9])]),([1000,9], .row 9)]⟩ (.s (.r [] [] (.g 0 (.ug [3]) .n)) .n) .n)) .n))))))))))))))))) [.s 110] [.k (.str)] (fun x=>IL x.1) Tryz.func258 (by kernel_rfl)
def KJ (a0:Ay) (an5:Bool):Option (Bool):=
 (if an5 then
  (some (if decide (1<=a0.N) then decide (a0.N<=99)else false)).bind fun b13=>
  some b13
 else if a0.Do==7 then
  (some (if decide (1<=a0.N) then decide (a0.N<=99)else false)).bind fun b15=>
  (gd (b15==true) (Fg a0.Tl)).bind fun r16=>
  (some (if b15 then r16 != ([]:List UInt8)else false)).bind fun b17=>
  some b17
 else if a0.Do==5 then
  (some (if a0.B_==1 then true else a0.B_==2)).bind fun b19=>
  (some (if b19 then true else a0.B_==4)).bind fun b20=>
  some b20
 else
  some true)
def HU (a0:Ay):Option (Bool):=
 (Jr a0.On a0.Do).bind fun r1=>
 (gd ((!r1)==false) (GX a0)).bind fun r2=>
 (some (if !r1 then true else !(a0==r2))).bind fun b3=>
 (some (if b3 then true else decide (a0.Who<0))).bind fun b4=>
 (some (if b4 then true else decide (2<a0.Who))).bind fun b5=>
 (if b5 then
  some false
 else
  (Ct a0.Filter).bind fun r7=>
  (some (if !r7 then true else a0.Filter.B_ != 0)).bind fun b8=>
  (if b8 then
   some false
  else
   jn (fun(v:Bool)=>KJ a0 v) (fun aa9=>
   (if a0.Do==2 then
    aa9 (a0.Do==2)
   else
    aa9 (a0.Do==4)))))
def gV:Cj:=mC [Y1,T9,Di,KE] 206 Tryz.f206 (.s .n (.s .n (.s .n (.s (.s .n (.j ⟨[1,36],[JL 37],[[1]],[]⟩ .n .n)) .n)))) [.s 119] [.k (.bool)] (fun x=>HU x.1) Tryz.func206 (by kernel_rfl)
def Up (a0:Mm) (a1:Int) (aeD:Bool) (ahR:Bool):Option (Bool):=
 (some (if decide (a0.N<1) then true else decide ((if 4<a1 then(4:Int)else a1)<a0.N))).bind fun b4=>
 (some (if aeD then b4 else false)).bind fun b5=>
 (some (if !aeD then a0.N != 0 else false)).bind fun b6=>
 (if(if b5=true then true else b6) then
  some false
 else if ahR then
  (Ct a0.Filter).bind fun r9=>
  some r9
 else
  some (a0.Filter==(⟨0,0,0,0,0,0,0,[],0,0,(⟨0,0⟩:Aj),(⟨0,0⟩:Aj),(⟨0,0⟩:Aj)⟩:Aq)))
def Zg (jJ3:(Bool×Bool)->Option (Bool)):Option (Bool):=
 jJ3 (true,false)
def Zh (a0:Mm) (jJ3:(Bool×Bool)->Option (Bool)) (ahc:(Unit)->Option (Bool)) (ap6:Bool):Option (Bool):=
 (if ap6 then
  jJ3 (false,false)
 else if a0.Kind==3 then
  ahc ()
 else if a0.Kind==8 then
  ahc ()
 else if a0.Kind==4 then
  jJ3 (false,true)
 else
  some false)
def Uq (a0:Mm) (a1:Int):Option (Bool):=
 jn (fun(v:Bool×Bool)=>Up a0 a1 v.1 v.2) (fun jJ3=>
 jn (fun(v:Unit)=>Zg jJ3) (fun ahc=>
 jn (fun(v:Bool)=>Zh a0 jJ3 ahc v) (fun ahb=>
 (if a0.Kind==1 then
  ahb (a0.Kind==1)
 else if a0.Kind==2 then
  ahb (a0.Kind==2)
 else if a0.Kind==5 then
  ahb (a0.Kind==5)
 else if a0.Kind==6 then
  ahb (a0.Kind==6)
 else
  ahb (a0.Kind==7)))))
def ww:Cj:=mC [Di] 289 Tryz.f289 (.s .n (.s .n (.j ⟨[1,2],[JL 5,JL 6],[[2]],[]⟩ (.s .n (.s (.s (.j ⟨[1,2,6],[],[[2]],[]⟩ (.s (.s (.s (.j ⟨[1,2,5,6,8],[JL 9],[[2]],[]⟩ .n .n) .n) .n) .n) .n) .n) .n)) .n))) [.s 176, .k (.int .i64)] [.k (.bool)] (fun x=>Uq x.1 x.2.1) Tryz.func289 (by kernel_rfl)
def HV (a0:BC):Option (Bool):=
 (some (if decide (a0.Kind<0) then true else decide (7<a0.Kind))).bind fun b1=>
 (gd (b1==false) (OL a0)).bind fun r2=>
 (some (if b1 then true else !(r2==(⟨0,0,0,(⟨0,0,0,0,0,0,0,[],0,0,(⟨0,0⟩:Aj),(⟨0,0⟩:Aj),(⟨0,0⟩:Aj)⟩:Aq)⟩:BC)))).bind fun b3=>
 (if b3 then
  some false
 else if a0.Kind==0 then
  (some (if decide (0<=a0.N) then decide (a0.N<=1000000)else false)).bind fun b6=>
  some b6
 else if a0.Kind==2 then
  (some (if decide (1<=a0.N) then decide (a0.N<=99)else false)).bind fun b8=>
  (gd (b8==true) (Ct a0.Filter)).bind fun r9=>
  (some (if b8 then r9 else false)).bind fun b10=>
  some b10
 else if a0.Kind==4 then
  (Fg a0.Tl).bind fun r12=>
  some (r12 != ([]:List UInt8))
 else
  some true)
def lr:Cj:=mC [aw,Di,KE] 290 Tryz.f290 .n [.s 178] [.k (.bool)] (fun x=>HV x.1) Tryz.func290 (by kernel_rfl)
def LS (a0:BB) (r3:Bool×Bool) (alD:Int):Option (Bool):=
 (if r3.2 then
  (Ct a0.Filter).bind fun r11=>
  (some (if r11 then a0.Filter.B_==alD else false)).bind fun b12=>
  some b12
 else
  some (a0.Filter==(⟨0,0,0,0,0,0,0,[],0,0,(⟨0,0⟩:Aj),(⟨0,0⟩:Aj),(⟨0,0⟩:Aj)⟩:Aq)))
def HW (a0:BB):Option (Bool):=
 (some (if decide (a0.akY<1) then true else decide (14<a0.akY))).bind fun b1=>
 (if b1 then
  some false
 else
  (Js a0.akY).bind fun r3=>
  (some (if !r3.1 then a0.Who != 0 else false)).bind fun b4=>
  (gd (b4==false) (FT a0.Who)).bind fun r5=>
  (some (if b4 then true else r5==([]:List UInt8))).bind fun b6=>
  (if b6 then
   some false
  else
   jn (fun(v:Int)=>LS a0 r3 v) (fun jJ9=>
   (if a0.akY==9 then
    jJ9 (5:Int)
   else
    jJ9 (0:Int)))))
def gW:Cj:=mC [Y2,Se,Di] 210 Tryz.f210 (.s .n (.s .n (.s .n (.s .n (.s .n (.j ⟨[1,4],[BS 5],[[1]],[]⟩ .n .n)))))) [.s 115] [.k (.bool)] (fun x=>HW x.1) Tryz.func210 (by kernel_rfl)
def Zi (aqq:List (Int)):Option ((List (Int))):=
 some aqq
def IM (a0:Aa):Option ((List (Int))):=
 (Ss a0 a0.aaj).bind fun r1=>
 jn (fun(v:(List (Int)))=>Zi v) (fun jJ3=>
 (Nc a0).bind fun r4=>
 (DD r4 a0.aaj).bind fun r5=>
 (if r5 then
  (app 8 ([a0.aaj]:List (Int)) r1).bind fun l7=>
  jJ3 l7
 else
  jJ3 r1))
def PZ:Cj:=mC [Ze,OM,Fu] 35 Tryz.f35 (.s .n (.s .n (.j ⟨[],[(3, .c (.v (.k (.t_ 3))))],[],[]⟩ (.s (.r [] [] (.t (.q 0 .lz .n))) .n) .n))) [.s 36] [.k (.t_ 3)] (fun x=>IM x.1) Tryz.func35 (by kernel_rfl)
def LT (r2:Aa) (Y_:Int) (Ta:Int) (Z_:Int) (Tk:Bool) (D_:Int) (S_:Int) (J_:Int) (x_:Int) (aaa:Int) (aab:Int) (R_:Int) (aaI:List (A7)) (r62:Ag) (l73:List (Ag)) (aks:Int) (aeV:List (Ar)):Option (Aa×Int):=
 some ((⟨aeV,l73,r2.AT,r2.acv,aaI,r2.aar,r2.ack,Y_,Ta,Z_,Tk,D_,S_,Ac (J_+1),Ac (x_+1),aaa,r2.Extra,aab,R_⟩:Aa),r62.Id)
def Ii (a2:Int) (a4:Bool) (r2:Aa) (r_:List (Ag)) (f_:Int) (c_:List (Ar)) (Y_:Int) (Ta:Int) (Z_:Int) (Tk:Bool) (D_:Int) (S_:Int) (J_:Int) (x_:Int) (aaa:Int) (aab:Int) (R_:Int) (aaI:List (A7)) (r62:Ag) (ahd:Int):Option (Aa×Int):=
 (n_ (0<=ahd/\ahd<=((r_.length:Nat):Int)/\((r_.length:Nat):Int)<=((r_.length:Nat):Int)/\((r_.length:Nat):Int)<=((r_.length:Nat):Int))).bind fun u70=>
 (if((([r62]:List (Ag)).length :Int)==0) then
  none
 else if(ahd==(r_.length:Int)) then
  (app 128 r_ ([r62]:List (Ag))).bind fun l73=>
  jn (fun(v:Int×(List (Ar)))=>LT r2 Y_ Ta Z_ Tk D_ S_ J_ x_ aaa aab R_ aaI r62 l73 v.1 v.2) (fun alS=>
  (if a2==0 then
   none
  else if a2==4 then
   none
  else
   (some (if decide (r62.m_<0) then true else decide ((c_.length:Int)<=r62.m_))).bind fun b79=>
   (if b79 then
    none
   else
    (idx c_ r62.m_).bind fun e81=>
    (if a2==1 then
     (if true then
      (some (if a2==2 then !a4 else false)).bind fun b84=>
      (if b84 then
       (idx c_ r62.m_).bind fun e86=>
       (n_ (r62.m_<f_)).bind fun u87=>
       (n_ (0<=(0:Int)/\(0:Int)<=((e86.Hand.length:Nat):Int)/\0<([r62.Id]:List (Int)).length /\(e86.Hand.length+([r62.Id]:List (Int)).length)*8<=140737488355328)).bind fun u88=>
       (idx c_ r62.m_).bind fun e89=>
       (n_ (r62.m_<f_)).bind fun u90=>
       (n_ (r62.m_=r62.m_)).bind fun u91=>
       (some (c_.set (r62.m_).toNat ({e89 with Hand:=(e86.Hand.take (0:Int).toNat ++(([r62.Id]:List (Int))++e86.Hand.drop (0:Int).toNat))}))).bind fun l92=>
       alS (f_,l92)
      else
       (idx c_ r62.m_).bind fun e93=>
       (n_ (r62.m_<f_)).bind fun u94=>
       (app 8 e93.Hand ([r62.Id]:List (Int))).bind fun l95=>
       (idx c_ r62.m_).bind fun e96=>
       (n_ (r62.m_<f_)).bind fun u97=>
       (n_ (r62.m_=r62.m_)).bind fun u98=>
       (some (c_.set (r62.m_).toNat ({e96 with Hand:=l95}))).bind fun l99=>
       alS (f_,l99))
     else
      alS (f_,c_))
    else if a2==2 then
     (if true then
      (some (if a2==2 then !a4 else false)).bind fun azs=>
      (if azs then
       (idx c_ r62.m_).bind fun aoV=>
       (n_ (r62.m_<f_)).bind fun aDo=>
       (n_ (0<=(0:Int)/\(0:Int)<=((aoV.q_.length:Nat):Int)/\0<([r62.Id]:List (Int)).length /\(aoV.q_.length+([r62.Id]:List (Int)).length)*8<=140737488355328)).bind fun aDn=>
       (idx c_ r62.m_).bind fun ayN=>
       (n_ (r62.m_<f_)).bind fun aDm=>
       (n_ (r62.m_=r62.m_)).bind fun aDl=>
       (some (c_.set (r62.m_).toNat ({ayN with q_:=(aoV.q_.take (0:Int).toNat ++(([r62.Id]:List (Int))++aoV.q_.drop (0:Int).toNat))}))).bind fun aw7=>
       alS (f_,aw7)
      else
       (idx c_ r62.m_).bind fun arb=>
       (n_ (r62.m_<f_)).bind fun aDk=>
       (app 8 arb.q_ ([r62.Id]:List (Int))).bind fun aw5=>
       (idx c_ r62.m_).bind fun ayM=>
       (n_ (r62.m_<f_)).bind fun avV=>
       (n_ (r62.m_=r62.m_)).bind fun avU=>
       (some (c_.set (r62.m_).toNat ({ayM with q_:=aw5}))).bind fun aw4=>
       alS (f_,aw4))
     else
      alS (f_,c_))
    else if a2==3 then
     none
    else
     none))))
 else
  none)
def aX (a2:Int) (a4:Bool) (r2:Aa) (r_:List (Ag)) (f_:Int) (c_:List (Ar)) (Y_:Int) (Ta:Int) (Z_:Int) (Tk:Bool) (D_:Int) (S_:Int) (J_:Int) (x_:Int) (aaa:Int) (aab:Int) (R_:Int) (aaI:List (A7)) (r62:Ag) (ak0:Int):Option (Aa×Int):=
 jn (fun(v:Int)=>Ii a2 a4 r2 r_ f_ c_ Y_ Ta Z_ Tk D_ S_ J_ x_ aaa aab R_ aaI r62 v) (fun amR=>
 (if decide (ak0<0) then
  amR (r_.length:Int)
 else
  amR ak0))
def Zj (akC:(Int)->Option (Aa×Int)):Option (Aa×Int):=
 akC (-1:Int)
def Hb (r_:List (Ag)) (r62:Ag) (aa3:Int):Option ((Int)⊕(Unit⊕Int)):=
 (if(decide (aa3<(r_.length:Int))) then
  (idx r_ aa3).bind fun akJ=>
  (idx r_ aa3).bind fun ayL=>
  (if decide (r62.Id<ayL.Id) then
   some (.inr (.inr aa3))
  else
   some (.inl (Ac (aa3+1))))
 else
  some (.inr (.inl ())))
def P0 (a2:Int) (a4:Bool) (r2:Aa) (r_:List (Ag)) (f_:Int) (c_:List (Ar)) (Y_:Int) (Ta:Int) (Z_:Int) (Tk:Bool) (D_:Int) (S_:Int) (J_:Int) (x_:Int) (aaa:Int) (aab:Int) (R_:Int) (aaI:List (A7)) (r62:Ag) (ahT:Int):Option (Aa×Int):=
 (if decide (0<=ahT) then
  none
 else
  jn (fun(v:Int)=>aX a2 a4 r2 r_ f_ c_ Y_ Ta Z_ Tk D_ S_ J_ x_ aaa aab R_ aaI r62 v) (fun akC=>
  jn (fun(v:Unit)=>Zj akC) (fun as7=>
  (iter (fun(v:Int)=>Hb r_ r62 v) FU (0:Int)).bind (Sum.elim (fun o0=>as7 ()) (fun o1=>akC o1)))))
def OS (aor:(Int)->Option (Aa×Int)):Option (Aa×Int):=
 aor (-1:Int)
def Hc (r_:List (Ag)) (r62:Ag) (aa2:Int):Option ((Int)⊕(Unit⊕Int)):=
 (if(decide (aa2<(r_.length:Int))) then
  (idx r_ aa2).bind fun aGa=>
  (idx r_ aa2).bind fun ayK=>
  (if ayK.Id==r62.Id then
   some (.inr (.inr aa2))
  else
   some (.inl (Ac (aa2+1))))
 else
  some (.inr (.inl ())))
def Ij (a2:Int) (a3:Int) (a4:Bool) (r1:Ag×Bool) (r2:Aa) (r_:List (Ag)) (f_:Int) (c_:List (Ar)) (Y_:Int) (Ta:Int) (Z_:Int) (Tk:Bool) (D_:Int) (S_:Int) (J_:Int) (x_:Int) (aaa:Int) (aab:Int) (R_:Int) (aaI:List (A7)) (ar8:Int) (apZ:Int) (ar9:Int) (arh:Bool) (anR:Int) (apX:Int) (apY:Int) (anr:Int) (ar_:Int) (asa:Int) (apW:Int):Option (Aa×Int):=
 (some (if r1.1.Token then a2 != 0 else false)).bind fun b59=>
 (some (if b59 then a2 != 5 else false)).bind fun b60=>
 (if b60 then
  none
 else
  (Jw r1.1 J_ a2 a3 x_).bind fun r62=>
  jn (fun(v:Int)=>P0 a2 a4 r2 r_ f_ c_ Y_ Ta Z_ Tk D_ S_ J_ x_ aaa aab R_ aaI r62 v) (fun aor=>
  jn (fun(v:Unit)=>OS aor) (fun as6=>
  (iter (fun(v:Int)=>Hc r_ r62 v) FU (0:Int)).bind (Sum.elim (fun o0=>as6 ()) (fun o1=>aor o1)))))
def Zk (aaH:Int) (T_:Int) (aao:Int) (aad:Bool) (O_:Int) (Tw:Int) (Tz:Int) (F_:Int) (aap:Int) (aaq:Int) (Tv:Int) (abt:Int) (aaG:Int) (abu:Int) (aa4:Bool) (aac:Int) (aaE:Int) (aaF:Int) (Tu:Int) (abv:Int) (abw:Int) (aaD:Int) (alT:(Int×Int×Int×Bool×Int×Int×Int×Int×Int×Int×Int×(List (A7))×Int×Int×Int×Bool×Int×Int×Int×Int×Int×Int×Int)->Option (Aa×Int)) (aaM:Int) (Tq:List (A7)):Option (Aa×Int):=
 (n_ (0<=aaM/\aaM<=((Tq.length:Nat):Int)/\((Tq.length:Nat):Int)<=((Tq.length:Nat):Int)/\0<Tq.length)).bind fun aDg=>
 (n_ (aaM+(((Tq.length:Nat):Int) - aaM)<=((Tq.length:Nat):Int)/\0<Tq.length)).bind fun aDf=>
 (some (Tq.take aaM.toNat++(List.replicate (((Tq.length:Nat):Int) - aaM).toNat (⟨0,0,0,0,0,false,(⟨0,(⟨0,0,0,0,0,0,0,[],0,0,(⟨0,0⟩:Aj),(⟨0,0⟩:Aj),(⟨0,0⟩:Aj)⟩:Aq),([]:List (B4)),(⟨(⟨0,0,(⟨0,0,0,0,0⟩:A5 (Int))⟩:AG),false,false,0⟩:CB),false,(⟨0,0,(⟨0,0,0,0,0,0,0,[],0,0,(⟨0,0⟩:Aj),(⟨0,0⟩:Aj),(⟨0,0⟩:Aj)⟩:Aq)⟩:BB),false,([]:List (Ft)),([]:List (AA)),(⟨0,0,(⟨0,0,0,0,0,0,0,[],0,0,(⟨0,0⟩:Aj),(⟨0,0⟩:Aj),(⟨0,0⟩:Aj)⟩:Aq),0,0,0,0⟩:Ay)⟩:AL),([]:List (Fd)),(⟨0,0,0,0,0,0,0,0,0,0,false,false,(⟨0,0,0⟩:A3 (Int))⟩:fR)⟩:A7)++Tq.drop (aaM.toNat+(((Tq.length:Nat):Int) - aaM).toNat)))).bind fun amN=>
 (n_ (0<=(0:Int)/\0<=aaM/\aaM<=((amN.length:Nat):Int)/\0<amN.length)).bind fun aDe=>
 (n_ ((0:Int)=0/\(aaM - 0)<=((amN.length:Nat):Int)/\0<amN.length)).bind fun avT=>
 alT (aaH,T_,aao,aad,O_,Tw,Tz,F_,aap,aaq,Tv,(amN.take (aaM - 0).toNat),abt,aaG,abu,aa4,aac,aaE,aaF,Tu,abv,abw,aaD)
def Zl (acB:Int) (amC:Int) (ajk:List (A7)):Option ((Int×Int×(List (A7)))⊕((Int×(List (A7))))):=
 some (.inl (amC,(Ac (acB+1)),ajk))
def Zm (r1:Ag×Bool) (adb:Int) (acB:Int) (aaC:List (A7)):Option ((Int×Int×(List (A7)))⊕((Int×(List (A7))))):=
 (if(decide (acB<(aaC.length:Int))) then
  jn (fun(v:Int×(List (A7)))=>Zl acB v.1 v.2) (fun aph=>
  (idx aaC acB).bind fun ara=>
  (idx aaC acB).bind fun aq_=>
  (some (if aq_.Id==r1.1.Id then aq_.Kind==1 else false)).bind fun azm=>
  (if !azm then
   (idx aaC adb).bind fun aF9=>
   (idx aaC adb).bind fun aue=>
   (some (aaC.set (adb).toNat aq_)).bind fun aw1=>
   aph ((Ac (adb+1)),aw1)
  else
   aph (adb,aaC)))
 else
  some (.inr (adb,aaC)))
def Zn (r1:Ag×Bool) (r2:Aa) (aaH:Int) (T_:Int) (aao:Int) (aad:Bool) (O_:Int) (Tw:Int) (Tz:Int) (F_:Int) (aap:Int) (aaq:Int) (Tv:Int) (abt:Int) (aaG:Int) (abu:Int) (aa4:Bool) (aac:Int) (aaE:Int) (aaF:Int) (Tu:Int) (abv:Int) (abw:Int) (aaD:Int) (alT:(Int×Int×Int×Bool×Int×Int×Int×Int×Int×Int×Int×(List (A7))×Int×Int×Int×Bool×Int×Int×Int×Int×Int×Int×Int)->Option (Aa×Int)) (agV:Int):Option (Aa×Int):=
 (if(agV==(-1:Int)) then
  alT (aaH,T_,aao,aad,O_,Tw,Tz,F_,aap,aaq,Tv,r2.Stack,abt,aaG,abu,aa4,aac,aaE,aaF,Tu,abv,abw,aaD)
 else
  jn (fun(v:Int×(List (A7)))=>Zk aaH T_ aao aad O_ Tw Tz F_ aap aaq Tv abt aaG abu aa4 aac aaE aaF Tu abv abw aaD alT v.1 v.2) (fun as4=>
  (iter (fun(v:Int×Int×(List (A7)))=>Zm r1 v.1 v.2.1 v.2.2) FU (agV,(Ac (agV+1)),r2.Stack)).bind (fun o0=>as4 (o0.1,o0.2))))
def Zo (alb:(Int)->Option (Aa×Int)):Option (Aa×Int):=
 alb (-1:Int)
def Hd (r1:Ag×Bool) (r2:Aa) (aa1:Int):Option ((Int)⊕(Unit⊕Int)):=
 (if(decide (aa1<(r2.Stack.length:Int))) then
  (idx r2.Stack aa1).bind fun aF7=>
  (idx r2.Stack aa1).bind fun aoU=>
  (some (if aoU.Id==r1.1.Id then aoU.Kind==1 else false)).bind fun azl=>
  (if azl then
   some (.inr (.inr aa1))
  else
   some (.inl (Ac (aa1+1))))
 else
  some (.inr (.inl ())))
def LU (a2:Int) (a3:Int) (a4:Bool) (r1:Ag×Bool) (r2:Aa) (r_:List (Ag)) (aaH:Int) (T_:Int) (aao:Int) (aad:Bool) (O_:Int) (Tw:Int) (Tz:Int) (F_:Int) (aap:Int) (aaq:Int) (Tv:Int) (abt:Int) (aaG:Int) (abu:Int) (aa4:Bool) (aac:Int) (aaE:Int) (aaF:Int) (Tu:Int) (abv:Int) (abw:Int) (aaD:Int) (f_:Int) (c_:List (Ar)):Option (Aa×Int):=
 jn (fun(v:Int×Int×Int×Bool×Int×Int×Int×Int×Int×Int×Int×(List (A7))×Int×Int×Int×Bool×Int×Int×Int×Int×Int×Int×Int)=>Ij a2 a3 a4 r1 r2 r_ f_ c_ v.1 v.2.1 v.2.2.1 v.2.2.2.1 v.2.2.2.2.1 v.2.2.2.2.2.1 v.2.2.2.2.2.2.1 v.2.2.2.2.2.2.2.1 v.2.2.2.2.2.2.2.2.1 v.2.2.2.2.2.2.2.2.2.1 v.2.2.2.2.2.2.2.2.2.2.1 v.2.2.2.2.2.2.2.2.2.2.2.1 v.2.2.2.2.2.2.2.2.2.2.2.2.1 v.2.2.2.2.2.2.2.2.2.2.2.2.2.1 v.2.2.2.2.2.2.2.2.2.2.2.2.2.2.1 v.2.2.2.2.2.2.2.2.2.2.2.2.2.2.2.1 v.2.2.2.2.2.2.2.2.2.2.2.2.2.2.2.2.1 v.2.2.2.2.2.2.2.2.2.2.2.2.2.2.2.2.2.1 v.2.2.2.2.2.2.2.2.2.2.2.2.2.2.2.2.2.2.1 v.2.2.2.2.2.2.2.2.2.2.2.2.2.2.2.2.2.2.2.1 v.2.2.2.2.2.2.2.2.2.2.2.2.2.2.2.2.2.2.2.2.1 v.2.2.2.2.2.2.2.2.2.2.2.2.2.2.2.2.2.2.2.2.2.1 v.2.2.2.2.2.2.2.2.2.2.2.2.2.2.2.2.2.2.2.2.2.2) (fun alT=>
 jn (fun(v:Int)=>Zn r1 r2 aaH T_ aao aad O_ Tw Tz F_ aap aaq Tv abt aaG abu aa4 aac aaE aaF Tu abv abw aaD alT v) (fun alb=>
 jn (fun(v:Unit)=>Zo alb) (fun as3=>
 (iter (fun(v:Int)=>Hd r1 r2 v) FU (0:Int)).bind (Sum.elim (fun o0=>as3 ()) (fun o1=>alb o1)))))
def Ik (a2:Int) (a3:Int) (a4:Bool) (r1:Ag×Bool) (r2:Aa) (r_:List (Ag)) (aaH:Int) (T_:Int) (aao:Int) (aad:Bool) (O_:Int) (Tw:Int) (Tz:Int) (F_:Int) (aap:Int) (aaq:Int) (Tv:Int) (abt:Int) (aaG:Int) (abu:Int) (aa4:Bool) (aac:Int) (aaE:Int) (aaF:Int) (Tu:Int) (abv:Int) (abw:Int) (aaD:Int):Option (Aa×Int):=
 jn (fun(v:Int×(List (Ar)))=>LU a2 a3 a4 r1 r2 r_ aaH T_ aao aad O_ Tw Tz F_ aap aaq Tv abt aaG abu aa4 aac aaE aaF Tu abv abw aaD v.1 v.2) (fun aot=>
 (if r1.1.B_==0 then
  none
 else if r1.1.B_==4 then
  none
 else
  (some (if decide (r1.1.m_<0) then true else decide ((r2.bk.length:Int)<=r1.1.m_))).bind fun azk=>
  (if azk then
   none
  else
   (idx r2.bk r1.1.m_).bind fun ayH=>
   (if r1.1.B_==1 then
    (if true then
     (idx r2.bk r1.1.m_).bind fun ayF=>
     (n_ (r1.1.m_<((r2.bk.length:Nat):Int))).bind fun aC9=>
     (Cw ayF.Hand r1.1.Id).bind fun awh=>
     (idx r2.bk r1.1.m_).bind fun ayE=>
     (n_ (r1.1.m_<((r2.bk.length:Nat):Int))).bind fun aC8=>
     (n_ (r1.1.m_=r1.1.m_)).bind fun aC7=>
     (some (r2.bk.set (r1.1.m_).toNat ({ayE with Hand:=awh}))).bind fun awR=>
     aot (((r2.bk.length:Nat):Int),awR)
    else
     aot (((r2.bk.length:Nat):Int),r2.bk))
   else if r1.1.B_==2 then
    (if true then
     (idx r2.bk r1.1.m_).bind fun ayD=>
     (n_ (r1.1.m_<((r2.bk.length:Nat):Int))).bind fun aC6=>
     (Cw ayD.q_ r1.1.Id).bind fun awg=>
     (idx r2.bk r1.1.m_).bind fun ayC=>
     (n_ (r1.1.m_<((r2.bk.length:Nat):Int))).bind fun aC4=>
     (n_ (r1.1.m_=r1.1.m_)).bind fun aC3=>
     (some (r2.bk.set (r1.1.m_).toNat ({ayC with q_:=awg}))).bind fun awQ=>
     aot (((r2.bk.length:Nat):Int),awQ)
    else
     aot (((r2.bk.length:Nat):Int),r2.bk))
   else if r1.1.B_==3 then
    none
   else
    none))))
def Nq (a2:Int) (a3:Int) (a4:Bool) (r1:Ag×Bool) (r2:Aa) (d_:Int):Option (Aa×Int):=
 jn (fun(v:(List (Ag))×Int×Int×Int×Bool×Int×Int×Int×Int×Int×Int×Int×Int×Int×Int×Bool×Int×Int×Int×Int×Int×Int×Int)=>Ik a2 a3 a4 r1 r2 v.1 v.2.1 v.2.2.1 v.2.2.2.1 v.2.2.2.2.1 v.2.2.2.2.2.1 v.2.2.2.2.2.2.1 v.2.2.2.2.2.2.2.1 v.2.2.2.2.2.2.2.2.1 v.2.2.2.2.2.2.2.2.2.1 v.2.2.2.2.2.2.2.2.2.2.1 v.2.2.2.2.2.2.2.2.2.2.2.1 v.2.2.2.2.2.2.2.2.2.2.2.2.1 v.2.2.2.2.2.2.2.2.2.2.2.2.2.1 v.2.2.2.2.2.2.2.2.2.2.2.2.2.2.1 v.2.2.2.2.2.2.2.2.2.2.2.2.2.2.2.1 v.2.2.2.2.2.2.2.2.2.2.2.2.2.2.2.2.1 v.2.2.2.2.2.2.2.2.2.2.2.2.2.2.2.2.2.1 v.2.2.2.2.2.2.2.2.2.2.2.2.2.2.2.2.2.2.1 v.2.2.2.2.2.2.2.2.2.2.2.2.2.2.2.2.2.2.2.1 v.2.2.2.2.2.2.2.2.2.2.2.2.2.2.2.2.2.2.2.2.1 v.2.2.2.2.2.2.2.2.2.2.2.2.2.2.2.2.2.2.2.2.2.1 v.2.2.2.2.2.2.2.2.2.2.2.2.2.2.2.2.2.2.2.2.2.2) (fun asY=>
 (n_ (0<=d_/\d_<=(Ac (d_+1))/\(Ac (d_+1))<=(r2.b_.length:Int)/\(r2.b_.length:Int)<=((r2.b_.length:Nat):Int))).bind fun aC2=>
 (if d_==(Ac (d_+1)) then
  asY (r2.b_,r2.aaf,r2.aaj,r2.Step,r2.abI,r2.Priority,r2.Passes,r2.g_,r2.l_,r2.ab2,r2.ac9,r2.aaK,r2.aaf,r2.aaj,r2.Step,r2.abI,r2.Priority,r2.Passes,r2.g_,r2.l_,r2.ab2,r2.ac9,r2.aaK)
 else
  (n_ (0<=(0:Int)/\0<=d_/\d_<=((r2.b_.length:Nat):Int)/\0<r2.b_.length)).bind fun aC1=>
  (n_ (0<=(Ac (d_+1))/\(Ac (d_+1))<=((r2.b_.length:Nat):Int)/\((r2.b_.length:Nat):Int)<=((r2.b_.length:Nat):Int)/\0<r2.b_.length)).bind fun aC0=>
  (n_ ((0:Int)=0/\(d_ - 0)+(((r2.b_.length:Nat):Int) - (Ac (d_+1)))<=((r2.b_.length:Nat):Int)/\(Ac (d_+1))+(((r2.b_.length:Nat):Int) - (Ac (d_+1)))<=((r2.b_.length:Nat):Int)/\0<r2.b_.length)).bind fun aCZ=>
  (some (r2.b_.take (d_ - 0).toNat ++((r2.b_.drop (Ac (d_+1)).toNat).take (((r2.b_.length:Nat):Int) - (Ac (d_+1))).toNat ++r2.b_.drop ((d_ - 0).toNat +(((r2.b_.length:Nat):Int) - (Ac (d_+1))).toNat)))).bind fun alK=>
  (n_ ((0:Int)=0/\0<=((((d_ - 0)+(((r2.b_.length:Nat):Int) - (Ac (d_+1)))).toNat :Nat):Int)/\((((d_ - 0)+(((r2.b_.length:Nat):Int) - (Ac (d_+1)))).toNat :Nat):Int)<=(r2.b_.length:Int)/\(r2.b_.length:Int)<=((alK.length:Nat):Int)/\0<alK.length)).bind fun aCY=>
  (n_ (((((d_ - 0)+(((r2.b_.length:Nat):Int) - (Ac (d_+1)))).toNat :Nat):Int)+((r2.b_.length:Int) - ((((d_ - 0)+(((r2.b_.length:Nat):Int) - (Ac (d_+1)))).toNat :Nat):Int))<=((alK.length:Nat):Int)/\0<alK.length)).bind fun aCX=>
  (some (alK.take ((((d_ - 0)+(((r2.b_.length:Nat):Int) - (Ac (d_+1)))).toNat :Nat):Int).toNat ++(List.replicate ((r2.b_.length:Int) - ((((d_ - 0)+(((r2.b_.length:Nat):Int) - (Ac (d_+1)))).toNat :Nat):Int)).toNat (⟨0,0,0,0,0,false,false,false,false,0,(⟨0,0,0⟩:A3 (Int)),0,0,0,false,0,0⟩:Ag)++alK.drop (((((d_ - 0)+(((r2.b_.length:Nat):Int) - (Ac (d_+1)))).toNat :Nat):Int).toNat +((r2.b_.length:Int) - ((((d_ - 0)+(((r2.b_.length:Nat):Int) - (Ac (d_+1)))).toNat :Nat):Int)).toNat)))).bind fun aqu=>
  (n_ ((0:Int)=0/\((d_ - 0)+(((r2.b_.length:Nat):Int) - (Ac (d_+1))))<=((aqu.length:Nat):Int)/\0<aqu.length)).bind fun aCW=>
  asY ((aqu.take ((d_ - 0)+(((r2.b_.length:Nat):Int) - (Ac (d_+1)))).toNat),r2.aaf,r2.aaj,r2.Step,r2.abI,r2.Priority,r2.Passes,r2.g_,r2.l_,r2.ab2,r2.ac9,r2.aaK,r2.aaf,r2.aaj,r2.Step,r2.abI,r2.Priority,r2.Passes,r2.g_,r2.l_,r2.ab2,r2.ac9,r2.aaK)))
def Zp (jJ7:(Int)->Option (Aa×Int)):Option (Aa×Int):=
 jJ7 (-1:Int)
def EW (r1:Ag×Bool) (r2:Aa) (aa0:Int):Option ((Int)⊕(Unit⊕Int)):=
 (if(decide (aa0<(r2.b_.length:Int))) then
  (idx r2.b_ aa0).bind fun aF4=>
  (idx r2.b_ aa0).bind fun ayA=>
  (if ayA.Id==r1.1.Id then
   some (.inr (.inr aa0))
  else
   some (.inl (Ac (aa0+1))))
 else
  some (.inr (.inl ())))
def Fn (a0:Aa) (a1:Int) (a2:Int) (a3:Int) (a4:Bool):Option (Aa×Int):=
 (Pt a0 a1).bind fun r1=>
 (Eb a0).bind fun r2=>
 (some (if !r1.2 then true else decide (a2<0))).bind fun b3=>
 (some (if b3 then true else decide (5<a2))).bind fun b4=>
 (if b4 then
  none
 else
  jn (fun(v:Int)=>Nq a2 a3 a4 r1 r2 v) (fun jJ7=>
  jn (fun(v:Unit)=>Zp jJ7) (fun as1=>
  (iter (fun(v:Int)=>EW r1 r2 v) FU (0:Int)).bind (Sum.elim (fun o0=>as1 ()) (fun o1=>jJ7 o1)))))
def VB:Cj:=mC [lj,Lt,V1,Y9,Mp] 77 Tryz.f77 (.s .n (.s .n (.s (.r [] [] (.q 1 .co .n)) (.s (.s .n (.i .x .n)) (.s (.r [] [] (.c 2 (.s (.r [] [] (.g 0 (.ug [2,3,4,5,10,12,37]) .n)) (.s (.r [] [] (.c 3 (.s (.r [] [] (.g 0 (.ug [2,3,4,10]) .n)) (.s (.r [] [] (.j 3 ⟨[],[BS 8],[[2,37],[1,0,23],[2,0,23],[3,0,23],[3,37],[4,0,23],[4,37],[5],[5,0,23],[6,0,23],[10],[12],[16,0,23],[1000003,0,0,23]],[]⟩ (.s (.r [] [] (.g 0 (.ug [8]) .n)) (.j ⟨[],[],[[2,37],[1,0,23],[2,0,23],[3,0,23],[3,37],[4,0,23],[4,37],[5],[5,0,23],[6,0,23],[10],[12],[16,0,23],[1000003,0,0,23]],[]⟩ (.s .n (.l ⟨[0,1,7],[BS 8],[[1,0,23],[2,37],[2,0,23],[3,0,23],[3,10,37],[3,37],[4,0,23],[4,37],[5],[5,0,23],[6,0,23],[10],[12],[16,0,23],[1000003,0,0,23]],[]⟩ [(1,⟨[],[],[[2,37],[1,0,23],[2,0,23],[3,0,23],[3,37],[4,0,23],[4,37],[5],[5,0,23],[6,0,23],[10],[12],[16,0,23],[1000003,0,0,23]],[]⟩),(0,⟨[],[BS 4],[[2,37],[1,0,23],[2,0,23],[3,0,23],[3,37],[4,0,23],[4,37],[5],[5,0,23],[6,0,23],[10],[12],[16,0,23],[1000003,0,0,23]],[]⟩)] (.s .n (.s .n (.s (.s .n (.s (.r [] [] (.c 5 (.s (.r [] [] (.g 0 (.ug [0,1,5,7,8,16]) .n)) .n) .n)) .n)) .n))))) .n)) .n)) .n)) .n)) (.s (.r [] [] (.j 5 ⟨[2,3,4],[(16, .c (.c (.j_ [1,0,23])))],[[2,0,23],[3,0,23],[3,37],[4,0,23],[4,37],[5,0,23],[6,0,23],[10],[12],[16,0,23],[1000003,0,0,23]],[([1,0,23], .row 70),([2,37], .box [.c (.j_ [1000003,0,0,23]), .c (.any), .c (.j_ [2,0,23]), .c (.j_ [3,0,23]), .c (.j_ [4,0,23]), .c (.j_ [5,0,23]), .c (.j_ [6,0,23]),Bd,Bd,Bd,GJ,Bd,Bd,Bd,Bd, .v (.k (.int .u64)), .c (.j_ [16,0,23]),Bd,Bd]),([5], .box [.c (.j_ [1000003,0,0,23]), .c (.any), .c (.j_ [2,0,23]), .c (.j_ [3,0,23]), .c (.j_ [4,0,23]), .c (.j_ [5,0,23]), .c (.j_ [6,0,23]),Bd,Bd,Bd,GJ,Bd,Bd,Bd,Bd, .v (.k (.int .u64)), .c (.j_ [16,0,23]),Bd,Bd])]⟩ (.s (.r [] [] (.g 0 (.ug [2,3,4,16]) .n)) (.s (.r [] [] (.q 5 (.sub false) .n)) (.s .n (.s .n (.s (.r [] [] (.t (.q 2 (.sub true) (.q 5 (.sub true) (.q 6 .apb .n))))) (.s (.r [] [] (.q 4 (.sub true) (.q 5 .clr .n))) (.s (.r [] [] (.g 1 (.tr 32) .n)) .n))))))) .n)) (.j ⟨[2,3,4],[],[[2,37],[1,0,23],[2,0,23],[3,0,23],[3,37],[4,0,23],[4,37],[5],[5,0,23],[6,0,23],[10],[12],[16,0,23]],[([1000003,0,0,23], .deep 61)]⟩ (.s (.r [] [] (.c 4 (.s (.r [] [] (.g 0 (.ug [2,3,4,22]) .n)) (.s (.s .n (.s .n (.i .x (.s .n (.i .x .n))))) (.s (.s .n (.i .x .n)) (.s .n (.s (.s .n (.s .n (.i .n (.s .n (.i .n (.s .n (.i .x .n))))))) .x))))) .n)) (.s .n (.i (.r [] [] (.t (.q 3 .au (.q 6 .co (.q 8 .au .n))))) .n))) (.s (.r [] [] (.j 3 ⟨[2,4],[(36, .c (.c (.j_ [4,0,23])))],[[1,0,23],[2,0,23],[3,0,23],[4,37],[5,0,23],[6,0,23],[10],[12],[16,0,23],[1000003,0,0,23]],[([2,37], .box [.c (.j_ [1000003,0,0,23]), .c (.j_ [1,0,23]), .c (.j_ [2,0,23]), .c (.j_ [3,0,23]), .c (.any), .c (.j_ [5,0,23]), .c (.j_ [6,0,23]),Bd,Bd,Bd,GJ,Bd,Bd,Bd,Bd, .v (.k (.int .u64)), .c (.j_ [16,0,23]),Bd,Bd]),([4,0,23], .row 126),([5], .box [.c (.j_ [1000003,0,0,23]), .c (.any), .c (.j_ [2,0,23]), .c (.j_ [3,0,23]), .c (.any), .c (.j_ [5,0,23]), .c (.j_ [6,0,23]),Bd,Bd,Bd,GJ,Bd,Bd,Bd,Bd, .v (.k (.int .u64)), .c (.j_ [16,0,23]),Bd,Bd])]⟩ (.s (.r [] [] (.g 0 (.ug [2,4,36]) .n)) (.s (.r [] [] (.j 2 ⟨[0,1],[BS 10],[[2,37],[1,0,23],[2,0,23],[3,0,23],[3,37],[4,0,23],[4,37],[5],[5,0,23],[6,0,23],[10],[12],[16,0,23],[1000003,0,0,23]],[]⟩ (.s (.r [] [] (.g 0 (.ug [0,1,10]) .n)) (.j ⟨[],[],[[2,37],[1,0,23],[2,0,23],[3,0,23],[3,37],[4,0,23],[4,37],[5],[5,0,23],[6,0,23],[10],[12],[16,0,23],[1000003,0,0,23]],[]⟩ (.s .n (.l ⟨[0,1,7],[BS 8],[[2,37],[1,0,23],[2,0,23],[3,0,23],[3,37],[4,0,23],[4,37],[5],[5,0,23],[6,0,23],[10],[12],[16,0,23],[1000003,0,0,23]],[]⟩ [(1,⟨[],[],[[2,37],[1,0,23],[2,0,23],[3,0,23],[3,37],[4,0,23],[4,37],[5],[5,0,23],[6,0,23],[10],[12],[16,0,23],[1000003,0,0,23]],[]⟩),(0,⟨[],[BS 4],[[2,37],[1,0,23],[2,0,23],[3,0,23],[3,37],[4,0,23],[4,37],[5],[5,0,23],[6,0,23],[10],[12],[16,0,23],[1000003,0,0,23]],[]⟩)] (.s .n (.s .n (.s (.s .n (.s (.r [] [] (.c 5 (.s (.r [] [] (.g 0 (.ug [0,1,5,7,8,16]) .n)) .n) .n)) .n)) .n))))) .n)) .n)) (.s .n (.j ⟨[0],[BS 5],[[2,37],[1,0,23],[2,0,23],[3,0,23],[4,37],[5],[5,0,23],[6,0,23],[10],[12],[16,0,23],[1000003,0,0,23]],[([4,0,23], .row 126)]⟩ (.s .n (.l ⟨[0,1],[BS 5,BS 6],[[2,37],[1,0,23],[2,0,23],[3,0,23],[3,37],[4,37],[5],[5,0,23],[6,0,23],[10],[12],[16,0,23],[1000003,0,0,23]],[([4,0,23], .row 126)]⟩ [(1,⟨[0],[BS 5],[[2,37],[1,0,23],[2,0,23],[3,0,23],[4,37],[5],[5,0,23],[6,0,23],[10],[12],[16,0,23],[1000003,0,0,23]],[([4,0,23], .row 126)]⟩)] (.s .n (.j ⟨[0,1,6],[BS 5],[[2,37],[1,0,23],[2,0,23],[3,0,23],[3,37],[4,37],[5],[5,0,23],[6,0,23],[10],[12],[16,0,23],[1000003,0,0,23]],[([4,0,23], .row 126)]⟩ (.s .n (.s (.r [] [] (.c 2 (.s (.r [] [] (.g 0 (.ug [0,1,5,6,7,28]) .n)) .n) .n)) .n)) .n)))) (.s (.r [] [] (.q 2 (.sub true) (.q 3 .clr .n))) (.s (.r [] [] (.q 2 (.sub true) (.g 3 (.tr 41) .n))) .n)))))) .n)) .n))))) .n)) (.s (.s .n (.i .x .n)) (.s .n (.s (.r [] [] (.c 2 (.s (.r [] [] (.g 0 (.ug [2,4,5,10,14,59]) .n)) (.s (.s (.r [] [] (.c 3 (.s (.r [] [] (.g 0 (.ug [2,3,4,10]) .n)) (.s (.r [] [] (.j 3 ⟨[],[BS 8],[[2,59],[1,0,23],[2,0,23],[3,0,23],[3,59],[4,0,23],[4,59],[5],[5,0,23],[6,0,23],[10],[14],[16,0,23],[1000003,0,0,23]],[]⟩ (.s (.r [] [] (.g 0 (.ug [8]) .n)) (.j ⟨[],[],[[2,59],[1,0,23],[2,0,23],[3,0,23],[3,59],[4,0,23],[4,59],[5],[5,0,23],[6,0,23],[10],[14],[16,0,23],[1000003,0,0,23]],[]⟩ (.s .n (.l ⟨[0,1,7],[BS 8],[[1,0,23],[2,59],[2,0,23],[3,0,23],[3,10,59],[3,59],[4,0,23],[4,59],[5],[5,0,23],[6,0,23],[10],[14],[16,0,23],[1000003,0,0,23]],[]⟩ [(1,⟨[],[],[[2,59],[1,0,23],[2,0,23],[3,0,23],[3,59],[4,0,23],[4,59],[5],[5,0,23],[6,0,23],[10],[14],[16,0,23],[1000003,0,0,23]],[]⟩),(0,⟨[],[BS 4],[[2,59],[1,0,23],[2,0,23],[3,0,23],[3,59],[4,0,23],[4,59],[5],[5,0,23],[6,0,23],[10],[14],[16,0,23],[1000003,0,0,23]],[]⟩)] (.s .n (.s .n (.s (.s .n (.s (.r [] [] (.c 5 (.s (.r [] [] (.g 0 (.ug [0,1,5,7,8,16]) .n)) .n) .n)) .n)) .n))))) .n)) .n)) .n)) .n)) (.s .n (.i .x .n))) (.s (.r [] [] (.j 3 ⟨[2,3,4],[BS 22],[[2,59],[1,0,23],[2,0,23],[3,0,23],[3,59],[4,0,23],[4,59],[5],[5,0,23],[6,0,23],[10],[14],[16,0,23],[1000003,0,0,23]],[]⟩ (.s (.r [] [] (.g 0 (.ug [2,3,4,22]) .n)) (.j ⟨[],[],[[2,59],[1,0,23],[2,0,23],[3,0,23],[3,59],[4,0,23],[4,59],[5],[5,0,23],[6,0,23],[10],[14],[16,0,23],[1000003,0,0,23]],[]⟩ (.s .n (.l ⟨[0,1,7],[BS 8],[[1,0,23],[2,59],[2,0,23],[3,0,23],[3,59],[4,0,23],[4,59],[5],[5,0,23],[6,0,23],[10],[14],[16,0,23],[1000003,0,0,23]],[]⟩ [(1,⟨[],[],[[2,59],[1,0,23],[2,0,23],[3,0,23],[3,59],[4,0,23],[4,59],[5],[5,0,23],[6,0,23],[10],[14],[16,0,23],[1000003,0,0,23]],[]⟩),(0,⟨[],[BS 4],[[2,59],[1,0,23],[2,0,23],[3,0,23],[3,59],[4,0,23],[4,59],[5],[5,0,23],[6,0,23],[10],[14],[16,0,23],[1000003,0,0,23]],[]⟩)] (.s .n (.s .n (.s (.s .n (.s (.r [] [] (.c 5 (.s (.r [] [] (.g 0 (.ug [0,1,5,7,8,16]) .n)) .n) .n)) .n)) .n))))) .n)) .n)) (.j ⟨[2,3,4],[BS 6],[[2,59],[1,0,23],[2,0,23],[3,0,23],[3,59],[4,0,23],[4,59],[5],[5,0,23],[6,0,23],[10],[14],[16,0,23],[1000003,0,0,23]],[]⟩ .n (.s (.r [] [] (.c 5 (.s (.r [] [] (.g 0 (.ug [2,4,33]) .n)) (.s (.r [] [] (.q 2 (.sub false) .n)) (.s .n (.s (.s .n (.i .x .n)) (.s .n (.s .n (.s .x .n))))))) .n)) .n))))) .n)) (.s .n (.s .n (.j ⟨[5,10,14],[],[[5],[1,0,23],[2,0,23],[3,0,23],[4,0,23],[5,0,23],[6,0,23],[10],[14],[16,0,23]],[([1000003,0,0,23], .deep 61)]⟩ (.s (.r [] [] (.c 3 (.s (.r [] [] (.g 0 (.ug [2,4,5,10,14,71]) .n)) (.s (.s .n (.s .n (.i .x (.s .n (.i .x .n))))) (.s (.s .n (.i .x .n)) (.s .n (.s (.s .n (.s .n (.i .n (.s .n (.i .n (.s .n (.i .x .n))))))) .x))))) .n)) (.s .n (.i (.s .n (.i (.r [] [] (.t (.q 3 .au (.q 7 .ins (.q 9 .au .n))))) (.r [] [] (.t (.q 3 .au (.q 9 .au .n)))))) .n))) (.s (.r [] [] (.t (.g 0 (.fd [1000003,0,0,23]) (.q 0 .lz .n)))) .n)))))))))))) [.s 36, .k (.int .i64), .k (.int .i64), .k (.int .i64), .k (.bool)] [.s 36, .k (.int .i64)] (fun x=>Fn x.1 x.2.1 x.2.2.1 x.2.2.2.1 x.2.2.2.2.1) Tryz.func77 (by kernel_rfl)
def V8:Option (Bool):=
 some true
def V9 (a0:Aw) (a1:List (Int)) (akc:Int) (asM:List (Int)):Option ((Int×(List (Int)))⊕(Unit⊕Bool)):=
 (if(decide (akc<(a1.length:Int))) then
  (idx a1 akc).bind fun e10=>
  (idx a0.Options e10).bind fun e11=>
  (dR asM e11.A).bind fun r12=>
  (if r12 then
   some (.inr (.inr false))
  else
   (idx a0.Options e10).bind fun e14=>
   (app 8 asM ([e14.A]:List (Int))).bind fun l15=>
   some (.inl ((Ac (akc+1)),l15)))
 else
  some (.inr (.inl ())))
def Sw (a0:Aw) (a1:List (Int)):Option (Bool):=
 jn (fun(v:Unit)=>V8) (fun jJ1=>
 (iter (fun(v:Int×(List (Int)))=>V9 a0 a1 v.1 v.2) FU ((0:Int),([]:List (Int)))).bind (Sum.elim (fun o0=>jJ1 ()) (fun o1=>some o1)))
def Zq:Cj:=mC [lm] 123 Tryz.f123 (.s .n (.s .n (.j M5 (.s .n (.l ⟨[2,8,9],[(5, .c (.c (.j_ [5]))),BS 10],[[2]],[([5], .row 3)]⟩ [(1,M5),(0,⟨[],[JL 4],[],[]⟩)] .n)) .n))) [.s 54, .k (.t_ 3)] [.k (.bool)] (fun x=>Sw x.1 x.2.1) Tryz.func123 (by kernel_rfl)
def lu (r1:Aa) (ak6:Int) (afr:List (Ar)):Option (Aa):=
 some (⟨afr,r1.b_,r1.AT,r1.acv,r1.Stack,r1.aar,r1.ack,r1.aaf,r1.aaj,r1.Step,r1.abI,r1.Priority,r1.Passes,r1.g_,r1.l_,r1.ab2,r1.Extra,r1.ac9,r1.aaK⟩:Aa)
def Sx (a0:Aa) (a1:Int) (a2:Int) (a3:List (Int)):Option (Aa):=
 (Eb a0).bind fun r1=>
 jn (fun(v:Int×(List (Ar)))=>lu r1 v.1 v.2) (fun jJ4=>
 (if a1==0 then
  none
 else if a1==4 then
  none
 else
  (some (if decide (a2<0) then true else decide ((r1.bk.length:Int)<=a2))).bind fun b7=>
  (if b7 then
   none
  else
   (idx r1.bk a2).bind fun e9=>
   (if a1==1 then
    (if true then
     (Ap a3).bind fun r12=>
     (idx r1.bk a2).bind fun e13=>
     (n_ (a2<((r1.bk.length:Nat):Int))).bind fun u14=>
     (some (r1.bk.set (a2).toNat ({e13 with Hand:=r12}))).bind fun l15=>
     jJ4 (((r1.bk.length:Nat):Int),l15)
    else
     jJ4 (((r1.bk.length:Nat):Int),r1.bk))
   else if a1==2 then
    (if true then
     (Ap a3).bind fun r18=>
     (idx r1.bk a2).bind fun e19=>
     (n_ (a2<((r1.bk.length:Nat):Int))).bind fun u20=>
     (some (r1.bk.set (a2).toNat ({e19 with q_:=r18}))).bind fun l21=>
     jJ4 (((r1.bk.length:Nat):Int),l21)
    else
     jJ4 (((r1.bk.length:Nat):Int),r1.bk))
   else if a1==3 then
    none
   else
    none))))
def oM:Cj:=mC [Lt,BI] 82 Tryz.f82 (.s .n (.s (.r [] [] (.q 1 .co .n)) (.j ⟨[4,8],[],[[4],[1,0,11],[2,0,11],[3,0,11],[4,0,11],[5,0,11],[6,0,11],[8],[16,0,11]],[([1000003,0,0,11], .deep 61)]⟩ (.s (.r [] [] (.c 2 (.s (.r [] [] (.g 0 (.ug [3,4,8,14]) .n)) (.s (.s .n (.s .n (.i .x (.s .n (.i .x .n))))) (.s (.s .n (.i .x .n)) (.s .n (.s (.s .n (.s .n (.i .n (.s .n (.i .n (.s .n (.i .x .n))))))) .x))))) .n)) (.s .n (.i (.r [] [] (.q 2 .co (.q 4 .au .n))) .n))) (.s (.r [] [] (.g 0 (.fd [1000003,0,0,11]) .n)) .n)))) [.s 36, .k (.int .i64), .k (.int .i64), .k (.t_ 3)] [.s 36] (fun x=>Sx x.1 x.2.1 x.2.2.1 x.2.2.2.1) Tryz.func82 (by kernel_rfl)
def Lu:Option (Bool):=
 some true
def GI (a0:Aa) (a1:List (Int)) (a2:Int) (a3:Int) (aiK:Int):Option ((Int)⊕(Unit⊕Unit)):=
 (if(decide (aiK<(a1.length:Int))) then
  (idx a1 aiK).bind fun e6=>
  (KI a0 e6).bind fun r7=>
  (some (if !r7.2 then true else r7.1.B_ != a2)).bind fun b8=>
  (some (if decide (0<=a3) then r7.1.m_ != a3 else false)).bind fun b9=>
  (gd ((if b8 then true else b9)==false) (idx a1 aiK)).bind fun e10=>
  (gd ((if b8 then true else b9)==false) (JO a1 e10)).bind fun r11=>
  (some (if(if b8=true then true else b9) then true else r11 != 1)).bind fun b12=>
  (if b12 then
   some (.inr (.inr ()))
  else
   some (.inl (Ac (aiK+1))))
 else
  some (.inr (.inl ())))
def D2 (a0:Aa) (a1:List (Int)) (a2:Int) (a3:Int):Option (Bool):=
 (iter (fun(v:Int)=>GI a0 a1 a2 a3 v) FU (0:Int)).bind (Sum.elim (fun o0=>Lu) (fun o1=>some false))
def oN (a0:Aa) (a1:List (Int)) (a2:Int) (a3:Int) (r:Bool):Prop:=BV Tryz.prog I0 91 [vA Db a0,vL (eI .i64) a1,vI a2,vI a3] (· =vB r)
theorem lw {a0:Aa} {a1:List (Int)} {a2:Int} {a3:Int} {r:Bool} (h:D2 a0 a1 a2 a3=some r):oN a0 a1 a2 a3 r:=by
 refine BV.bo BT Tryz.func91 rfl Tryz.ntmps91 [.tmp 8] fun _ _ _ _=>?_;unfold D2 at h;refine Gg [.a,.a] (uo [0] [(4,vP [4] (0))] [.e (bx [4] (Db a0))]) (aN)<|Sj (X:=Unit) (fun v=>(sl 54 [] [])) (fun v=>Lu=some r) ?_ ?_
 ·refine Gg [.a] (u [] [(9,vI 0)]) (aN)<|hB ?_;obtain⟨n1,y0,h⟩:=bS h;refine Gi (fun(v:Int)=>(u [] [(9,vI v)])) y0 (wT) ?_;rintro i0 m1 j0 o0;replace j0:GI a0 a1 a2 a3 i0=some m1:=j0;unfold GI at j0;refine hS<|Gg (nA 4) (u [] [(15,vB (decide (i0<(a1.length:Int))))]) (aN)<|iC j0 (fun j0=>?_) (fun j0=>?_)
  ·refine hK<|Tn<|hS<|hB<|hS ?_;obtain⟨e6,q0,r7,j1,j0⟩:=bS2 j0;refine Ad.asu [0,1,2,4,512,513,514,516,517,518,519,526,527,542,543,575,639,767,895,1023,2047,4095,1791,515,5,6,7,14,15,30,31,63,127,255,383,511,3] 4095 [.a,.a,.a,.a,(.v (vI e6)),(.c (.tup [vA AH r7.1,vB r7.2])),.a,.a,.a,.a,.a,.a] [[10],[4]] (fun n=>⟨[.undef,vL (eI .i64) a1,vI a2,vI a3,vP [4] (0),.undef,.undef,.undef,.undef,vI i0,cond (Nat.testBit n 9) (vP [10] (0)) (.undef),cond (Nat.testBit n 11) (vB r7.2) (.undef),.undef,.undef,.undef,vB (decide (i0<(a1.length:Int))),.undef,.undef,cond (Nat.testBit n 6) (.tup [vA AH r7.1,vB r7.2]) (.undef),cond (Nat.testBit n 0) (vA Db a0) (.undef),cond (Nat.testBit n 1) (vL (eI .i64) a1) (.undef),cond (Nat.testBit n 2) (vI i0) (.undef),cond (Nat.testBit n 3) (vX (eI .i64) a1 ((i0).toNat *1)) (.undef),cond (Nat.testBit n 4) (vI e6) (.undef),cond (Nat.testBit n 5) (.tup [vA AH r7.1,vB r7.2]) (.undef),cond (Nat.testBit n 7) (vA AH r7.1) (.undef),cond (Nat.testBit n 8) (vB r7.2) (.undef),.undef,.undef,.undef,.undef,.undef,.undef,.undef,.undef,.undef,.undef,.undef,.undef,.undef,.undef,.undef,.undef,.undef,.undef,.undef,.undef,.undef,.undef,.undef,.undef,.undef,.undef,.undef],List.filterMap id [cond (Nat.testBit n 10) (some (bx [10] (AH r7.1))) (cond (Nat.testBit n 9) (some (bx [10] [An 0,An 0,An 0,An 0,An 0,.bool false,.bool false,.bool false,.bool false,An 0,An (((⟨0,0,0⟩:A3 (Int))).x0),An (((⟨0,0,0⟩:A3 (Int))).x1),An (((⟨0,0,0⟩:A3 (Int))).x2),An 0,An 0,An 0,.bool false,An 0,An 0])) ((none:Option Au))),some (bx [4] (Db a0))],[],[]⟩) [[],[],[],[0<=i0/\i0<(a1.length:Int)],[(i0).toNat *1+1<=(a1.flatMap (eI .i64)).length /\toV false ((i0).toNat *1) 1 (a1.flatMap (eI .i64))=vI e6,(vI e6:V)=vI e6],[Su a0 e6 r7],[],[True/\0<[V.undef,V.undef].length],[True/\1<[V.undef,V.undef].length],[],[],[]] OB (by kernel_rfl) (by kernel_rfl) (by decide) (B8.t (by kernel_rfl)) (by kernel_rfl) ⟨trivial,trivial,trivial,⟨(L7 q0),trivial⟩,⟨(eld q0 (tY .i64) 0 1 false (vI e6)),rfl,trivial⟩,⟨(aV j1),trivial⟩,trivial,⟨⟨trivial,(by decide)⟩,trivial⟩,⟨⟨trivial,(by decide)⟩,trivial⟩,trivial,trivial,trivial,trivial⟩<|Tn<|Gs (u [15,18,19,20,21,22,23,24,25,26] []) ?_;obtain⟨b8,d1,b9,i1,m0,n0,k1,z0,j0⟩:=bS4 j0;obtain⟨p0,t0,j0⟩:=bS j0;refine Gg [.a,.a,.a,.a,.a,.a,.a,(.v (vB b8)),.a,.a,.a,.a,.a,.a,.a,.a,(.v (vB b9)),.a,.a,.a,.a,.a,.a,(.v (vI m0)),(.c (vI k1)),.a,(.v (vB p0))] (uo [10,11] [(53,vB p0)] [.k 1]) (aG ((!r7.2)==false)<|aH ((!r7.2)==false)<|aF (!r7.2)<|aB d1<|aG (b8==false)<|aG (b8==false)<|aG ((b8==false)&&((decide (0<=a3))==true))<|aH ((b8==false)&&((decide (0<=a3))==true))<|aC (fun hg:(b8==false)=true=>aC (gi (b8==false))<|aC (fun q:(decide (0<=a3))=true=>(gA hg (gT q)))<|aB i1<|aN)<|aF b8<|aC (fun hg:((if b8 then true else b9)==false)=true=>aC (gi ((if b8 then true else b9)==false))<|aC (gi ((if b8 then true else b9)==false))<|aC (AbG n0 hg).1<|aN)<|aC (fun hg:((if b8 then true else b9)==false)=true=>aC (gi ((if b8 then true else b9)==false))<|aC (eld (mT n0 hg) (tY .i64) 0 1 false (vI m0))<|aC (Eq.refl (vI m0))<|aN)<|aC (c2 z0 Sl)<|aG ((if b8 then true else b9)==false)<|aF (if b8 then true else b9)<|aB t0<|aN)<|iC j0 (fun j0=>?_) (fun j0=>?_)
   ·refine Rg [.a] (sl 54 [(8,vB false)] []) (aN)<|hR<|qR<|Tr ?_;obtain rfl:=o0 _ (sI j0).symm;replace h:=Agu h;exact Tr<|qR<|Tr<|bQ _ (kB h)
   refine hK<|qN<|Tn<|Ge (nA 3) (u [] [(9,vI (Ac (i0+1))),(16,vI i0),(17,vI (Ac (i0+1)))]) (aN)<|Tn ⟨(Ac (i0+1)),(sI j0).symm,wT⟩
  refine hE<|Te ?_;obtain rfl:=o0 _ (sI j0).symm;replace h:=Agt h;refine Te<|qX<|Tn ⟨(),h,wT⟩
 rintro _ k0;replace k0:Lu=some r:=k0;unfold Lu at k0;exact Rg [.a] (sl 54 [(8,vB true)] []) (aN)<|hR<|bQ _ (kB k0)def akZ:CE TE Tryz.prog I0:=⟨91,[.s 36, .k (.t_ 3), .k (.int .i64), .k (.int .i64)],[.k (.bool)],fun x=>D2 x.1 x.2.1 x.2.2.1 x.2.2.2.1,fun x r h=>IC (by kernel_rfl) (lw (r:=r) h),[],fun h=>absurd rfl h,none,(fun _ h=>nomatch h),none,(fun _ _ h=>nomatch h)⟩
def Zr:Option (Bool):=
 some true
def KK (a0:List (Bx)) (a1:Aa) (afT:Int):Option ((Int)⊕(Unit⊕Bool)):=
 (if(decide (afT<(a1.b_.length:Int))) then
  (idx a1.b_ afT).bind fun e8=>
  (gQ e8 (a0.length:Int) (a1.bk.length:Int)).bind fun r9=>
  (some (if !r9 then true else decide (a1.g_<=e8.Id))).bind fun b10=>
  (some (if b10 then true else decide (a1.l_<=e8.adH))).bind fun b11=>
  (gd ((b11==false)&&((decide (0<afT))==true)) (idx a1.b_ (Ac (afT - 1)))).bind fun e12=>
  (some (if decide (0<afT) then decide (e8.Id<=e12.Id)else false)).bind fun b13=>
  (some (if b11 then true else b13)).bind fun b14=>
  (if b14 then
   some (.inr (.inr false))
  else
   (HR a1 e8).bind fun r16=>
   (if !r16 then
    some (.inr (.inr false))
   else
    some (.inl (Ac (afT+1)))))
 else
  some (.inr (.inl ())))
def Lv (a0:List (Bx)) (a1:Aa):Option (Bool):=
 (if(decide (2048<(a1.b_.length:Int))) then
  some false
 else
  jn (fun(v:Unit)=>Zr) (fun jJ2=>
  (iter (fun(v:Int)=>KK a0 a1 v) FU (0:Int)).bind (Sum.elim (fun o0=>jJ2 ()) (fun o1=>some o1))))
def aY:Cj:=mC [wv,ai9] 52 Tryz.f52 (.s .n (.s .n (.j M5 (.s .n (.l ⟨[0,3],[BS 5],[[3]],[]⟩ [(1,M5),(0,⟨[],[JL 4],[],[]⟩)] .n)) .n))) [.k (.t_ 102), .s 36] [.k (.bool)] (fun x=>Lv x.1 x.2.1) Tryz.func52 (by kernel_rfl)
end Go.PL
