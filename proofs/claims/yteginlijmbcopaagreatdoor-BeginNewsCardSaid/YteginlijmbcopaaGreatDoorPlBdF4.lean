/- Functions of the program, as partial functions in Lean, with proofs. -/
import Derived.Test.YteginlijmbcopaaGreatDoorPlBdB
import Derived.Test.YteginlijmbcopaaGreatDoorPlBdF0
import Derived.Test.YteginlijmbcopaaGreatDoorPlBdF1
import Derived.Test.YteginlijmbcopaaGreatDoorPlBdF2
import Derived.Test.YteginlijmbcopaaGreatDoorPlBdF3
namespace Go.PL
open Go Go.RowKit Go.Proofs
set_option maxRecDepth 100000
set_option linter.all false
set_option maxHeartbeats 4000000
attribute [local irreducible] Ae Cq Cl
def KN (a0:AZ) (ao4:Bool):Option (Bool):=
 (if ao4 then
  (IU a0.N (1:Int) (131071:Int)).bind fun r21=>
  some r21
 else if a0.Kind==11 then
  (B0 a0.Filter).bind fun r23=>
  some r23
 else if a0.Kind==12 then
  (IU a0.N (0:Int) (99:Int)).bind fun r25=>
  (gd (r25==true) (IU a0.M (0:Int) (99:Int))).bind fun r26=>
  (some (if r25 then r26 else false)).bind fun b27=>
  some b27
 else if a0.Kind==13 then
  (IU a0.N (-99:Int) (99:Int)).bind fun r29=>
  (gd (r29==true) (IU a0.M (-99:Int) (99:Int))).bind fun r30=>
  (some (if r29 then r30 else false)).bind fun b31=>
  some b31
 else
  some true)
def KO (a0:AZ) (ao9:Bool):Option (Bool):=
 (if ao9 then
  (HJ a0.Sub).bind fun r13=>
  some r13
 else if a0.Kind==6 then
  (IU a0.N (0:Int) (31:Int)).bind fun r15=>
  some r15
 else if a0.Kind==7 then
  (IU a0.N (1:Int) (31:Int)).bind fun r17=>
  some r17
 else
  jn (fun(v:Bool)=>KN a0 v) (fun aeS=>
  (if a0.Kind==8 then
   aeS (a0.Kind==8)
  else
   aeS (a0.Kind==9))))
def MM (a0:AZ) (ark:Bool):Option (Bool):=
 (if ark then
  (IU a0.N (1:Int) (63:Int)).bind fun r8=>
  (some (if r8 then(Fn .i64 a0.N (6:Int))==(0:Int)else false)).bind fun b9=>
  some b9
 else
  jn (fun(v:Bool)=>KO a0 v) (fun aaR=>
  (if a0.Kind==4 then
   aaR (a0.Kind==4)
  else
   aaR (a0.Kind==5))))
def HM (a0:AZ):Option (Bool):=
 (IU a0.Kind (1:Int) (14:Int)).bind fun r1=>
 (gd ((!r1)==false) (MA a0)).bind fun r2=>
 (some (if !r1 then true else !(a0==r2))).bind fun b3=>
 (if b3 then
  some false
 else
  jn (fun(v:Bool)=>MM a0 v) (fun jJ6=>
  (if a0.Kind==2 then
   jJ6 (a0.Kind==2)
  else
   jJ6 (a0.Kind==3))))
def pj:Bb:=mC [zY,sw,NJ,Dd] 252 Tryz.f252 (.s .n (.s .n (.s (.s .n (.j ⟨[1,14],[ES 15],[[1]],[]⟩ .n (.i .n (.j ⟨[1,14],[ES 27],[[1]],[]⟩ .n (.i .n (.s .n (.i .n (.s .n (.i .n (.j ⟨[1,14],[ES 43],[[1]],[]⟩ .n .n)))))))))) .n))) [.s 148] [.k (.bool)] (fun x=>HM x.1) Tryz.func252 (by kernel_rfl)
def Ol (ah2:List (List UInt8)):Option ((List UInt8)):=
 (if((ah2.length:Int)==0) then
  some YJ
 else
  (QQ ah2 kq).bind fun r37=>
  some r37)
def Om (a0:Ag) (ah3:List (List UInt8)):Option ((List UInt8)):=
 (CU ii a0.Value).bind fun r33=>
 jn (fun(v:(List (List UInt8)))=>Ol v) (fun aus=>
 (if(r33 != ([]:List UInt8)) then
  (app 16 ah3 ([r33]:List (List UInt8))).bind fun l39=>
  aus l39
 else
  aus ah3))
def Oo (a0:Ag) (ah4:List (List UInt8)):Option ((List UInt8)):=
 (CU ig a0.abv).bind fun r30=>
 jn (fun(v:(List (List UInt8)))=>Om a0 v) (fun auu=>
 (if(r30 != ([]:List UInt8)) then
  (app 16 ah4 ([r30]:List (List UInt8))).bind fun l41=>
  auu l41
 else
  auu ah4))
def Oq (a0:Ag) (ah5:List (List UInt8)):Option ((List UInt8)):=
 (CU ic a0.Power).bind fun r27=>
 jn (fun(v:(List (List UInt8)))=>Oo a0 v) (fun anR=>
 (if(r27 != ([]:List UInt8)) then
  (app 16 ah5 ([r27]:List (List UInt8))).bind fun l43=>
  anR l43
 else
  anR ah5))
def Or (a0:Ag) (ah6:List (List UInt8)):Option ((List UInt8)):=
 (idx (⟨([]:List UInt8),Ny,Jn⟩:A3 (List UInt8)).l a0.Tap).bind fun e24=>
 jn (fun(v:(List (List UInt8)))=>Oq a0 v) (fun anT=>
 (if(e24 != ([]:List UInt8)) then
  (app 16 ah6 ([e24]:List (List UInt8))).bind fun l45=>
  anT l45
 else
  anT ah6))
def Yd (ad5:Int) (alq:List (List UInt8)):Option ((Int×(List (List UInt8)))⊕((List (List UInt8)))):=
 some (.inl ((Aa (ad5+1)),alq))
def DT (ad5:Int) (ac_:List (List UInt8)) (apa:List UInt8):Option ((Int×(List (List UInt8)))⊕((List (List UInt8)))):=
 (cat Mw apa).bind fun s58=>
 jn (fun(v:(List (List UInt8)))=>Yd ad5 v) (fun aup=>
 (if(s58 != ([]:List UInt8)) then
  (app 16 ac_ ([s58]:List (List UInt8))).bind fun l62=>
  aup l62
 else
  aup ac_))
def IY (adU:((List UInt8))->Option ((Int×(List (List UInt8)))⊕((List (List UInt8))))) (aoY:List UInt8):Option ((Int×(List (List UInt8)))⊕((List (List UInt8)))):=
 (BS ([aoY,Mv]:List (List UInt8))).bind fun r68=>
 (cat r68 Pm).bind fun s69=>
 adU s69
def IZ (adU:((List UInt8))->Option ((Int×(List (List UInt8)))⊕((List (List UInt8))))) (aoX:List UInt8):Option ((Int×(List (List UInt8)))⊕((List (List UInt8)))):=
 (BS ([aoX,HH]:List (List UInt8))).bind fun r72=>
 (cat r72 Pk).bind fun s73=>
 adU s73
def FL (r46:(List (Int))) (ad5:Int) (ac_:List (List UInt8)):Option ((Int×(List (List UInt8)))⊕((List (List UInt8)))):=
 (if(decide (ad5<(r46.length:Int))) then
  (idx r46 ad5).bind fun e55=>
  jn (fun(v:(List UInt8))=>DT ad5 ac_ v) (fun adU=>
  (some (if decide (e55<0) then true else decide (17<=e55))).bind fun b63=>
  (if b63 then
   adU ([]:List UInt8)
  else
   (k_ (0<=e55)).bind fun u65=>
   jn (fun(v:(List UInt8))=>IY adU v) (fun aly=>
   jn (fun(v:(List UInt8))=>IZ adU v) (fun aun=>
   (if((Aa ((1:Int)*2 ^ (min (e55).toNat (IntKind.i64).bits)))==(1:Int)) then
    adU RQ
   else if((Aa ((1:Int)*2 ^ (min (e55).toNat (IntKind.i64).bits)))==(2:Int)) then
    adU VD
   else if((Aa ((1:Int)*2 ^ (min (e55).toNat (IntKind.i64).bits)))==(4:Int)) then
    adU VE
   else if((Aa ((1:Int)*2 ^ (min (e55).toNat (IntKind.i64).bits)))==(8:Int)) then
    adU Nq
   else if((Aa ((1:Int)*2 ^ (min (e55).toNat (IntKind.i64).bits)))==(16:Int)) then
    adU Pj
   else if((Aa ((1:Int)*2 ^ (min (e55).toNat (IntKind.i64).bits)))==(32:Int)) then
    aun Qk
   else if((Aa ((1:Int)*2 ^ (min (e55).toNat (IntKind.i64).bits)))==(64:Int)) then
    aun ([]:List UInt8)
   else if((Aa ((1:Int)*2 ^ (min (e55).toNat (IntKind.i64).bits)))==(128:Int)) then
    adU RR
   else if((Aa ((1:Int)*2 ^ (min (e55).toNat (IntKind.i64).bits)))==(256:Int)) then
    adU Nr
   else if((Aa ((1:Int)*2 ^ (min (e55).toNat (IntKind.i64).bits)))==(512:Int)) then
    adU RS
   else if((Aa ((1:Int)*2 ^ (min (e55).toNat (IntKind.i64).bits)))==(1024:Int)) then
    adU Ns
   else if((Aa ((1:Int)*2 ^ (min (e55).toNat (IntKind.i64).bits)))==(2048:Int)) then
    adU RU
   else if((Aa ((1:Int)*2 ^ (min (e55).toNat (IntKind.i64).bits)))==(4096:Int)) then
    adU RV
   else if((Aa ((1:Int)*2 ^ (min (e55).toNat (IntKind.i64).bits)))==(8192:Int)) then
    adU Pl
   else if((Aa ((1:Int)*2 ^ (min (e55).toNat (IntKind.i64).bits)))==(16384:Int)) then
    aly ko
   else if((Aa ((1:Int)*2 ^ (min (e55).toNat (IntKind.i64).bits)))==(65536:Int)) then
    aly ([]:List UInt8)
   else
    adU Nt)))))
 else
  some (.inr ac_))
def I1 (a0:Ag) (alr:List (List UInt8)):Option ((List UInt8)):=
 jn (fun(v:(List (List UInt8)))=>Or a0 v) (fun arW=>
 (FB a0.Keys).bind fun r46=>
 (iter (fun(v:Int×(List (List UInt8)))=>FL r46 v.1 v.2) FU ((0:Int),alr)).bind (fun o0=>arW o0))
def Ot (ahu:((List (List UInt8)))->Option ((List UInt8))) (alp:List (List UInt8)):Option ((List UInt8)):=
 ahu alp
def Ou (a0:Ag) (afW:List (List UInt8)):Option ((List UInt8)):=
 jn (fun(v:(List (List UInt8)))=>I1 a0 v) (fun ahu=>
 (if(a0.Sub != ([]:List UInt8)) then
  (cat HY a0.Sub).bind fun s91=>
  jn (fun(v:(List (List UInt8)))=>Ot ahu v) (fun auj=>
  (if(s91 != ([]:List UInt8)) then
   (app 16 afW ([s91]:List (List UInt8))).bind fun l95=>
   auj l95
  else
   auj afW))
 else
  ahu afW))
def V7 (ac4:Int) (akb:List (List UInt8)):Option ((Int×(List (List UInt8)))⊕((List (List UInt8)))):=
 some (.inl ((Aa (ac4+1)),akb))
def HN (ac4:Int) (acx:List (List UInt8)) (ano:List UInt8):Option ((Int×(List (List UInt8)))⊕((List (List UInt8)))):=
 (cat GI ano).bind fun atO=>
 jn (fun(v:(List (List UInt8)))=>V7 ac4 v) (fun ai2=>
 (if(atO != ([]:List UInt8)) then
  (app 16 acx ([atO]:List (List UInt8))).bind fun ayM=>
  ai2 ayM
 else
  ai2 acx))
def E7 (r96:(List (Int))) (ac4:Int) (acx:List (List UInt8)):Option ((Int×(List (List UInt8)))⊕((List (List UInt8)))):=
 (if(decide (ac4<(r96.length:Int))) then
  (idx r96 ac4).bind fun amV=>
  jn (fun(v:(List UInt8))=>HN ac4 acx v) (fun aqx=>
  (some (if decide (amV<0) then true else decide (5<=amV))).bind fun aAV=>
  (if aAV then
   aqx ([]:List UInt8)
  else
   (k_ (0<=amV/\amV<((5:Nat):Int))).bind fun axH=>
   (k_ (amV.toNat<EA.length)).bind fun axG=>
   aqx (EA.getD amV.toNat [])))
 else
  some (.inr acx))
def Ov (a0:Ag) (als:List (List UInt8)):Option ((List UInt8)):=
 jn (fun(v:(List (List UInt8)))=>Ou a0 v) (fun aeS=>
 (FB a0.aaZ).bind fun r96=>
 (iter (fun(v:Int×(List (List UInt8)))=>E7 r96 v.1 v.2) FU ((0:Int),als)).bind (fun o0=>aeS o0))
def V8 (ac3:Int) (aka:List (List UInt8)):Option ((Int×(List (List UInt8)))⊕((List (List UInt8)))):=
 some (.inl ((Aa (ac3+1)),aka))
def HO (ac3:Int) (acw:List (List UInt8)) (ann:List UInt8):Option ((Int×(List (List UInt8)))⊕((List (List UInt8)))):=
 (cat ([]:List UInt8) ann).bind fun atN=>
 jn (fun(v:(List (List UInt8)))=>V8 ac3 v) (fun aqu=>
 (if(atN != ([]:List UInt8)) then
  (app 16 acw ([atN]:List (List UInt8))).bind fun ayF=>
  aqu ayF
 else
  aqu acw))
def E8 (apz:(List (Int))) (ac3:Int) (acw:List (List UInt8)):Option ((Int×(List (List UInt8)))⊕((List (List UInt8)))):=
 (if(decide (ac3<(apz.length:Int))) then
  (idx apz ac3).bind fun alJ=>
  jn (fun(v:(List UInt8))=>HO ac3 acw v) (fun aqv=>
  (some (if decide (alJ<0) then true else decide (5<=alJ))).bind fun aAU=>
  (if aAU then
   aqv ([]:List UInt8)
  else
   (k_ (0<=alJ/\alJ<((5:Nat):Int))).bind fun aE9=>
   (k_ (alJ.toNat<EA.length)).bind fun aE8=>
   aqv (EA.getD alJ.toNat [])))
 else
  some (.inr acw))
def Ow (a0:Ag) (alu:List (List UInt8)):Option ((List UInt8)):=
 jn (fun(v:(List (List UInt8)))=>Ov a0 v) (fun amL=>
 (FB a0.adM).bind fun apz=>
 (iter (fun(v:Int×(List (List UInt8)))=>E8 apz v.1 v.2) FU ((0:Int),alu)).bind (fun o0=>amL o0))
def V9 (aeE:Int) (aj_:List (List UInt8)):Option ((Int×(List (List UInt8)))⊕((List (List UInt8)))):=
 some (.inl ((Aa (aeE+1)),aj_))
def E9 (apy:(List (Int))) (aeE:Int) (aeP:List (List UInt8)):Option ((Int×(List (List UInt8)))⊕((List (List UInt8)))):=
 (if(decide (aeE<(apy.length:Int))) then
  (idx apy aeE).bind fun avI=>
  (k_ (0<=avI)).bind fun axF=>
  (Cv (Aa ((1:Int)*2 ^ (min (avI).toNat (IntKind.i64).bits)))).bind fun ax_=>
  (cat GI ax_).bind fun atM=>
  jn (fun(v:(List (List UInt8)))=>V9 aeE v) (fun aqt=>
  (if(atM != ([]:List UInt8)) then
   (app 16 aeP ([atM]:List (List UInt8))).bind fun ayE=>
   aqt ayE
  else
   aqt aeP))
 else
  some (.inr aeP))
def Ox (a0:Ag) (alv:List (List UInt8)):Option ((List UInt8)):=
 jn (fun(v:(List (List UInt8)))=>Ow a0 v) (fun ad9=>
 (FB a0.abw).bind fun apy=>
 (iter (fun(v:Int×(List (List UInt8)))=>E9 apy v.1 v.2) FU ((0:Int),alv)).bind (fun o0=>ad9 o0))
def Wa (aeD:Int) (aj9:List (List UInt8)):Option ((Int×(List (List UInt8)))⊕((List (List UInt8)))):=
 some (.inl ((Aa (aeD+1)),aj9))
def Fa (apx:(List (Int))) (aeD:Int) (aeO:List (List UInt8)):Option ((Int×(List (List UInt8)))⊕((List (List UInt8)))):=
 (if(decide (aeD<(apx.length:Int))) then
  (idx apx aeD).bind fun asw=>
  (k_ (0<=asw)).bind fun aE4=>
  (Cv (Aa ((1:Int)*2 ^ (min (asw).toNat (IntKind.i64).bits)))).bind fun ax4=>
  (cat ([]:List UInt8) ax4).bind fun atL=>
  jn (fun(v:(List (List UInt8)))=>Wa aeD v) (fun aqr=>
  (if(atL != ([]:List UInt8)) then
   (app 16 aeO ([atL]:List (List UInt8))).bind fun ayC=>
   aqr ayC
  else
   aqr aeO))
 else
  some (.inr aeO))
def Oy (a0:Ag) (alw:List (List UInt8)):Option ((List UInt8)):=
 jn (fun(v:(List (List UInt8)))=>Ox a0 v) (fun afB=>
 (FB a0.Types).bind fun apx=>
 (iter (fun(v:Int×(List (List UInt8)))=>Fa apx v.1 v.2) FU ((0:Int),alw)).bind (fun o0=>afB o0))
def PI (a0:Ag) (ai0:List (List UInt8)):Option ((List UInt8)):=
 (idx (⟨([]:List UInt8),bi,VG⟩:A3 (List UInt8)).l a0.Self).bind fun e9=>
 jn (fun(v:(List (List UInt8)))=>Oy a0 v) (fun aaR=>
 (if(e9 != ([]:List UInt8)) then
  (app 16 ai0 ([e9]:List (List UInt8))).bind fun ayB=>
  aaR ayB
 else
  aaR ai0))
def PJ (a0:Ag) (ai1:List (List UInt8)):Option ((List UInt8)):=
 (idx (⟨([]:List UInt8),VF,RW⟩:A3 (List UInt8)).l a0.Who).bind fun e6=>
 jn (fun(v:(List (List UInt8)))=>PI a0 v) (fun jJ8=>
 (if(e6 != ([]:List UInt8)) then
  (app 16 ai1 ([e6]:List (List UInt8))).bind fun ayA=>
  jJ8 ayA
 else
  jJ8 ai1))
def II (a0:Ag):Option ((List UInt8)):=
 (B0 a0).bind fun r1=>
 (if !r1 then
  some ([]:List UInt8)
 else
  (IV a0.AT).bind fun r3=>
  jn (fun(v:(List (List UInt8)))=>PJ a0 v) (fun jJ5=>
  (if(r3 != ([]:List UInt8)) then
   (app 16 ([]:List (List UInt8)) ([r3]:List (List UInt8))).bind fun ayz=>
   jJ5 ayz
  else
   jJ5 ([]:List (List UInt8)))))
def Q1:Bb:=mC [Dd,TS,RX,ML,Ags,Oc,R2,kE] 258 Tryz.f258 (.s .n (.s .n (.s (.r [] [([9],0,[1000,9],9)] .n) (.s .n (.s (.r [] [] (.j 4 ⟨[1,3,4],[],[[1]],[([9], .box [.c (.e_ [1000,9])]),([1000,9], .row 9)]⟩ (.s (.r [] [] (.g 0 (.ug [1,3,4]) .n)) .n) .n)) (.s (.r [] [] (.j 5 ⟨[1,3,4],[],[[1]],[([9], .box [.c (.e_ [1000,9])]),([1000,9], .row 9)]⟩ (.s (.r [] [] (.g 0 (.ug [1,3,4]) .n)) .n) .n)) (.s (.r [] [] (.j 5 ⟨[1,3,4],[],[[1]],[([9], .box [.c (.e_ [1000,9])]),([1000,9], .row 9)]⟩ (.s (.r [] [] (.g 0 (.ug [1,3,4]) .n)) .n) .n)) (.s (.r [] [] (.j 3 ⟨[1,3,4],[],[[1]],[([9], .box [.c (.e_ [1000,9])]),([1000,9], .row 9)]⟩ (.s (.r [] [] (.g 0 (.ug [1,3,4]) .n)) (.l ⟨[0,2,3,11,12],[Bd 13],[[1]],[([9], .box [.c (.e_ [1000,9])]),([1000,9], .row 9)]⟩ [(1,⟨[],[],[[1]],[([9], .box [.c (.e_ [1000,9])]),([1000,9], .row 9)]⟩)] (.s .n (.s .n (.s (.s .n (.r [] [] (.c 4 (.s (.r [] [] (.g 0 (.ug [0,2,3,11,12,13,17,18,21]) .n)) .n) (.j 6 ⟨[0,2,3,11,12,13],[],[[1]],[([9], .box [.c (.e_ [1000,9])]),([1000,9], .row 9)]⟩ (.s (.r [] [] (.g 0 (.ug [0,2,3,11,12,13]) .n)) .n) .n)))) .n))))) .n)) (.s (.r [] [] (.j 3 ⟨[1,3,4],[],[[1]],[([9], .box [.c (.e_ [1000,9])]),([1000,9], .row 9)]⟩ (.s (.r [] [] (.g 0 (.ug [1,3,4]) .n)) (.l ⟨[0,2,3,11,12],[Bd 13],[[1]],[([9], .box [.c (.e_ [1000,9])]),([1000,9], .row 9)]⟩ [(1,⟨[],[],[[1]],[([9], .box [.c (.e_ [1000,9])]),([1000,9], .row 9)]⟩)] (.s .n (.s .n (.s (.s .n (.r [] [] (.c 4 (.s (.r [] [] (.g 0 (.ug [0,2,3,11,12,13,17,18,21]) .n)) .n) (.j 6 ⟨[0,2,3,11,12,13],[],[[1]],[([9], .box [.c (.e_ [1000,9])]),([1000,9], .row 9)]⟩ (.s (.r [] [] (.g 0 (.ug [0,2,3,11,12,13]) .n)) .n) .n)))) .n))))) .n)) (.s (.r [] [] (.j 3 ⟨[1,3,4],[],[[1]],[([9], .box [.c (.e_ [1000,9])]),([1000,9], .row 9)]⟩ (.s (.r [] [] (.g 0 (.ug [1,3,4]) .n)) (.l ⟨[0,2,3,11,12],[Bd 13],[[1]],[([9], .box [.c (.e_ [1000,9])]),([1000,9], .row 9)]⟩ [(1,⟨[],[],[[1]],[([9], .box [.c (.e_ [1000,9])]),([1000,9], .row 9)]⟩)] (.s .n (.s .n (.s (.s .n (.r [] [] (.j 4 ⟨[0,2,3,11,12,13,17,18],[Kt 21],[[1],[9],[1000,9]],[]⟩ (.s (.r [] [] (.g 0 (.ug [0,2,3,11,12,13,17,18,21]) .n)) (.s .n (.s (.r [] [] (.q 1 .ga (.q 2 .gl .n))) .n))) (.j 6 ⟨[0,2,3,11,12,13],[],[[1]],[([9], .box [.c (.e_ [1000,9])]),([1000,9], .row 9)]⟩ (.s (.r [] [] (.g 0 (.ug [0,2,3,11,12,13]) .n)) .n) .n)))) .n))))) .n)) (.s (.r [] [] (.j 3 ⟨[1,3,4],[],[[1]],[([9], .box [.c (.e_ [1000,9])]),([1000,9], .row 9)]⟩ (.s (.r [] [] (.g 0 (.ug [1,3,4]) .n)) (.l ⟨[0,2,3,11,12],[Bd 13],[[1]],[([9], .box [.c (.e_ [1000,9])]),([1000,9], .row 9)]⟩ [(1,⟨[],[],[[1]],[([9], .box [.c (.e_ [1000,9])]),([1000,9], .row 9)]⟩)] (.s .n (.s .n (.s (.s .n (.r [] [] (.j 4 ⟨[0,2,3,11,12,13,17,18],[Kt 21],[[1],[9],[1000,9]],[]⟩ (.s (.r [] [] (.g 0 (.ug [0,2,3,11,12,13,17,18,21]) .n)) (.s .n (.s (.r [] [] (.q 1 .ga (.q 2 .gl .n))) .n))) (.j 6 ⟨[0,2,3,11,12,13],[],[[1]],[([9], .box [.c (.e_ [1000,9])]),([1000,9], .row 9)]⟩ (.s (.r [] [] (.g 0 (.ug [0,2,3,11,12,13]) .n)) .n) .n)))) .n))))) .n)) (.j ⟨[1,3,4],[],[[1]],[([9], .box [.c (.e_ [1000,9])]),([1000,9], .row 9)]⟩ (.s .n (.i (.r [] [] (.j 4 ⟨[1,3,4],[],[[1]],[([9], .box [.c (.e_ [1000,9])]),([1000,9], .row 9)]⟩ (.s (.r [] [] (.g 0 (.ug [1,3,4]) .n)) .n) .n)) .n)) (.s (.r [] [] (.j 3 ⟨[1,3,4],[],[[1]],[([9], .box [.c (.e_ [1000,9])]),([1000,9], .row 9)]⟩ (.s (.r [] [] (.g 0 (.ug [1,3,4]) .n)) (.l ⟨[0,2,3,11,12],[Bd 13],[[1]],[([9], .box [.c (.e_ [1000,9])]),([1000,9], .row 9)]⟩ [(1,⟨[],[],[[1]],[([9], .box [.c (.e_ [1000,9])]),([1000,9], .row 9)]⟩)] (.s .n (.s .n (.s (.s .n (.r [] [] (.j 4 ⟨[0,2,3,11,12,13,17,18],[Kt 21],[[1],[9],[1000,9]],[]⟩ (.s (.r [] [] (.g 0 (.ug [0,2,3,11,12,13,17,18,21]) .n)) (.s .n (.s .n (.s (.s .n (.j ⟨[],[Kt 3],[[1],[9],[1000,9]],[]⟩ (.s (.s (.s (.s (.s (.s (.s (.s (.j ⟨[],[Kt 3],[[1],[9],[1000,9]],[]⟩ .n .n) .n) .n) .n) .n) .n) .n) .n) .n) .n)) .n)))) (.j 6 ⟨[0,2,3,11,12,13],[],[[1]],[([9], .box [.c (.e_ [1000,9])]),([1000,9], .row 9)]⟩ (.s (.r [] [] (.g 0 (.ug [0,2,3,11,12,13]) .n)) .n) .n)))) .n))))) .n)) (.s (.r [] [] (.j 5 ⟨[1,3,4],[],[[1]],[([9], .box [.c (.e_ [1000,9])]),([1000,9], .row 9)]⟩ (.s (.r [] [] (.g 0 (.ug [1,3,4]) .n)) .n) .n)) (.s (.r [] [] (.j 4 ⟨[1,3,4],[],[[1]],[([9], .box [.c (.e_ [1000,9])]),([1000,9], .row 9)]⟩ (.s (.r [] [] (.g 0 (.ug [1,3,4]) .n)) .n) .n)) (.s (.r [] [] (.j 4 ⟨[1,3,4],[],[[1]],[([9], .box [.c (.e_ [1000,9])]),([1000,9], .row 9)]⟩ (.s (.r [] [] (.g 0 (.ug [1,3,4]) .n)) .n) .n)) (.s (.r [] [] (.j 4 ⟨[3],[],[],[([9], .box [.c (.e_ [1000,9])]),([1000,9], .row 9)]⟩ (.s (.r [] [] (.g 0 (.ug [3]) .n)) .n) .n)) .n))))))))))))))))) [.s 110] [.k (.str)] (fun x=>II x.1) Tryz.func258 (by kernel_rfl)
def G7 (a0:Au) (ao6:Bool):Option (Bool):=
 (if ao6 then
  (some (if decide (1<=a0.N) then decide (a0.N<=99)else false)).bind fun b13=>
  some b13
 else if a0.Do==7 then
  (some (if decide (1<=a0.N) then decide (a0.N<=99)else false)).bind fun b15=>
  (gd (b15==true) (E4 a0.r_)).bind fun r16=>
  (some (if b15 then r16 != ([]:List UInt8)else false)).bind fun b17=>
  some b17
 else if a0.Do==5 then
  (some (if a0.AT==1 then true else a0.AT==2)).bind fun b19=>
  (some (if b19 then true else a0.AT==4)).bind fun b20=>
  some b20
 else
  some true)
def CD (a0:Au):Option (Bool):=
 (CO a0.On a0.Do).bind fun r1=>
 (gd ((!r1)==false) (EC a0)).bind fun r2=>
 (some (if !r1 then true else !(a0==r2))).bind fun b3=>
 (some (if b3 then true else decide (a0.Who<0))).bind fun b4=>
 (some (if b4 then true else decide (2<a0.Who))).bind fun b5=>
 (if b5 then
  some false
 else
  (B0 a0.Filter).bind fun r7=>
  (some (if !r7 then true else a0.Filter.AT != 0)).bind fun b8=>
  (if b8 then
   some false
  else
   jn (fun(v:Bool)=>G7 a0 v) (fun aaR=>
   (if a0.Do==2 then
    aaR (a0.Do==2)
   else
    aaR (a0.Do==4)))))
def lg:Bb:=mC [bA,VO,Dd,KE] 206 Tryz.f206 (.s .n (.s .n (.s .n (.s (.s .n (.j ⟨[1,36],[ES 37],[[1]],[]⟩ .n .n)) .n)))) [.s 119] [.k (.bool)] (fun x=>CD x.1) Tryz.func206 (by kernel_rfl)
def Qv (a0:HF) (a1:Int) (afJ:Bool) (aiJ:Bool):Option (Bool):=
 (some (if decide (a0.N<1) then true else decide ((if 4<a1 then(4:Int)else a1)<a0.N))).bind fun b4=>
 (some (if afJ then b4 else false)).bind fun b5=>
 (some (if !afJ then a0.N != 0 else false)).bind fun b6=>
 (if(if b5=true then true else b6) then
  some false
 else if aiJ then
  (B0 a0.Filter).bind fun r9=>
  some r9
 else
  some (a0.Filter==(⟨0,0,0,0,0,0,0,[],0,0,(⟨0,0⟩:Ac),(⟨0,0⟩:Ac),(⟨0,0⟩:Ac)⟩:Ag)))
def R6 (jJ3:(Bool×Bool)->Option (Bool)):Option (Bool):=
 jJ3 (true,false)
def NS (a0:HF) (jJ3:(Bool×Bool)->Option (Bool)) (ad_:(Unit)->Option (Bool)) (aq7:Bool):Option (Bool):=
 (if aq7 then
  jJ3 (false,false)
 else if a0.Kind==3 then
  ad_ ()
 else if a0.Kind==8 then
  ad_ ()
 else if a0.Kind==4 then
  jJ3 (false,true)
 else
  some false)
def KP (a0:HF) (a1:Int):Option (Bool):=
 jn (fun(v:Bool×Bool)=>Qv a0 a1 v.1 v.2) (fun jJ3=>
 jn (fun(v:Unit)=>R6 jJ3) (fun ad_=>
 jn (fun(v:Bool)=>NS a0 jJ3 ad_ v) (fun agH=>
 (if a0.Kind==1 then
  agH (a0.Kind==1)
 else if a0.Kind==2 then
  agH (a0.Kind==2)
 else if a0.Kind==5 then
  agH (a0.Kind==5)
 else if a0.Kind==6 then
  agH (a0.Kind==6)
 else
  agH (a0.Kind==7)))))
def z7:Bb:=mC [Dd] 289 Tryz.f289 (.s .n (.s .n (.j ⟨[1,2],[ES 5,ES 6],[[2]],[]⟩ (.s .n (.s (.s (.j ⟨[1,2,6],[],[[2]],[]⟩ (.s (.s (.s (.j ⟨[1,2,5,6,8],[ES 9],[[2]],[]⟩ .n .n) .n) .n) .n) .n) .n) .n)) .n))) [.s 176, .k (.int .i64)] [.k (.bool)] (fun x=>KP x.1 x.2.1) Tryz.func289 (by kernel_rfl)
def D3 (a0:AW):Option (Bool):=
 (some (if decide (a0.Kind<0) then true else decide (7<a0.Kind))).bind fun b1=>
 (gd (b1==false) (Lu a0)).bind fun r2=>
 (some (if b1 then true else !(r2==(⟨0,0,0,(⟨0,0,0,0,0,0,0,[],0,0,(⟨0,0⟩:Ac),(⟨0,0⟩:Ac),(⟨0,0⟩:Ac)⟩:Ag)⟩:AW)))).bind fun b3=>
 (if b3 then
  some false
 else if a0.Kind==0 then
  (some (if decide (0<=a0.N) then decide (a0.N<=1000000)else false)).bind fun b6=>
  some b6
 else if a0.Kind==2 then
  (some (if decide (1<=a0.N) then decide (a0.N<=99)else false)).bind fun b8=>
  (gd (b8==true) (B0 a0.Filter)).bind fun r9=>
  (some (if b8 then r9 else false)).bind fun b10=>
  some b10
 else if a0.Kind==4 then
  (E4 a0.r_).bind fun r12=>
  some (r12 != ([]:List UInt8))
 else
  some true)
def pk:Bb:=mC [dx,Dd,KE] 290 Tryz.f290 .n [.s 178] [.k (.bool)] (fun x=>D3 x.1) Tryz.func290 (by kernel_rfl)
def Ib (a0:AY) (r3:Bool×Bool) (amq:Int):Option (Bool):=
 (if r3.2 then
  (B0 a0.Filter).bind fun r11=>
  (some (if r11 then a0.Filter.AT==amq else false)).bind fun b12=>
  some b12
 else
  some (a0.Filter==(⟨0,0,0,0,0,0,0,[],0,0,(⟨0,0⟩:Ac),(⟨0,0⟩:Ac),(⟨0,0⟩:Ac)⟩:Ag)))
def CF (a0:AY):Option (Bool):=
 (some (if decide (a0.aiq<1) then true else decide (14<a0.aiq))).bind fun b1=>
 (if b1 then
  some false
 else
  (DL a0.aiq).bind fun r3=>
  (some (if !r3.1 then a0.Who != 0 else false)).bind fun b4=>
  (gd (b4==false) (DP a0.Who)).bind fun r5=>
  (some (if b4 then true else r5==([]:List UInt8))).bind fun b6=>
  (if b6 then
   some false
  else
   jn (fun(v:Int)=>Ib a0 r3 v) (fun jJ9=>
   (if a0.aiq==9 then
    jJ9 (5:Int)
   else
    jJ9 (0:Int)))))
def lh:Bb:=mC [bB,TX,Dd] 210 Tryz.f210 (.s .n (.s .n (.s .n (.s .n (.s .n (.j ⟨[1,4],[Bd 5],[[1]],[]⟩ .n .n)))))) [.s 115] [.k (.bool)] (fun x=>CF x.1) Tryz.func210 (by kernel_rfl)
def cr (arH:List (Int)):Option ((List (Int))):=
 some arH
def XC (a0:Ai):Option ((List (Int))):=
 (Ui a0 a0.abi).bind fun r1=>
 jn (fun(v:(List (Int)))=>cr v) (fun jJ3=>
 (NG a0).bind fun r4=>
 (Dv r4 a0.abi).bind fun r5=>
 (if r5 then
  (app 8 ([a0.abi]:List (Int)) r1).bind fun l7=>
  jJ3 l7
 else
  jJ3 r1))
def eg:Bb:=mC [cl,Pq,Fg] 35 Tryz.f35 (.s .n (.s .n (.j ⟨[],[(3, .c (.v (.k (.l_ 3))))],[],[]⟩ (.s (.r [] [] (.t (.q 0 .lz .n))) .n) .n))) [.s 36] [.k (.l_ 3)] (fun x=>XC x.1) Tryz.func35 (by kernel_rfl)
def eh (r2:Ai) (aaa:Int) (R_:Int) (aab:Int) (Ti:Bool) (A_:Int) (Q_:Int) (G_:Int) (w_:Int) (aac:Int) (aad:Int) (P_:Int) (aaP:List (AK)) (r62:Am) (l73:List (Am)) (ali:Int) (afY:List (Al)):Option (Ai×Int):=
 some ((⟨afY,l73,r2.Td,r2.aet,aaP,r2.abm,r2.ad0,aaa,R_,aab,Ti,A_,Q_,Aa (G_+1),Aa (w_+1),aac,r2.Extra,aad,P_⟩:Ai),r62.Id)
def ej (a2:Int) (a4:Bool) (r2:Ai) (o_:List (Am)) (c_:Int) (a_:List (Al)) (aaa:Int) (R_:Int) (aab:Int) (Ti:Bool) (A_:Int) (Q_:Int) (G_:Int) (w_:Int) (aac:Int) (aad:Int) (P_:Int) (aaP:List (AK)) (r62:Am) (ah9:Int):Option (Ai×Int):=
 (k_ (0<=ah9/\ah9<=((o_.length:Nat):Int)/\((o_.length:Nat):Int)<=((o_.length:Nat):Int)/\((o_.length:Nat):Int)<=((o_.length:Nat):Int))).bind fun u70=>
 (if((([r62]:List (Am)).length :Int)==0) then
  none
 else if(ah9==(o_.length:Int)) then
  (app 128 o_ ([r62]:List (Am))).bind fun l73=>
  jn (fun(v:Int×(List (Al)))=>eh r2 aaa R_ aab Ti A_ Q_ G_ w_ aac aad P_ aaP r62 l73 v.1 v.2) (fun amJ=>
  (if a2==0 then
   none
  else if a2==4 then
   none
  else
   (some (if decide (r62.y_<0) then true else decide ((a_.length:Int)<=r62.y_))).bind fun b79=>
   (if b79 then
    none
   else
    (idx a_ r62.y_).bind fun e81=>
    (if a2==1 then
     (if true then
      (some (if a2==2 then !a4 else false)).bind fun b84=>
      (if b84 then
       (idx a_ r62.y_).bind fun e86=>
       (k_ (r62.y_<c_)).bind fun u87=>
       (k_ (0<=(0:Int)/\(0:Int)<=((e86.Hand.length:Nat):Int)/\0<([r62.Id]:List (Int)).length /\(e86.Hand.length+([r62.Id]:List (Int)).length)*8<=140737488355328)).bind fun u88=>
       (idx a_ r62.y_).bind fun e89=>
       (k_ (r62.y_<c_)).bind fun u90=>
       (k_ (r62.y_=r62.y_)).bind fun u91=>
       (some (a_.set (r62.y_).toNat ({e89 with Hand:=(e86.Hand.take (0:Int).toNat ++(([r62.Id]:List (Int))++e86.Hand.drop (0:Int).toNat))}))).bind fun l92=>
       amJ (c_,l92)
      else
       (idx a_ r62.y_).bind fun e93=>
       (k_ (r62.y_<c_)).bind fun u94=>
       (app 8 e93.Hand ([r62.Id]:List (Int))).bind fun l95=>
       (idx a_ r62.y_).bind fun e96=>
       (k_ (r62.y_<c_)).bind fun u97=>
       (k_ (r62.y_=r62.y_)).bind fun u98=>
       (some (a_.set (r62.y_).toNat ({e96 with Hand:=l95}))).bind fun l99=>
       amJ (c_,l99))
     else
      amJ (c_,a_))
    else if a2==2 then
     (if true then
      (some (if a2==2 then !a4 else false)).bind fun aAW=>
      (if aAW then
       (idx a_ r62.y_).bind fun apZ=>
       (k_ (r62.y_<c_)).bind fun aFe=>
       (k_ (0<=(0:Int)/\(0:Int)<=((apZ.S_.length:Nat):Int)/\0<([r62.Id]:List (Int)).length /\(apZ.S_.length+([r62.Id]:List (Int)).length)*8<=140737488355328)).bind fun aFd=>
       (idx a_ r62.y_).bind fun aAk=>
       (k_ (r62.y_<c_)).bind fun aFc=>
       (k_ (r62.y_=r62.y_)).bind fun aFb=>
       (some (a_.set (r62.y_).toNat ({aAk with S_:=(apZ.S_.take (0:Int).toNat ++(([r62.Id]:List (Int))++apZ.S_.drop (0:Int).toNat))}))).bind fun ayO=>
       amJ (c_,ayO)
      else
       (idx a_ r62.y_).bind fun aop=>
       (k_ (r62.y_<c_)).bind fun aFa=>
       (app 8 aop.S_ ([r62.Id]:List (Int))).bind fun ayL=>
       (idx a_ r62.y_).bind fun aAj=>
       (k_ (r62.y_<c_)).bind fun axH=>
       (k_ (r62.y_=r62.y_)).bind fun axG=>
       (some (a_.set (r62.y_).toNat ({aAj with S_:=ayL}))).bind fun ayK=>
       amJ (c_,ayK))
     else
      amJ (c_,a_))
    else if a2==3 then
     none
    else
     none))))
 else
  none)
def ek (a2:Int) (a4:Bool) (r2:Ai) (o_:List (Am)) (c_:Int) (a_:List (Al)) (aaa:Int) (R_:Int) (aab:Int) (Ti:Bool) (A_:Int) (Q_:Int) (G_:Int) (w_:Int) (aac:Int) (aad:Int) (P_:Int) (aaP:List (AK)) (r62:Am) (alT:Int):Option (Ai×Int):=
 jn (fun(v:Int)=>ej a2 a4 r2 o_ c_ a_ aaa R_ aab Ti A_ Q_ G_ w_ aac aad P_ aaP r62 v) (fun auo=>
 (if decide (alT<0) then
  auo (o_.length:Int)
 else
  auo alT))
def ct (aly:(Int)->Option (Ai×Int)):Option (Ai×Int):=
 aly (-1:Int)
def cw (o_:List (Am)) (r62:Am) (abd:Int):Option ((Int)⊕(Unit⊕Int)):=
 (if(decide (abd<(o_.length:Int))) then
  (idx o_ abd).bind fun alJ=>
  (idx o_ abd).bind fun aAi=>
  (if decide (r62.Id<aAi.Id) then
   some (.inr (.inr abd))
  else
   some (.inl (Aa (abd+1))))
 else
  some (.inr (.inl ())))
def em (a2:Int) (a4:Bool) (r2:Ai) (o_:List (Am)) (c_:Int) (a_:List (Al)) (aaa:Int) (R_:Int) (aab:Int) (Ti:Bool) (A_:Int) (Q_:Int) (G_:Int) (w_:Int) (aac:Int) (aad:Int) (P_:Int) (aaP:List (AK)) (r62:Am) (aiM:Int):Option (Ai×Int):=
 (if decide (0<=aiM) then
  none
 else
  jn (fun(v:Int)=>ek a2 a4 r2 o_ c_ a_ aaa R_ aab Ti A_ Q_ G_ w_ aac aad P_ aaP r62 v) (fun aly=>
  jn (fun(v:Unit)=>ct aly) (fun auB=>
  (iter (fun(v:Int)=>cw o_ r62 v) FU (0:Int)).bind (Sum.elim (fun o0=>auB ()) (fun o1=>aly o1)))))
def cx (apE:(Int)->Option (Ai×Int)):Option (Ai×Int):=
 apE (-1:Int)
def cy (o_:List (Am)) (r62:Am) (abc:Int):Option ((Int)⊕(Unit⊕Int)):=
 (if(decide (abc<(o_.length:Int))) then
  (idx o_ abc).bind fun aHY=>
  (idx o_ abc).bind fun aAh=>
  (if aAh.Id==r62.Id then
   some (.inr (.inr abc))
  else
   some (.inl (Aa (abc+1))))
 else
  some (.inr (.inl ())))
def ep (a2:Int) (a3:Int) (a4:Bool) (r1:Am×Bool) (r2:Ai) (o_:List (Am)) (c_:Int) (a_:List (Al)) (aaa:Int) (R_:Int) (aab:Int) (Ti:Bool) (A_:Int) (Q_:Int) (G_:Int) (w_:Int) (aac:Int) (aad:Int) (P_:Int) (aaP:List (AK)) (atr:Int) (aqX:Int) (ats:Int) (asz:Bool) (aoU:Int) (aqV:Int) (aqW:Int) (aow:Int) (att:Int) (atu:Int) (aqU:Int):Option (Ai×Int):=
 (some (if r1.1.Token then a2 != 0 else false)).bind fun b59=>
 (some (if b59 then a2 != 5 else false)).bind fun b60=>
 (if b60 then
  none
 else
  (Uf r1.1 G_ a2 a3 w_).bind fun r62=>
  jn (fun(v:Int)=>em a2 a4 r2 o_ c_ a_ aaa R_ aab Ti A_ Q_ G_ w_ aac aad P_ aaP r62 v) (fun apE=>
  jn (fun(v:Unit)=>cx apE) (fun auA=>
  (iter (fun(v:Int)=>cy o_ r62 v) FU (0:Int)).bind (Sum.elim (fun o0=>auA ()) (fun o1=>apE o1)))))
def cz (aaO:Int) (U_:Int) (aav:Int) (aag:Bool) (K_:Int) (Tz:Int) (T_:Int) (C_:Int) (aaw:Int) (aax:Int) (Tw:Int) (abI:Int) (aaN:Int) (abJ:Int) (abg:Bool) (aaf:Int) (aaL:Int) (aaM:Int) (Tv:Int) (abK:Int) (abL:Int) (aaK:Int) (amK:(Int×Int×Int×Bool×Int×Int×Int×Int×Int×Int×Int×(List (AK))×Int×Int×Int×Bool×Int×Int×Int×Int×Int×Int×Int)->Option (Ai×Int)) (aaV:Int) (Tp:List (AK)):Option (Ai×Int):=
 (k_ (0<=aaV/\aaV<=((Tp.length:Nat):Int)/\((Tp.length:Nat):Int)<=((Tp.length:Nat):Int)/\0<Tp.length)).bind fun aE7=>
 (k_ (aaV+(((Tp.length:Nat):Int) - aaV)<=((Tp.length:Nat):Int)/\0<Tp.length)).bind fun aE6=>
 (some (Tp.take aaV.toNat++(List.replicate (((Tp.length:Nat):Int) - aaV).toNat (⟨0,0,0,0,0,false,(⟨0,(⟨0,0,0,0,0,0,0,[],0,0,(⟨0,0⟩:Ac),(⟨0,0⟩:Ac),(⟨0,0⟩:Ac)⟩:Ag),([]:List (AZ)),(⟨(⟨0,0,(⟨0,0,0,0,0⟩:A5 (Int))⟩:Az),false,false,0⟩:BX),false,(⟨0,0,(⟨0,0,0,0,0,0,0,[],0,0,(⟨0,0⟩:Ac),(⟨0,0⟩:Ac),(⟨0,0⟩:Ac)⟩:Ag)⟩:AY),false,([]:List (Da)),([]:List (Av)),(⟨0,0,(⟨0,0,0,0,0,0,0,[],0,0,(⟨0,0⟩:Ac),(⟨0,0⟩:Ac),(⟨0,0⟩:Ac)⟩:Ag),0,0,0,0⟩:Au)⟩:AE),([]:List (EZ)),(⟨0,0,0,0,0,0,0,0,0,0,false,false,(⟨0,0,0⟩:A3 (Int))⟩:kn)⟩:AK)++Tp.drop (aaV.toNat+(((Tp.length:Nat):Int) - aaV).toNat)))).bind fun anK=>
 (k_ (0<=(0:Int)/\0<=aaV/\aaV<=((anK.length:Nat):Int)/\0<anK.length)).bind fun aE5=>
 (k_ ((0:Int)=0/\(aaV - 0)<=((anK.length:Nat):Int)/\0<anK.length)).bind fun axF=>
 amK (aaO,U_,aav,aag,K_,Tz,T_,C_,aaw,aax,Tw,(anK.take (aaV - 0).toNat),abI,aaN,abJ,abg,aaf,aaL,aaM,Tv,abK,abL,aaK)
def cA (acZ:Int) (anw:Int) (aj5:List (AK)):Option ((Int×Int×(List (AK)))⊕((Int×(List (AK))))):=
 some (.inl (anw,(Aa (acZ+1)),aj5))
def cB (r1:Am×Bool) (adQ:Int) (acZ:Int) (aaJ:List (AK)):Option ((Int×Int×(List (AK)))⊕((Int×(List (AK))))):=
 (if(decide (acZ<(aaJ.length:Int))) then
  jn (fun(v:Int×(List (AK)))=>cA acZ v.1 v.2) (fun aqs=>
  (idx aaJ acZ).bind fun asw=>
  (idx aaJ acZ).bind fun asv=>
  (some (if asv.Id==r1.1.Id then asv.Kind==1 else false)).bind fun aAR=>
  (if !aAR then
   (idx aaJ adQ).bind fun aHW=>
   (idx aaJ adQ).bind fun aHV=>
   (some (aaJ.set (adQ).toNat asv)).bind fun ayD=>
   aqs ((Aa (adQ+1)),ayD)
  else
   aqs (adQ,aaJ)))
 else
  some (.inr (adQ,aaJ)))
def cC (r1:Am×Bool) (r2:Ai) (aaO:Int) (U_:Int) (aav:Int) (aag:Bool) (K_:Int) (Tz:Int) (T_:Int) (C_:Int) (aaw:Int) (aax:Int) (Tw:Int) (abI:Int) (aaN:Int) (abJ:Int) (abg:Bool) (aaf:Int) (aaL:Int) (aaM:Int) (Tv:Int) (abK:Int) (abL:Int) (aaK:Int) (amK:(Int×Int×Int×Bool×Int×Int×Int×Int×Int×Int×Int×(List (AK))×Int×Int×Int×Bool×Int×Int×Int×Int×Int×Int×Int)->Option (Ai×Int)) (ahN:Int):Option (Ai×Int):=
 (if(ahN==(-1:Int)) then
  amK (aaO,U_,aav,aag,K_,Tz,T_,C_,aaw,aax,Tw,r2.Stack,abI,aaN,abJ,abg,aaf,aaL,aaM,Tv,abK,abL,aaK)
 else
  jn (fun(v:Int×(List (AK)))=>cz aaO U_ aav aag K_ Tz T_ C_ aaw aax Tw abI aaN abJ abg aaf aaL aaM Tv abK abL aaK amK v.1 v.2) (fun auz=>
  (iter (fun(v:Int×Int×(List (AK)))=>cB r1 v.1 v.2.1 v.2.2) FU (ahN,(Aa (ahN+1)),r2.Stack)).bind (fun o0=>auz (o0.1,o0.2))))
def cD (al5:(Int)->Option (Ai×Int)):Option (Ai×Int):=
 al5 (-1:Int)
def cE (r1:Am×Bool) (r2:Ai) (abb:Int):Option ((Int)⊕(Unit⊕Int)):=
 (if(decide (abb<(r2.Stack.length:Int))) then
  (idx r2.Stack abb).bind fun aHU=>
  (idx r2.Stack abb).bind fun amT=>
  (some (if amT.Id==r1.1.Id then amT.Kind==1 else false)).bind fun aAQ=>
  (if aAQ then
   some (.inr (.inr abb))
  else
   some (.inl (Aa (abb+1))))
 else
  some (.inr (.inl ())))
def eu (a2:Int) (a3:Int) (a4:Bool) (r1:Am×Bool) (r2:Ai) (o_:List (Am)) (aaO:Int) (U_:Int) (aav:Int) (aag:Bool) (K_:Int) (Tz:Int) (T_:Int) (C_:Int) (aaw:Int) (aax:Int) (Tw:Int) (abI:Int) (aaN:Int) (abJ:Int) (abg:Bool) (aaf:Int) (aaL:Int) (aaM:Int) (Tv:Int) (abK:Int) (abL:Int) (aaK:Int) (c_:Int) (a_:List (Al)):Option (Ai×Int):=
 jn (fun(v:Int×Int×Int×Bool×Int×Int×Int×Int×Int×Int×Int×(List (AK))×Int×Int×Int×Bool×Int×Int×Int×Int×Int×Int×Int)=>ep a2 a3 a4 r1 r2 o_ c_ a_ v.1 v.2.1 v.2.2.1 v.2.2.2.1 v.2.2.2.2.1 v.2.2.2.2.2.1 v.2.2.2.2.2.2.1 v.2.2.2.2.2.2.2.1 v.2.2.2.2.2.2.2.2.1 v.2.2.2.2.2.2.2.2.2.1 v.2.2.2.2.2.2.2.2.2.2.1 v.2.2.2.2.2.2.2.2.2.2.2.1 v.2.2.2.2.2.2.2.2.2.2.2.2.1 v.2.2.2.2.2.2.2.2.2.2.2.2.2.1 v.2.2.2.2.2.2.2.2.2.2.2.2.2.2.1 v.2.2.2.2.2.2.2.2.2.2.2.2.2.2.2.1 v.2.2.2.2.2.2.2.2.2.2.2.2.2.2.2.2.1 v.2.2.2.2.2.2.2.2.2.2.2.2.2.2.2.2.2.1 v.2.2.2.2.2.2.2.2.2.2.2.2.2.2.2.2.2.2.1 v.2.2.2.2.2.2.2.2.2.2.2.2.2.2.2.2.2.2.2.1 v.2.2.2.2.2.2.2.2.2.2.2.2.2.2.2.2.2.2.2.2.1 v.2.2.2.2.2.2.2.2.2.2.2.2.2.2.2.2.2.2.2.2.2.1 v.2.2.2.2.2.2.2.2.2.2.2.2.2.2.2.2.2.2.2.2.2.2) (fun amK=>
 jn (fun(v:Int)=>cC r1 r2 aaO U_ aav aag K_ Tz T_ C_ aaw aax Tw abI aaN abJ abg aaf aaL aaM Tv abK abL aaK amK v) (fun al5=>
 jn (fun(v:Unit)=>cD al5) (fun anW=>
 (iter (fun(v:Int)=>cE r1 r2 v) FU (0:Int)).bind (Sum.elim (fun o0=>anW ()) (fun o1=>al5 o1)))))
def ew (a2:Int) (a3:Int) (a4:Bool) (r1:Am×Bool) (r2:Ai) (o_:List (Am)) (aaO:Int) (U_:Int) (aav:Int) (aag:Bool) (K_:Int) (Tz:Int) (T_:Int) (C_:Int) (aaw:Int) (aax:Int) (Tw:Int) (abI:Int) (aaN:Int) (abJ:Int) (abg:Bool) (aaf:Int) (aaL:Int) (aaM:Int) (Tv:Int) (abK:Int) (abL:Int) (aaK:Int):Option (Ai×Int):=
 jn (fun(v:Int×(List (Al)))=>eu a2 a3 a4 r1 r2 o_ aaO U_ aav aag K_ Tz T_ C_ aaw aax Tw abI aaN abJ abg aaf aaL aaM Tv abK abL aaK v.1 v.2) (fun apG=>
 (if r1.1.AT==0 then
  none
 else if r1.1.AT==4 then
  none
 else
  (some (if decide (r1.1.y_<0) then true else decide ((r2.g_.length:Int)<=r1.1.y_))).bind fun aAP=>
  (if aAP then
   none
  else
   (idx r2.g_ r1.1.y_).bind fun avG=>
   (if r1.1.AT==1 then
    (if true then
     (idx r2.g_ r1.1.y_).bind fun aAd=>
     (k_ (r1.1.y_<((r2.g_.length:Nat):Int))).bind fun aE2=>
     (LU aAd.Hand r1.1.Id).bind fun ax3=>
     (idx r2.g_ r1.1.y_).bind fun aAc=>
     (k_ (r1.1.y_<((r2.g_.length:Nat):Int))).bind fun aE1=>
     (k_ (r1.1.y_=r1.1.y_)).bind fun aE0=>
     (some (r2.g_.set (r1.1.y_).toNat ({aAc with Hand:=ax3}))).bind fun ayx=>
     apG (((r2.g_.length:Nat):Int),ayx)
    else
     apG (((r2.g_.length:Nat):Int),r2.g_))
   else if r1.1.AT==2 then
    (if true then
     (idx r2.g_ r1.1.y_).bind fun aAb=>
     (k_ (r1.1.y_<((r2.g_.length:Nat):Int))).bind fun aEZ=>
     (LU aAb.S_ r1.1.Id).bind fun ax2=>
     (idx r2.g_ r1.1.y_).bind fun aAa=>
     (k_ (r1.1.y_<((r2.g_.length:Nat):Int))).bind fun aEX=>
     (k_ (r1.1.y_=r1.1.y_)).bind fun aEW=>
     (some (r2.g_.set (r1.1.y_).toNat ({aAa with S_:=ax2}))).bind fun ayw=>
     apG (((r2.g_.length:Nat):Int),ayw)
    else
     apG (((r2.g_.length:Nat):Int),r2.g_))
   else if r1.1.AT==3 then
    none
   else
    none))))
def li (a2:Int) (a3:Int) (a4:Bool) (r1:Am×Bool) (r2:Ai) (bk:Int):Option (Ai×Int):=
 jn (fun(v:(List (Am))×Int×Int×Int×Bool×Int×Int×Int×Int×Int×Int×Int×Int×Int×Int×Bool×Int×Int×Int×Int×Int×Int×Int)=>ew a2 a3 a4 r1 r2 v.1 v.2.1 v.2.2.1 v.2.2.2.1 v.2.2.2.2.1 v.2.2.2.2.2.1 v.2.2.2.2.2.2.1 v.2.2.2.2.2.2.2.1 v.2.2.2.2.2.2.2.2.1 v.2.2.2.2.2.2.2.2.2.1 v.2.2.2.2.2.2.2.2.2.2.1 v.2.2.2.2.2.2.2.2.2.2.2.1 v.2.2.2.2.2.2.2.2.2.2.2.2.1 v.2.2.2.2.2.2.2.2.2.2.2.2.2.1 v.2.2.2.2.2.2.2.2.2.2.2.2.2.2.1 v.2.2.2.2.2.2.2.2.2.2.2.2.2.2.2.1 v.2.2.2.2.2.2.2.2.2.2.2.2.2.2.2.2.1 v.2.2.2.2.2.2.2.2.2.2.2.2.2.2.2.2.2.1 v.2.2.2.2.2.2.2.2.2.2.2.2.2.2.2.2.2.2.1 v.2.2.2.2.2.2.2.2.2.2.2.2.2.2.2.2.2.2.2.1 v.2.2.2.2.2.2.2.2.2.2.2.2.2.2.2.2.2.2.2.2.1 v.2.2.2.2.2.2.2.2.2.2.2.2.2.2.2.2.2.2.2.2.2.1 v.2.2.2.2.2.2.2.2.2.2.2.2.2.2.2.2.2.2.2.2.2.2) (fun auv=>
 (k_ (0<=bk/\bk<=(Aa (bk+1))/\(Aa (bk+1))<=(r2.d_.length:Int)/\(r2.d_.length:Int)<=((r2.d_.length:Nat):Int))).bind fun aEV=>
 (if bk==(Aa (bk+1)) then
  auv (r2.d_,r2.aaT,r2.abi,r2.Step,r2.adC,r2.Priority,r2.Passes,r2.ab2,r2.aaj,r2.adt,r2.ahi,r2.ack,r2.aaT,r2.abi,r2.Step,r2.adC,r2.Priority,r2.Passes,r2.ab2,r2.aaj,r2.adt,r2.ahi,r2.ack)
 else
  (k_ (0<=(0:Int)/\0<=bk/\bk<=((r2.d_.length:Nat):Int)/\0<r2.d_.length)).bind fun aEU=>
  (k_ (0<=(Aa (bk+1))/\(Aa (bk+1))<=((r2.d_.length:Nat):Int)/\((r2.d_.length:Nat):Int)<=((r2.d_.length:Nat):Int)/\0<r2.d_.length)).bind fun aET=>
  (k_ ((0:Int)=0/\(bk - 0)+(((r2.d_.length:Nat):Int) - (Aa (bk+1)))<=((r2.d_.length:Nat):Int)/\(Aa (bk+1))+(((r2.d_.length:Nat):Int) - (Aa (bk+1)))<=((r2.d_.length:Nat):Int)/\0<r2.d_.length)).bind fun aES=>
  (some (r2.d_.take (bk - 0).toNat ++((r2.d_.drop (Aa (bk+1)).toNat).take (((r2.d_.length:Nat):Int) - (Aa (bk+1))).toNat ++r2.d_.drop ((bk - 0).toNat +(((r2.d_.length:Nat):Int) - (Aa (bk+1))).toNat)))).bind fun aj6=>
  (k_ ((0:Int)=0/\0<=((((bk - 0)+(((r2.d_.length:Nat):Int) - (Aa (bk+1)))).toNat :Nat):Int)/\((((bk - 0)+(((r2.d_.length:Nat):Int) - (Aa (bk+1)))).toNat :Nat):Int)<=(r2.d_.length:Int)/\(r2.d_.length:Int)<=((aj6.length:Nat):Int)/\0<aj6.length)).bind fun aER=>
  (k_ (((((bk - 0)+(((r2.d_.length:Nat):Int) - (Aa (bk+1)))).toNat :Nat):Int)+((r2.d_.length:Int) - ((((bk - 0)+(((r2.d_.length:Nat):Int) - (Aa (bk+1)))).toNat :Nat):Int))<=((aj6.length:Nat):Int)/\0<aj6.length)).bind fun aEQ=>
  (some (aj6.take ((((bk - 0)+(((r2.d_.length:Nat):Int) - (Aa (bk+1)))).toNat :Nat):Int).toNat ++(List.replicate ((r2.d_.length:Int) - ((((bk - 0)+(((r2.d_.length:Nat):Int) - (Aa (bk+1)))).toNat :Nat):Int)).toNat (⟨0,0,0,0,0,false,false,false,false,0,(⟨0,0,0⟩:A3 (Int)),0,0,0,false,0,0⟩:Am)++aj6.drop (((((bk - 0)+(((r2.d_.length:Nat):Int) - (Aa (bk+1)))).toNat :Nat):Int).toNat +((r2.d_.length:Int) - ((((bk - 0)+(((r2.d_.length:Nat):Int) - (Aa (bk+1)))).toNat :Nat):Int)).toNat)))).bind fun arP=>
  (k_ ((0:Int)=0/\((bk - 0)+(((r2.d_.length:Nat):Int) - (Aa (bk+1))))<=((arP.length:Nat):Int)/\0<arP.length)).bind fun aEP=>
  auv ((arP.take ((bk - 0)+(((r2.d_.length:Nat):Int) - (Aa (bk+1)))).toNat),r2.aaT,r2.abi,r2.Step,r2.adC,r2.Priority,r2.Passes,r2.ab2,r2.aaj,r2.adt,r2.ahi,r2.ack,r2.aaT,r2.abi,r2.Step,r2.adC,r2.Priority,r2.Passes,r2.ab2,r2.aaj,r2.adt,r2.ahi,r2.ack)))
def cF (jJ7:(Int)->Option (Ai×Int)):Option (Ai×Int):=
 jJ7 (-1:Int)
def cG (r1:Am×Bool) (r2:Ai) (aba:Int):Option ((Int)⊕(Unit⊕Int)):=
 (if(decide (aba<(r2.d_.length:Int))) then
  (idx r2.d_ aba).bind fun aHS=>
  (idx r2.d_ aba).bind fun az9=>
  (if az9.Id==r1.1.Id then
   some (.inr (.inr aba))
  else
   some (.inl (Aa (aba+1))))
 else
  some (.inr (.inl ())))
def Wb (a0:Ai) (a1:Int) (a2:Int) (a3:Int) (a4:Bool):Option (Ai×Int):=
 (iE a0 a1).bind fun r1=>
 (Qt a0).bind fun r2=>
 (some (if !r1.2 then true else decide (a2<0))).bind fun b3=>
 (some (if b3 then true else decide (5<a2))).bind fun b4=>
 (if b4 then
  none
 else
  jn (fun(v:Int)=>li a2 a3 a4 r1 r2 v) (fun jJ7=>
  jn (fun(v:Unit)=>cF jJ7) (fun auy=>
  (iter (fun(v:Int)=>cG r1 r2 v) FU (0:Int)).bind (Sum.elim (fun o0=>auy ()) (fun o1=>jJ7 o1)))))
def XD:Bb:=mC [o6,PB,X5,bZ,My] 77 Tryz.f77 (.s .n (.s .n (.s (.r [] [] (.q 1 .co .n)) (.s (.s .n (.i .x .n)) (.s (.r [] [] (.c 2 (.s (.r [] [] (.g 0 (.ug [2,3,4,5,10,12,37]) .n)) (.s (.r [] [] (.c 3 (.s (.r [] [] (.g 0 (.ug [2,3,4,10]) .n)) (.s (.r [] [] (.j 3 ⟨[],[Bd 8],[[2,37],[1,0,23],[2,0,23],[3,0,23],[3,37],[4,0,23],[4,37],[5],[5,0,23],[6,0,23],[10],[12],[16,0,23],[1000003,0,0,23]],[]⟩ (.s (.r [] [] (.g 0 (.ug [8]) .n)) (.j ⟨[],[],[[2,37],[1,0,23],[2,0,23],[3,0,23],[3,37],[4,0,23],[4,37],[5],[5,0,23],[6,0,23],[10],[12],[16,0,23],[1000003,0,0,23]],[]⟩ (.s .n (.l ⟨[0,1,7],[Bd 8],[[1,0,23],[2,37],[2,0,23],[3,0,23],[3,10,37],[3,37],[4,0,23],[4,37],[5],[5,0,23],[6,0,23],[10],[12],[16,0,23],[1000003,0,0,23]],[]⟩ [(1,⟨[],[],[[2,37],[1,0,23],[2,0,23],[3,0,23],[3,37],[4,0,23],[4,37],[5],[5,0,23],[6,0,23],[10],[12],[16,0,23],[1000003,0,0,23]],[]⟩),(0,⟨[],[Bd 4],[[2,37],[1,0,23],[2,0,23],[3,0,23],[3,37],[4,0,23],[4,37],[5],[5,0,23],[6,0,23],[10],[12],[16,0,23],[1000003,0,0,23]],[]⟩)] (.s .n (.s .n (.s (.s .n (.s (.r [] [] (.c 5 (.s (.r [] [] (.g 0 (.ug [0,1,5,7,8,16]) .n)) .n) .n)) .n)) .n))))) .n)) .n)) .n)) .n)) (.s (.r [] [] (.j 5 ⟨[2,3,4],[(16, .c (.c (.e_ [1,0,23])))],[[2,0,23],[3,0,23],[3,37],[4,0,23],[4,37],[5,0,23],[6,0,23],[10],[12],[16,0,23],[1000003,0,0,23]],[([1,0,23], .row 70),([2,37], .box [.c (.e_ [1000003,0,0,23]), .c (.any), .c (.e_ [2,0,23]), .c (.e_ [3,0,23]), .c (.e_ [4,0,23]), .c (.e_ [5,0,23]), .c (.e_ [6,0,23]),AF,AF,AF,Lk,AF,AF,AF,AF, .v (.k (.int .u64)), .c (.e_ [16,0,23]),AF,AF]),([5], .box [.c (.e_ [1000003,0,0,23]), .c (.any), .c (.e_ [2,0,23]), .c (.e_ [3,0,23]), .c (.e_ [4,0,23]), .c (.e_ [5,0,23]), .c (.e_ [6,0,23]),AF,AF,AF,Lk,AF,AF,AF,AF, .v (.k (.int .u64)), .c (.e_ [16,0,23]),AF,AF])]⟩ (.s (.r [] [] (.g 0 (.ug [2,3,4,16]) .n)) (.s (.r [] [] (.q 5 (.sub false) .n)) (.s .n (.s .n (.s (.r [] [] (.t (.q 2 (.sub true) (.q 5 (.sub true) (.q 6 .apb .n))))) (.s (.r [] [] (.q 4 (.sub true) (.q 5 .clr .n))) (.s (.r [] [] (.g 1 (.tr 32) .n)) .n))))))) .n)) (.j ⟨[2,3,4],[],[[2,37],[1,0,23],[2,0,23],[3,0,23],[3,37],[4,0,23],[4,37],[5],[5,0,23],[6,0,23],[10],[12],[16,0,23]],[([1000003,0,0,23], .deep 61)]⟩ (.s (.r [] [] (.c 4 (.s (.r [] [] (.g 0 (.ug [2,3,4,22]) .n)) (.s (.s .n (.s .n (.i .x (.s .n (.i .x .n))))) (.s (.s .n (.i .x .n)) (.s .n (.s (.s .n (.s .n (.i .n (.s .n (.i .n (.s .n (.i .x .n))))))) .x))))) .n)) (.s .n (.i (.r [] [] (.t (.q 3 .au (.q 6 .co (.q 8 .au .n))))) .n))) (.s (.r [] [] (.j 3 ⟨[2,4],[(36, .c (.c (.e_ [4,0,23])))],[[1,0,23],[2,0,23],[3,0,23],[4,37],[5,0,23],[6,0,23],[10],[12],[16,0,23],[1000003,0,0,23]],[([2,37], .box [.c (.e_ [1000003,0,0,23]), .c (.e_ [1,0,23]), .c (.e_ [2,0,23]), .c (.e_ [3,0,23]), .c (.any), .c (.e_ [5,0,23]), .c (.e_ [6,0,23]),AF,AF,AF,Lk,AF,AF,AF,AF, .v (.k (.int .u64)), .c (.e_ [16,0,23]),AF,AF]),([4,0,23], .row 126),([5], .box [.c (.e_ [1000003,0,0,23]), .c (.any), .c (.e_ [2,0,23]), .c (.e_ [3,0,23]), .c (.any), .c (.e_ [5,0,23]), .c (.e_ [6,0,23]),AF,AF,AF,Lk,AF,AF,AF,AF, .v (.k (.int .u64)), .c (.e_ [16,0,23]),AF,AF])]⟩ (.s (.r [] [] (.g 0 (.ug [2,4,36]) .n)) (.s (.r [] [] (.j 2 ⟨[0,1],[Bd 10],[[2,37],[1,0,23],[2,0,23],[3,0,23],[3,37],[4,0,23],[4,37],[5],[5,0,23],[6,0,23],[10],[12],[16,0,23],[1000003,0,0,23]],[]⟩ (.s (.r [] [] (.g 0 (.ug [0,1,10]) .n)) (.j ⟨[],[],[[2,37],[1,0,23],[2,0,23],[3,0,23],[3,37],[4,0,23],[4,37],[5],[5,0,23],[6,0,23],[10],[12],[16,0,23],[1000003,0,0,23]],[]⟩ (.s .n (.l ⟨[0,1,7],[Bd 8],[[2,37],[1,0,23],[2,0,23],[3,0,23],[3,37],[4,0,23],[4,37],[5],[5,0,23],[6,0,23],[10],[12],[16,0,23],[1000003,0,0,23]],[]⟩ [(1,⟨[],[],[[2,37],[1,0,23],[2,0,23],[3,0,23],[3,37],[4,0,23],[4,37],[5],[5,0,23],[6,0,23],[10],[12],[16,0,23],[1000003,0,0,23]],[]⟩),(0,⟨[],[Bd 4],[[2,37],[1,0,23],[2,0,23],[3,0,23],[3,37],[4,0,23],[4,37],[5],[5,0,23],[6,0,23],[10],[12],[16,0,23],[1000003,0,0,23]],[]⟩)] (.s .n (.s .n (.s (.s .n (.s (.r [] [] (.c 5 (.s (.r [] [] (.g 0 (.ug [0,1,5,7,8,16]) .n)) .n) .n)) .n)) .n))))) .n)) .n)) (.s .n (.j ⟨[0],[Bd 5],[[2,37],[1,0,23],[2,0,23],[3,0,23],[4,37],[5],[5,0,23],[6,0,23],[10],[12],[16,0,23],[1000003,0,0,23]],[([4,0,23], .row 126)]⟩ (.s .n (.l ⟨[0,1],[Bd 5,Bd 6],[[2,37],[1,0,23],[2,0,23],[3,0,23],[3,37],[4,37],[5],[5,0,23],[6,0,23],[10],[12],[16,0,23],[1000003,0,0,23]],[([4,0,23], .row 126)]⟩ [(1,⟨[0],[Bd 5],[[2,37],[1,0,23],[2,0,23],[3,0,23],[4,37],[5],[5,0,23],[6,0,23],[10],[12],[16,0,23],[1000003,0,0,23]],[([4,0,23], .row 126)]⟩)] (.s .n (.j ⟨[0,1,6],[Bd 5],[[2,37],[1,0,23],[2,0,23],[3,0,23],[3,37],[4,37],[5],[5,0,23],[6,0,23],[10],[12],[16,0,23],[1000003,0,0,23]],[([4,0,23], .row 126)]⟩ (.s .n (.s (.r [] [] (.c 2 (.s (.r [] [] (.g 0 (.ug [0,1,5,6,7,28]) .n)) .n) .n)) .n)) .n)))) (.s (.r [] [] (.q 2 (.sub true) (.q 3 .clr .n))) (.s (.r [] [] (.q 2 (.sub true) (.g 3 (.tr 41) .n))) .n)))))) .n)) .n))))) .n)) (.s (.s .n (.i .x .n)) (.s .n (.s (.r [] [] (.c 2 (.s (.r [] [] (.g 0 (.ug [2,4,5,10,14,59]) .n)) (.s (.s (.r [] [] (.c 3 (.s (.r [] [] (.g 0 (.ug [2,3,4,10]) .n)) (.s (.r [] [] (.j 3 ⟨[],[Bd 8],[[2,59],[1,0,23],[2,0,23],[3,0,23],[3,59],[4,0,23],[4,59],[5],[5,0,23],[6,0,23],[10],[14],[16,0,23],[1000003,0,0,23]],[]⟩ (.s (.r [] [] (.g 0 (.ug [8]) .n)) (.j ⟨[],[],[[2,59],[1,0,23],[2,0,23],[3,0,23],[3,59],[4,0,23],[4,59],[5],[5,0,23],[6,0,23],[10],[14],[16,0,23],[1000003,0,0,23]],[]⟩ (.s .n (.l ⟨[0,1,7],[Bd 8],[[1,0,23],[2,59],[2,0,23],[3,0,23],[3,10,59],[3,59],[4,0,23],[4,59],[5],[5,0,23],[6,0,23],[10],[14],[16,0,23],[1000003,0,0,23]],[]⟩ [(1,⟨[],[],[[2,59],[1,0,23],[2,0,23],[3,0,23],[3,59],[4,0,23],[4,59],[5],[5,0,23],[6,0,23],[10],[14],[16,0,23],[1000003,0,0,23]],[]⟩),(0,⟨[],[Bd 4],[[2,59],[1,0,23],[2,0,23],[3,0,23],[3,59],[4,0,23],[4,59],[5],[5,0,23],[6,0,23],[10],[14],[16,0,23],[1000003,0,0,23]],[]⟩)] (.s .n (.s .n (.s (.s .n (.s (.r [] [] (.c 5 (.s (.r [] [] (.g 0 (.ug [0,1,5,7,8,16]) .n)) .n) .n)) .n)) .n))))) .n)) .n)) .n)) .n)) (.s .n (.i .x .n))) (.s (.r [] [] (.j 3 ⟨[2,3,4],[Bd 22],[[2,59],[1,0,23],[2,0,23],[3,0,23],[3,59],[4,0,23],[4,59],[5],[5,0,23],[6,0,23],[10],[14],[16,0,23],[1000003,0,0,23]],[]⟩ (.s (.r [] [] (.g 0 (.ug [2,3,4,22]) .n)) (.j ⟨[],[],[[2,59],[1,0,23],[2,0,23],[3,0,23],[3,59],[4,0,23],[4,59],[5],[5,0,23],[6,0,23],[10],[14],[16,0,23],[1000003,0,0,23]],[]⟩ (.s .n (.l ⟨[0,1,7],[Bd 8],[[1,0,23],[2,59],[2,0,23],[3,0,23],[3,59],[4,0,23],[4,59],[5],[5,0,23],[6,0,23],[10],[14],[16,0,23],[1000003,0,0,23]],[]⟩ [(1,⟨[],[],[[2,59],[1,0,23],[2,0,23],[3,0,23],[3,59],[4,0,23],[4,59],[5],[5,0,23],[6,0,23],[10],[14],[16,0,23],[1000003,0,0,23]],[]⟩),(0,⟨[],[Bd 4],[[2,59],[1,0,23],[2,0,23],[3,0,23],[3,59],[4,0,23],[4,59],[5],[5,0,23],[6,0,23],[10],[14],[16,0,23],[1000003,0,0,23]],[]⟩)] (.s .n (.s .n (.s (.s .n (.s (.r [] [] (.c 5 (.s (.r [] [] (.g 0 (.ug [0,1,5,7,8,16]) .n)) .n) .n)) .n)) .n))))) .n)) .n)) (.j ⟨[2,3,4],[Bd 6],[[2,59],[1,0,23],[2,0,23],[3,0,23],[3,59],[4,0,23],[4,59],[5],[5,0,23],[6,0,23],[10],[14],[16,0,23],[1000003,0,0,23]],[]⟩ .n (.s (.r [] [] (.c 5 (.s (.r [] [] (.g 0 (.ug [2,4,33]) .n)) (.s (.r [] [] (.q 2 (.sub false) .n)) (.s .n (.s (.s .n (.i .x .n)) (.s .n (.s .n (.s .x .n))))))) .n)) .n))))) .n)) (.s .n (.s .n (.j ⟨[5,10,14],[],[[5],[1,0,23],[2,0,23],[3,0,23],[4,0,23],[5,0,23],[6,0,23],[10],[14],[16,0,23]],[([1000003,0,0,23], .deep 61)]⟩ (.s (.r [] [] (.c 3 (.s (.r [] [] (.g 0 (.ug [2,4,5,10,14,71]) .n)) (.s (.s .n (.s .n (.i .x (.s .n (.i .x .n))))) (.s (.s .n (.i .x .n)) (.s .n (.s (.s .n (.s .n (.i .n (.s .n (.i .n (.s .n (.i .x .n))))))) .x))))) .n)) (.s .n (.i (.s .n (.i (.r [] [] (.t (.q 3 .au (.q 7 .ins (.q 9 .au .n))))) (.r [] [] (.t (.q 3 .au (.q 9 .au .n)))))) .n))) (.s (.r [] [] (.t (.g 0 (.fd [1000003,0,0,23]) (.q 0 .lz .n)))) .n)))))))))))) [.s 36, .k (.int .i64), .k (.int .i64), .k (.int .i64), .k (.bool)] [.s 36, .k (.int .i64)] (fun x=>Wb x.1 x.2.1 x.2.2.1 x.2.2.2.1 x.2.2.2.2.1) Tryz.func77 (by kernel_rfl)
def Ye:Option (Bool):=
 some true
def Yf (a0:Cb) (a1:List (Int)) (ak1:Int) (auc:List (Int)):Option ((Int×(List (Int)))⊕(Unit⊕Bool)):=
 (if(decide (ak1<(a1.length:Int))) then
  (idx a1 ak1).bind fun e10=>
  (idx a0.Options e10).bind fun e11=>
  (iG auc e11.A).bind fun r12=>
  (if r12 then
   some (.inr (.inr false))
  else
   (idx a0.Options e10).bind fun e14=>
   (app 8 auc ([e14.A]:List (Int))).bind fun l15=>
   some (.inl ((Aa (ak1+1)),l15)))
 else
  some (.inr (.inl ())))
def Ul (a0:Cb) (a1:List (Int)):Option (Bool):=
 jn (fun(v:Unit)=>Ye) (fun jJ1=>
 (iter (fun(v:Int×(List (Int)))=>Yf a0 a1 v.1 v.2) FU ((0:Int),([]:List (Int)))).bind (Sum.elim (fun o0=>jJ1 ()) (fun o1=>some o1)))
def cH:Bb:=mC [ph] 123 Tryz.f123 (.s .n (.s .n (.j IT (.s .n (.l ⟨[2,8,9],[(5, .c (.c (.e_ [5]))),Bd 10],[[2]],[([5], .row 3)]⟩ [(1,IT),(0,⟨[],[ES 4],[],[]⟩)] .n)) .n))) [.s 54, .k (.l_ 3)] [.k (.bool)] (fun x=>Ul x.1 x.2.1) Tryz.func123 (by kernel_rfl)
def pm (r1:Ai) (al0:Int) (agD:List (Al)):Option (Ai):=
 some (⟨agD,r1.d_,r1.Td,r1.aet,r1.Stack,r1.abm,r1.ad0,r1.aaT,r1.abi,r1.Step,r1.adC,r1.Priority,r1.Passes,r1.ab2,r1.aaj,r1.adt,r1.Extra,r1.ahi,r1.ack⟩:Ai)
def pn (a0:Ai) (a1:Int) (a2:Int) (a3:List (Int)):Option (Ai):=
 (Qt a0).bind fun r1=>
 jn (fun(v:Int×(List (Al)))=>pm r1 v.1 v.2) (fun jJ4=>
 (if a1==0 then
  none
 else if a1==4 then
  none
 else
  (some (if decide (a2<0) then true else decide ((r1.g_.length:Int)<=a2))).bind fun b7=>
  (if b7 then
   none
  else
   (idx r1.g_ a2).bind fun e9=>
   (if a1==1 then
    (if true then
     (Ay a3).bind fun r12=>
     (idx r1.g_ a2).bind fun e13=>
     (k_ (a2<((r1.g_.length:Nat):Int))).bind fun u14=>
     (some (r1.g_.set (a2).toNat ({e13 with Hand:=r12}))).bind fun l15=>
     jJ4 (((r1.g_.length:Nat):Int),l15)
    else
     jJ4 (((r1.g_.length:Nat):Int),r1.g_))
   else if a1==2 then
    (if true then
     (Ay a3).bind fun r18=>
     (idx r1.g_ a2).bind fun e19=>
     (k_ (a2<((r1.g_.length:Nat):Int))).bind fun u20=>
     (some (r1.g_.set (a2).toNat ({e19 with S_:=r18}))).bind fun l21=>
     jJ4 (((r1.g_.length:Nat):Int),l21)
    else
     jJ4 (((r1.g_.length:Nat):Int),r1.g_))
   else if a1==3 then
    none
   else
    none))))
def sO:Bb:=mC [PB,BH] 82 Tryz.f82 (.s .n (.s (.r [] [] (.q 1 .co .n)) (.j ⟨[4,8],[],[[4],[1,0,11],[2,0,11],[3,0,11],[4,0,11],[5,0,11],[6,0,11],[8],[16,0,11]],[([1000003,0,0,11], .deep 61)]⟩ (.s (.r [] [] (.c 2 (.s (.r [] [] (.g 0 (.ug [3,4,8,14]) .n)) (.s (.s .n (.s .n (.i .x (.s .n (.i .x .n))))) (.s (.s .n (.i .x .n)) (.s .n (.s (.s .n (.s .n (.i .n (.s .n (.i .n (.s .n (.i .x .n))))))) .x))))) .n)) (.s .n (.i (.r [] [] (.q 2 .co (.q 4 .au .n))) .n))) (.s (.r [] [] (.g 0 (.fd [1000003,0,0,11]) .n)) .n)))) [.s 36, .k (.int .i64), .k (.int .i64), .k (.l_ 3)] [.s 36] (fun x=>pn x.1 x.2.1 x.2.2.1 x.2.2.2.1) Tryz.func82 (by kernel_rfl)
def Wc (a0:Ja):Option (Bool):=
 (some (if a0.Types==2 then true else a0.Types==4)).bind fun b7=>
 (gd (b7==false) (Lw a0.Types (1:Int))).bind fun r8=>
 (gd ((b7==false)&&((!r8)==true)) (Lw a0.Types (2:Int))).bind fun r9=>
 (some (if !r8 then !r9 else false)).bind fun b10=>
 (some (if b7 then true else b10)).bind fun b11=>
 some b11
def KQ (a0:Ja) (adz:Int):Option ((Int)⊕(Unit⊕Bool)):=
 (if(decide (adz<(a0.adK.length:Int))) then
  (idx a0.adK adz).bind fun e17=>
  (JL e17).bind fun r18=>
  (gd (((!r18)==false)&&((decide (0<adz))==true)) (idx a0.adK (Aa (adz - 1)))).bind fun e19=>
  (gd (((!r18)==false)&&((decide (0<adz))==true)) (idx a0.adK adz)).bind fun e20=>
  (some (if decide (0<adz) then !(Op.bytesLess e19 e20)else false)).bind fun b21=>
  (some (if !r18 then true else b21)).bind fun b22=>
  (if b22 then
   some (.inr (.inr false))
  else
   some (.inl (Aa (adz+1))))
 else
  some (.inr (.inl ())))
def cI (a0:Ja):Option (Bool):=
 (some (if decide (a0.afQ<0) then true else decide (3<a0.afQ))).bind fun b1=>
 (some (if b1 then true else decide (a0.Types<1))).bind fun b2=>
 (some (if b2 then true else decide (63<a0.Types))).bind fun b3=>
 (some (if b3 then true else decide (4<(a0.adK.length:Int)))).bind fun b4=>
 (if b4 then
  some false
 else
  jn (fun(v:Unit)=>Wc a0) (fun jJ6=>
  (iter (fun(v:Int)=>KQ a0 v) FU (0:Int)).bind (Sum.elim (fun o0=>jJ6 ()) (fun o1=>some o1))))
def z8:Bb:=mC [PD,iA] 107 Tryz.f107 (.s .n (.s .n (.j ⟨[1],[],[[1]],[]⟩ (.s .n (.l ⟨[1],[Bd 3],[[1]],[]⟩ [(1,⟨[1],[],[[1]],[]⟩),(0,⟨[],[ES 2],[],[]⟩)] .n)) .n))) [.s 96] [.k (.bool)] (fun x=>cI x.1) Tryz.func107 (by kernel_rfl)
def I2 (a0:Ag):Option (Bool):=
 (some (if decide (a0.AT<0) then true else decide (5<a0.AT))).bind fun b1=>
 (some (if b1 then true else decide (a0.Who<0))).bind fun b2=>
 (some (if b2 then true else decide (2<a0.Who))).bind fun b3=>
 (some (if b3 then true else decide (a0.Self<0))).bind fun b4=>
 (some (if b4 then true else decide (2<a0.Self))).bind fun b5=>
 (some (if b5 then true else decide (a0.Tap<0))).bind fun b6=>
 (some (if b6 then true else decide (2<a0.Tap))).bind fun b7=>
 (if b7 then
  some false
 else
  (E5 a0.Types a0.abw (63:Int)).bind fun r9=>
  (gd ((!r9)==false) (E5 a0.adM a0.aaZ (31:Int))).bind fun r10=>
  (some (if !r9 then true else !r10)).bind fun b11=>
  (if b11 then
   some false
  else
   (gd ((a0.Sub != ([]:List UInt8))==true) (JL a0.Sub)).bind fun r13=>
   (some (if(a0.Sub != ([]:List UInt8)) then !r13 else false)).bind fun b14=>
   (some (if b14 then true else decide (a0.Keys<0))).bind fun b15=>
   (some (if b15 then true else decide (131071<a0.Keys))).bind fun b16=>
   (if b16 then
    some false
   else
    (JJ a0.Power).bind fun r18=>
    (gd (r18==true) (JJ a0.abv)).bind fun r19=>
    (some (if r18 then r19 else false)).bind fun b20=>
    (gd (b20==true) (JJ a0.Value)).bind fun r21=>
    (some (if b20 then r21 else false)).bind fun b22=>
    some b22)))
def G8:Bb:=mC [oM,PD,oN] 137 Tryz.f137 .n [.s 110] [.k (.bool)] (fun x=>I2 x.1) Tryz.func137 (by kernel_rfl)
def Yg (amA:Int):Option ((List UInt8)):=
 (Dj amA).bind fun r3=>
 some r3
def Yh (a0:Int) (aiY:Int) (anP:Int):Option ((Int×Int)⊕(Int)):=
 (if decide (anP<a0) then
  some (.inl ((Aa (aiY*(2:Int))),(Aa (anP+1))))
 else
  some (.inr aiY))
def Jt (a0:Int):Option ((List UInt8)):=
 jn (fun(v:Int)=>Yg v) (fun H_=>
 (iter (fun(v:Int×Int)=>Yh a0 v.1 v.2) FU ((1:Int),(0:Int))).bind (fun o0=>H_ o0))
def cJ:Bb:=mC [Oj] 242 Tryz.f242 (.s .n (.s .n (.j ⟨[],[Bd 3],[],[]⟩ (.s .n (.l ⟨[0],[Bd 3,Bd 4],[],[]⟩ [(1,⟨[],[Bd 3],[],[]⟩)] .n)) .n))) [.k (.int .i64)] [.k (.str)] (fun x=>Jt x.1) Tryz.func242 (by kernel_rfl)
def G9 (a0:A6 (Int)):Option ((List UInt8)):=
 (bV a0).bind fun r1=>
 (Uk r1).bind fun r2=>
 some r2
def cK:Bb:=mC [sF,sN] 230 Tryz.f230 .n [.s 59] [.k (.str)] (fun x=>G9 x.1) Tryz.func230 (by kernel_rfl)
def PM (a0:Ai) (a1:Ai):Option (Bool):=
 (some (if a0.aaT != a1.aaT then true else a0.abi != a1.abi)).bind fun b1=>
 (some (if b1 then true else a0.Step != a1.Step)).bind fun b2=>
 (some (if b2 then true else a0.adC != a1.adC)).bind fun b3=>
 (some (if b3 then true else a0.Priority != a1.Priority)).bind fun b4=>
 (some (if b4 then true else a0.Passes != a1.Passes)).bind fun b5=>
 (some (if b5 then true else a0.ab2 != a1.ab2)).bind fun b6=>
 (some (if b6 then true else a0.aaj != a1.aaj)).bind fun b7=>
 (some (if b7 then true else a0.adt != a1.adt)).bind fun b8=>
 (some (if b8 then true else a0.ahi != a1.ahi)).bind fun b9=>
 (some (if b9 then true else a0.ack != a1.ack)).bind fun b10=>
 (if b10 then
  some false
 else
  (Qu a0 a1).bind fun r12=>
  (gd (r12==true) (GY a0.Td a1.Td)).bind fun r13=>
  (some (if r12 then r13 else false)).bind fun b14=>
  (gd (b14==true) (GY a0.aet a1.aet)).bind fun r15=>
  (some (if b14 then r15 else false)).bind fun b16=>
  (gd (b16==true) (GY a0.Extra a1.Extra)).bind fun r17=>
  (some (if b16 then r17 else false)).bind fun b18=>
  some b18)
def sP:Bb:=mC [pi,bX] 10 Tryz.f10 .n [.s 36, .s 36] [.k (.bool)] (fun x=>PM x.1 x.2.1) Tryz.func10 (by kernel_rfl)
end Go.PL
