/- Functions of the program, as partial functions in Lean, with proofs. -/
import Derived.Test.YteginlijmbcopaaGreatDoorPlBlB
import Derived.Test.YteginlijmbcopaaGreatDoorPlBlF0
import Derived.Test.YteginlijmbcopaaGreatDoorPlBlF2
import Derived.Test.YteginlijmbcopaaGreatDoorPlBlF3
import Derived.Test.YteginlijmbcopaaGreatDoorPlBlF5
namespace Go.PL
open Go Go.RowKit Go.Proofs
set_option maxRecDepth 100000
set_option linter.all false
set_option maxHeartbeats 4000000
attribute [local irreducible] Aq Cr Cc
def SS (a0:BB):Option ((List UInt8)):=
 (Lh a0).bind fun r1=>
 (if !r1 then
  some ([]:List UInt8)
 else if a0.Kind==1 then
  some mv
 else if a0.Kind==2 then
  (Dh a0.N).bind fun r5=>
  (cat Zk r5).bind fun s6=>
  some s6
 else if a0.Kind==3 then
  (Dh a0.N).bind fun r8=>
  (cat VK r8).bind fun s9=>
  some s9
 else if a0.Kind==4 then
  (cat mw a0.Sub).bind fun s11=>
  some s11
 else if a0.Kind==5 then
  (cat fv a0.Sub).bind fun s13=>
  some s13
 else if a0.Kind==6 then
  (L4 a0.N).bind fun r15=>
  (cat VL r15).bind fun s16=>
  some s16
 else if a0.Kind==7 then
  (L4 a0.N).bind fun r18=>
  (cat RS r18).bind fun s19=>
  some s19
 else if a0.Kind==8 then
  (Ox a0.N).bind fun r21=>
  (cat Zl r21).bind fun s22=>
  some s22
 else if a0.Kind==9 then
  (Ox a0.N).bind fun r24=>
  (cat Kw r24).bind fun s25=>
  some s25
 else if a0.Kind==10 then
  some vw
 else if a0.Kind==11 then
  (SP a0.Filter).bind fun r28=>
  (cat PM r28).bind fun s29=>
  (cat s29 sZ).bind fun s30=>
  some s30
 else if a0.Kind==12 then
  (Du a0.N).bind fun r32=>
  (cat ta r32).bind fun s33=>
  (cat s33 Xd).bind fun s34=>
  (Du a0.M).bind fun r35=>
  (cat s34 r35).bind fun s36=>
  some s36
 else if a0.Kind==13 then
  (Du a0.N).bind fun r38=>
  (cat mE r38).bind fun s39=>
  (cat s39 Xd).bind fun s40=>
  (Du a0.M).bind fun r41=>
  (cat s40 r41).bind fun s42=>
  some s42
 else
  some bZ)
def ru:A9:=mC [nK,Nd,rc,rj,rq,QU] 144 Tryz.f144 .n [.s 148] [.k (.str)] (fun x=>SS x.1) Tryz.func144 (by kernel_rfl)
def Pj (a0:Bn):Option (Bool):=
 (gd ((a0.Who != 0)==false) (Jc a0.Filter)).bind fun r1=>
 (some (if a0.Who != 0 then true else !r1)).bind fun b2=>
 (if b2 then
  some false
 else if a0.Do==5 then
  (some (if a0.N==0 then a0.R_==0 else false)).bind fun b5=>
  (some (if a0.O_==1 then true else a0.O_==2)).bind fun b6=>
  (some (if b6 then true else a0.O_==4)).bind fun b7=>
  (some (if b5 then b7 else false)).bind fun b8=>
  some b8
 else if a0.Do==6 then
  (some (if a0.N==0 then a0.R_==0 else false)).bind fun b10=>
  (some (if b10 then a0.O_==0 else false)).bind fun b11=>
  some b11
 else if a0.Do==7 then
  (some (if a0.O_==0 then decide (1<=a0.N)else false)).bind fun b13=>
  (some (if b13 then decide (a0.N<=99)else false)).bind fun b14=>
  (some (if b14 then decide (0<=a0.R_)else false)).bind fun b15=>
  (some (if b15 then decide (a0.R_<3)else false)).bind fun b16=>
  some b16
 else
  some false)
def nL:A9:=mC [V0] 188 Tryz.f188 .n [.s 119] [.k (.bool)] (fun x=>Pj x.1) Tryz.func188 (by kernel_rfl)
def ST (a0:List (C8)):Option (Bool):=
 some (decide ((a0.length:Int)<=4))
def GK (a0:List (C8)) (aaM:Int):Option ((Int)⊕(Unit⊕Bool)):=
 (if(decide (aaM<(a0.length:Int))) then
  (idx a0 aaM).bind fun e7=>
  (SQ e7).bind fun r8=>
  (if !r8 then
   some (.inr (.inr false))
  else
   some (.inl (Ab (aaM+1))))
 else
  some (.inr (.inl ())))
def Pk (a0:List (C8)):Option (Bool):=
 jn (fun(v:Unit)=>ST a0) (fun jJ1=>
 (iter (fun(v:Int)=>GK a0 v) FU (0:Int)).bind (Sum.elim (fun o0=>jJ1 ()) (fun o1=>some o1)))
def nM:A9:=mC [rr] 141 Tryz.f141 (.s .n (.j ⟨[0],[],[],[]⟩ (.s .n (.l ⟨[0],[A0 3],[],[]⟩ [(1,⟨[0],[],[],[]⟩),(0,⟨[],[EO 2],[],[]⟩)] .n)) .n)) [.k (.u_ 184)] [.k (.bool)] (fun x=>Pk x.1) Tryz.func141 (by kernel_rfl)
def cT (ai0:List (Int)) (aqf:List (Int)) (aqc:List (AE)) (am6:List (AA)) (aqg:List (AY)) (ar6:Int) (ana:Int) (aqb:Int) (aoD:Bool) (ak5:Int) (am7:Int) (am8:Int) (aj9:Int) (aqd:Int) (aoz:List (Int)) (aqe:Int) (am5:Int) (an6:List (Ae)) (an1:Int) (ago:List (Ap)):Option (Aa×Int):=
 some ((⟨ago,an6,ai0,aqf,aqc,am6,aqg,ar6,ana,aqb,aoD,ak5,am7,am8,aj9,aqd,aoz,aqe,am5⟩:Aa),(0:Int))
def aF (aaN:Int) (ah1:List (Int)) (aoA:List (Int)) (aow:List (AE)) (amv:List (AA)) (aoB:List (AY)) (ap_:Int) (am_:Int) (aqa:Int) (aoC:Bool) (ak4:Int) (amw:Int) (amx:Int) (aiZ:Int) (aox:Int) (am9:List (Int)) (aoy:Int) (amu:Int) (amM:List (Ae)) (afW:Int) (afX:List (Ap)):Option ((Int×(List (Int))×(List (Int))×(List (AE))×(List (AA))×(List (AY))×Int×Int×Int×Bool×Int×Int×Int×Int×Int×(List (Int))×Int×Int×(List (Ae))×Int×(List (Ap)))⊕(((List (Int))×(List (Int))×(List (AE))×(List (AA))×(List (AY))×Int×Int×Int×Bool×Int×Int×Int×Int×Int×(List (Int))×Int×Int×(List (Ae))×Int×(List (Ap))))):=
 some (.inl ((Ab (aaN+1)),ah1,aoA,aow,amv,aoB,ap_,am_,aqa,aoC,ak4,amw,amx,aiZ,aox,am9,aoy,amu,amM,afW,afX))
def aG (aaN:Int) (aq5:(List (Int))×Int) (ai_:Int) (adM:List (Int)) (aik:List (Int)) (aif:List (AE)) (aga:List (AA)) (ail:List (AY)) (aj4:Int) (ahe:Int) (aj5:Int) (aim:Bool) (afu:Int) (ahd:Int) (adk:Int) (ac8:Int) (aj7:Int) (aij:List (Int)) (aj8:Int) (ahb:Int) (ah7:List (Ae)) (aaZ:Int) (aab:List (Ap)):Option ((Int×(List (Int))×(List (Int))×(List (AE))×(List (AA))×(List (AY))×Int×Int×Int×Bool×Int×Int×Int×Int×Int×(List (Int))×Int×Int×(List (Ae))×Int×(List (Ap)))⊕(((List (Int))×(List (Int))×(List (AE))×(List (AA))×(List (AY))×Int×Int×Int×Bool×Int×Int×Int×Int×Int×(List (Int))×Int×Int×(List (Ae))×Int×(List (Ap))))):=
 (if(decide (ai_<(aq5.1.length:Int))) then
  (idx aq5.1 ai_).bind fun atw=>
  (MI adk atw aaN (2:Int) ac8).bind fun aB3=>
  (app 128 ah7 ([aB3]:List (Ae))).bind fun aCQ=>
  (idx aab aaN).bind fun azG=>
  (idx aab aaN).bind fun azF=>
  (A1 (aaN<aaZ)).bind fun aJH=>
  (app 8 azF.g_ ([adk]:List (Int))).bind fun aCP=>
  (idx aab aaN).bind fun aEE=>
  (idx aab aaN).bind fun aED=>
  (A1 (aaN<aaZ)).bind fun aJG=>
  (A1 (aaN=aaN)).bind fun aJF=>
  (some (aab.set (aaN).toNat ({aED with g_:=aCP}))).bind fun aCO=>
  some (.inl ((Ab (ai_+1)),adM,aik,aif,aga,ail,aj4,ahe,aj5,aim,afu,ahd,(Ab (adk+1)),(Ab (ac8+1)),aj7,aij,aj8,ahb,aCQ,aaZ,aCO))
 else
  some (.inr (adM,aik,aif,aga,ail,aj4,ahe,aj5,aim,afu,ahd,adk,ac8,aj7,aij,aj8,ahb,ah7,aaZ,aab)))
def cU (a0:Di) (aaN:Int) (ad9:List (Int)) (aka:List (Int)) (aj6:List (AE)) (ahc:List (AA)) (akb:List (AY)) (alx:Int) (ain:Int) (aly:Int) (akc:Bool) (agb:Int) (aih:Int) (aii:Int) (afv:Int) (alz:Int) (aj_:List (Int)) (alA:Int) (aie:Int) (ajq:List (Ae)) (adt:Int) (adv:List (Ap)):Option ((Int×(List (Int))×(List (Int))×(List (AE))×(List (AA))×(List (AY))×Int×Int×Int×Bool×Int×Int×Int×Int×Int×(List (Int))×Int×Int×(List (Ae))×Int×(List (Ap)))⊕(((List (Int))×(List (Int))×(List (AE))×(List (AA))×(List (AY))×Int×Int×Int×Bool×Int×Int×Int×Int×Int×(List (Int))×Int×Int×(List (Ae))×Int×(List (Ap))))):=
 (if(decide (aaN<(a0.ach.length:Int))) then
  jn (fun(v:(List (Int))×(List (Int))×(List (AE))×(List (AA))×(List (AY))×Int×Int×Int×Bool×Int×Int×Int×Int×Int×(List (Int))×Int×Int×(List (Ae))×Int×(List (Ap)))=>aF aaN v.1 v.2.1 v.2.2.1 v.2.2.2.1 v.2.2.2.2.1 v.2.2.2.2.2.1 v.2.2.2.2.2.2.1 v.2.2.2.2.2.2.2.1 v.2.2.2.2.2.2.2.2.1 v.2.2.2.2.2.2.2.2.2.1 v.2.2.2.2.2.2.2.2.2.2.1 v.2.2.2.2.2.2.2.2.2.2.2.1 v.2.2.2.2.2.2.2.2.2.2.2.2.1 v.2.2.2.2.2.2.2.2.2.2.2.2.2.1 v.2.2.2.2.2.2.2.2.2.2.2.2.2.2.1 v.2.2.2.2.2.2.2.2.2.2.2.2.2.2.2.1 v.2.2.2.2.2.2.2.2.2.2.2.2.2.2.2.2.1 v.2.2.2.2.2.2.2.2.2.2.2.2.2.2.2.2.2.1 v.2.2.2.2.2.2.2.2.2.2.2.2.2.2.2.2.2.2.1 v.2.2.2.2.2.2.2.2.2.2.2.2.2.2.2.2.2.2.2) (fun ayB=>
  (idx a0.ach aaN).bind fun awo=>
  (DI alz awo).bind fun aq5=>
  (iter (fun(v:Int×(List (Int))×(List (Int))×(List (AE))×(List (AA))×(List (AY))×Int×Int×Int×Bool×Int×Int×Int×Int×Int×(List (Int))×Int×Int×(List (Ae))×Int×(List (Ap)))=>aG aaN aq5 v.1 v.2.1 v.2.2.1 v.2.2.2.1 v.2.2.2.2.1 v.2.2.2.2.2.1 v.2.2.2.2.2.2.1 v.2.2.2.2.2.2.2.1 v.2.2.2.2.2.2.2.2.1 v.2.2.2.2.2.2.2.2.2.1 v.2.2.2.2.2.2.2.2.2.2.1 v.2.2.2.2.2.2.2.2.2.2.2.1 v.2.2.2.2.2.2.2.2.2.2.2.2.1 v.2.2.2.2.2.2.2.2.2.2.2.2.2.1 v.2.2.2.2.2.2.2.2.2.2.2.2.2.2.1 v.2.2.2.2.2.2.2.2.2.2.2.2.2.2.2.1 v.2.2.2.2.2.2.2.2.2.2.2.2.2.2.2.2.1 v.2.2.2.2.2.2.2.2.2.2.2.2.2.2.2.2.2.1 v.2.2.2.2.2.2.2.2.2.2.2.2.2.2.2.2.2.2.1 v.2.2.2.2.2.2.2.2.2.2.2.2.2.2.2.2.2.2.2.1 v.2.2.2.2.2.2.2.2.2.2.2.2.2.2.2.2.2.2.2.2) FU ((0:Int),ad9,aka,aj6,ahc,akb,alx,ain,aly,akc,agb,aih,aii,afv,aq5.2,aj_,alA,aie,ajq,adt,adv)).bind (fun o0=>ayB (o0.1,o0.2.1,o0.2.2.1,o0.2.2.2.1,o0.2.2.2.2.1,o0.2.2.2.2.2.1,o0.2.2.2.2.2.2.1,o0.2.2.2.2.2.2.2.1,o0.2.2.2.2.2.2.2.2.1,o0.2.2.2.2.2.2.2.2.2.1,o0.2.2.2.2.2.2.2.2.2.2.1,o0.2.2.2.2.2.2.2.2.2.2.2.1,o0.2.2.2.2.2.2.2.2.2.2.2.2.1,o0.2.2.2.2.2.2.2.2.2.2.2.2.2.1,o0.2.2.2.2.2.2.2.2.2.2.2.2.2.2.1,o0.2.2.2.2.2.2.2.2.2.2.2.2.2.2.2.1,o0.2.2.2.2.2.2.2.2.2.2.2.2.2.2.2.2.1,o0.2.2.2.2.2.2.2.2.2.2.2.2.2.2.2.2.2.1,o0.2.2.2.2.2.2.2.2.2.2.2.2.2.2.2.2.2.2.1,o0.2.2.2.2.2.2.2.2.2.2.2.2.2.2.2.2.2.2.2)))
 else
  some (.inr (ad9,aka,aj6,ahc,akb,alx,ain,aly,akc,agb,aih,aii,afv,alz,aj_,alA,aie,ajq,adt,adv)))
def Pl (a0:Di):Option (Aa×Int):=
 (V1 a0).bind fun r1=>
 (if r1 != 0 then
  some ((⟨([]:List (Ap)),([]:List (Ae)),([]:List (Int)),([]:List (Int)),([]:List (AE)),([]:List (AA)),([]:List (AY)),0,0,0,false,0,0,0,0,0,([]:List (Int)),0,0⟩:Aa),r1)
 else
  (fK (a0.ach.length:Int) a0.anA a0.Tw).bind fun r3=>
  jn (fun(v:(List (Int))×(List (Int))×(List (AE))×(List (AA))×(List (AY))×Int×Int×Int×Bool×Int×Int×Int×Int×Int×(List (Int))×Int×Int×(List (Ae))×Int×(List (Ap)))=>cT v.1 v.2.1 v.2.2.1 v.2.2.2.1 v.2.2.2.2.1 v.2.2.2.2.2.1 v.2.2.2.2.2.2.1 v.2.2.2.2.2.2.2.1 v.2.2.2.2.2.2.2.2.1 v.2.2.2.2.2.2.2.2.2.1 v.2.2.2.2.2.2.2.2.2.2.1 v.2.2.2.2.2.2.2.2.2.2.2.1 v.2.2.2.2.2.2.2.2.2.2.2.2.1 v.2.2.2.2.2.2.2.2.2.2.2.2.2.1 v.2.2.2.2.2.2.2.2.2.2.2.2.2.2.1 v.2.2.2.2.2.2.2.2.2.2.2.2.2.2.2.1 v.2.2.2.2.2.2.2.2.2.2.2.2.2.2.2.2.1 v.2.2.2.2.2.2.2.2.2.2.2.2.2.2.2.2.2.1 v.2.2.2.2.2.2.2.2.2.2.2.2.2.2.2.2.2.2.1 v.2.2.2.2.2.2.2.2.2.2.2.2.2.2.2.2.2.2.2) (fun aC5=>
  (iter (fun(v:Int×(List (Int))×(List (Int))×(List (AE))×(List (AA))×(List (AY))×Int×Int×Int×Bool×Int×Int×Int×Int×Int×(List (Int))×Int×Int×(List (Ae))×Int×(List (Ap)))=>cU a0 v.1 v.2.1 v.2.2.1 v.2.2.2.1 v.2.2.2.2.1 v.2.2.2.2.2.1 v.2.2.2.2.2.2.1 v.2.2.2.2.2.2.2.1 v.2.2.2.2.2.2.2.2.1 v.2.2.2.2.2.2.2.2.2.1 v.2.2.2.2.2.2.2.2.2.2.1 v.2.2.2.2.2.2.2.2.2.2.2.1 v.2.2.2.2.2.2.2.2.2.2.2.2.1 v.2.2.2.2.2.2.2.2.2.2.2.2.2.1 v.2.2.2.2.2.2.2.2.2.2.2.2.2.2.1 v.2.2.2.2.2.2.2.2.2.2.2.2.2.2.2.1 v.2.2.2.2.2.2.2.2.2.2.2.2.2.2.2.2.1 v.2.2.2.2.2.2.2.2.2.2.2.2.2.2.2.2.2.1 v.2.2.2.2.2.2.2.2.2.2.2.2.2.2.2.2.2.2.1 v.2.2.2.2.2.2.2.2.2.2.2.2.2.2.2.2.2.2.2.1 v.2.2.2.2.2.2.2.2.2.2.2.2.2.2.2.2.2.2.2.2) FU ((0:Int),r3.l_,r3.T_,r3.Stack,r3.o_,r3.v_,r3.I_,r3.k_,r3.Step,r3.H_,r3.Priority,r3.Passes,r3.f_,r3.c_,r3.Tw,r3.Extra,r3.aae,r3.z_,r3.b_,((r3.a_.length:Nat):Int),r3.a_)).bind (fun o0=>aC5 (o0.1,o0.2.1,o0.2.2.1,o0.2.2.2.1,o0.2.2.2.2.1,o0.2.2.2.2.2.1,o0.2.2.2.2.2.2.1,o0.2.2.2.2.2.2.2.1,o0.2.2.2.2.2.2.2.2.1,o0.2.2.2.2.2.2.2.2.2.1,o0.2.2.2.2.2.2.2.2.2.2.1,o0.2.2.2.2.2.2.2.2.2.2.2.1,o0.2.2.2.2.2.2.2.2.2.2.2.2.1,o0.2.2.2.2.2.2.2.2.2.2.2.2.2.1,o0.2.2.2.2.2.2.2.2.2.2.2.2.2.2.1,o0.2.2.2.2.2.2.2.2.2.2.2.2.2.2.2.1,o0.2.2.2.2.2.2.2.2.2.2.2.2.2.2.2.2.1,o0.2.2.2.2.2.2.2.2.2.2.2.2.2.2.2.2.2.1,o0.2.2.2.2.2.2.2.2.2.2.2.2.2.2.2.2.2.2.1,o0.2.2.2.2.2.2.2.2.2.2.2.2.2.2.2.2.2.2.2))))
def nN:A9:=mC [cR,ng,OA,Si] 8 Tryz.f8 (.s .n (.s .n (.s (.r [] [] (.q 7 .co .n)) (.j ⟨[2,5],[],[[2]],[([5], .box [.c (.n_ [1000003,0,0,24]), .c (.n_ [1,0,24]), .v (.k (.u_ 3)), .v (.k (.u_ 3)), .v (.k (.u_ 126)), .v (.k (.u_ 129)), .v (.k (.u_ 132)),AD,AD,AD,B1,AD,AD,AD,AD, .v (.k (.int .u64)), .v (.k (.u_ 3)),AD,AD]),([1,0,24], .row 70),([1000003,0,0,24], .deep 61)]⟩ (.s .n (.l ⟨[2,5,26,27],[A0 28],[[2]],[([5], .box [.c (.n_ [1000003,0,0,24]), .c (.n_ [1,0,24]), .v (.k (.u_ 3)), .v (.k (.u_ 3)), .v (.k (.u_ 126)), .v (.k (.u_ 129)), .v (.k (.u_ 132)),AD,AD,AD,B1,AD,AD,AD,AD, .v (.k (.int .u64)), .v (.k (.u_ 3)),AD,AD]),([1,0,24], .row 70),([1000003,0,0,24], .deep 61)]⟩ [(1,⟨[2,5],[],[[2]],[([5], .box [.c (.n_ [1000003,0,0,24]), .c (.n_ [1,0,24]), .v (.k (.u_ 3)), .v (.k (.u_ 3)), .v (.k (.u_ 126)), .v (.k (.u_ 129)), .v (.k (.u_ 132)),AD,AD,AD,B1,AD,AD,AD,AD, .v (.k (.int .u64)), .v (.k (.u_ 3)),AD,AD]),([1,0,24], .row 70),([1000003,0,0,24], .deep 61)]⟩)] (.s .n (.s .n (.j ⟨[2,5,26,27,28],[],[[2]],[([5], .box [.c (.n_ [1000003,0,0,24]), .c (.n_ [1,0,24]), .v (.k (.u_ 3)), .v (.k (.u_ 3)), .v (.k (.u_ 126)), .v (.k (.u_ 129)), .v (.k (.u_ 132)),AD,AD,AD,B1,AD,AD,AD,AD, .v (.k (.int .u64)), .v (.k (.u_ 3)),AD,AD]),([1,0,24], .row 70),([1000003,0,0,24], .deep 61)]⟩ (.s .n (.s .n (.s .n (.s .n (.l ⟨[2,5,6,26,27,28,41,42],[A0 43],[[2]],[([5], .box [.c (.n_ [1000003,0,0,24]), .c (.n_ [1,0,24]), .v (.k (.u_ 3)), .v (.k (.u_ 3)), .v (.k (.u_ 126)), .v (.k (.u_ 129)), .v (.k (.u_ 132)),AD,AD,AD,B1,AD,AD,AD,AD, .v (.k (.int .u64)), .v (.k (.u_ 3)),AD,AD]),([1,0,24], .row 70),([1000003,0,0,24], .deep 61)]⟩ [(3,⟨[2,5,26,27,28],[],[[2]],[([5], .box [.c (.n_ [1000003,0,0,24]), .c (.n_ [1,0,24]), .v (.k (.u_ 3)), .v (.k (.u_ 3)), .v (.k (.u_ 126)), .v (.k (.u_ 129)), .v (.k (.u_ 132)),AD,AD,AD,B1,AD,AD,AD,AD, .v (.k (.int .u64)), .v (.k (.u_ 3)),AD,AD]),([1,0,24], .row 70),([1000003,0,0,24], .deep 61)]⟩)] (.s .n (.s .n (.s (.s .n (.s (.r [] [] (.t (.q 1 .lz .n))) (.s (.r [] [] (.t (.q 8 .au (.q 15 .au .n)))) .n))) .n)))))))) .n))))) (.s (.r [] [] (.g 0 (.fd [1000003,0,0,24]) .n)) .n))))) [.s 26] [.s 36, .k (.int .i64)] (fun x=>Pl x.1) Tryz.func8 (by kernel_rfl)
def nO (asg:Aa):Option (Aa):=
 some asg
def EF (a1:Int) (a2:Int) (aod:Int) (amA:Aa):Option ((Int×Aa)⊕(Aa)):=
 (gd ((decide (aod<a2))==true) (idx amA.a_ a1)).bind fun e10=>
 (some (if decide (aod<a2) then decide (0<(e10.g_.length:Int))else false)).bind fun b11=>
 (if b11 then
  (idx amA.a_ a1).bind fun e13=>
  (idx e13.g_ (0:Int)).bind fun e14=>
  (Dx amA e14 (1:Int) a1 false).bind fun r15=>
  some (.inl ((Ab (aod+1)),r15.1))
 else
  some (.inr amA))
def L7 (a0:Aa) (a1:Int) (a2:Int):Option (Aa):=
 jn (fun(v:Aa)=>nO v) (fun jJ2=>
 (iter (fun(v:Int×Aa)=>EF a1 a2 v.1 v.2) FU ((0:Int),a0)).bind (fun o0=>jJ2 o0))
def rx:A9:=mC [aD] 85 Tryz.f85 (.s .n (.j ⟨[3,6],[],[[6]],[([3], .box [.v (.s 36)])]⟩ (.s .n (.l ⟨[1,2,3,6],[A0 7],[[6]],[([3], .box [.v (.s 36)])]⟩ [(1,⟨[3,6],[],[[6]],[([3], .box [.v (.s 36)])]⟩)] (.s .n (.s (.r [] [] (.t (.q 0 .lz .n))) .n)))) .n)) [.s 36, .k (.int .i64), .k (.int .i64)] [.s 36] (fun x=>L7 x.1 x.2.1 x.2.2.1) Tryz.func85 (by kernel_rfl)
def V3 (a1:Int) (awD:Aa):Option (Aa):=
 (idx awD.a_ a1).bind fun e4=>
 (KH awD.Tw e4.g_).bind fun r5=>
 (IP awD (2:Int) a1 r5.1).bind fun r6=>
 some ({r6 with Tw:=r5.2})
def GM (a1:Int) (r1:(List (Int))) (ai1:Int) (anx:Aa):Option ((Int×Aa)⊕(Aa)):=
 (if(decide (ai1<(r1.length:Int))) then
  (idx r1 ai1).bind fun e15=>
  (idx r1 ai1).bind fun e16=>
  (Dx anx e16 (2:Int) a1 false).bind fun r17=>
  some (.inl ((Ab (ai1+1)),r17.1))
 else
  some (.inr anx))
def J4 (a0:Aa) (a1:Int):Option (Aa):=
 (DO a0 (1:Int) a1).bind fun r1=>
 jn (fun(v:Aa)=>V3 a1 v) (fun jJ3=>
 (iter (fun(v:Int×Aa)=>GM a1 r1 v.1 v.2) FU ((0:Int),a0)).bind (fun o0=>jJ3 o0))
def ry:A9:=mC [MM,aD,cI,UE] 87 Tryz.f87 (.s .n (.s (.r [] [] (.q 2 .co .n)) (.j ⟨[1,2,4],[],[[4]],[([2], .box [.v (.s 36)])]⟩ (.s .n (.l ⟨[1,2,4,5],[A0 6],[[0,0,11],[4]],[([2], .box [.v (.s 36)])]⟩ [(1,⟨[1,2,4],[],[[4]],[([2], .box [.v (.s 36)])]⟩)] (.s .n (.s (.r [] [] (.t (.q 0 .lz .n))) .n)))) (.s (.r [] [] (.t .n)) .n)))) [.s 36, .k (.int .i64)] [.s 36] (fun x=>J4 x.1 x.2.1) Tryz.func87 (by kernel_rfl)
def cV:Option (Bool):=
 some true
def Ll (a0:Aa) (a1:Aa) (alP:Int):Option ((Int)⊕(Unit⊕Bool)):=
 (if(decide (alP<(a0.v_.length:Int))) then
  (idx a0.v_ alP).bind fun e16=>
  (idx a1.v_ alP).bind fun e17=>
  (IK e16 e17).bind fun r18=>
  (if !r18 then
   some (.inr (.inr false))
  else
   some (.inl (Ab (alP+1))))
 else
  some (.inr (.inl ())))
def M0 (a0:Aa) (a1:Aa):Option (Bool):=
 jn (fun(v:Unit)=>cV) (fun ajx=>
 (iter (fun(v:Int)=>Ll a0 a1 v) FU (0:Int)).bind (Sum.elim (fun o0=>ajx ()) (fun o1=>some o1)))
def Lm (a0:Aa) (a1:Aa) (alQ:Int):Option ((Int)⊕(Unit⊕Bool)):=
 (if(decide (alQ<(a0.o_.length:Int))) then
  (idx a0.o_ alQ).bind fun e25=>
  (idx a1.o_ alQ).bind fun e26=>
  (Fv e25 e26).bind fun r27=>
  (if !r27 then
   some (.inr (.inr false))
  else
   some (.inl (Ab (alQ+1))))
 else
  some (.inr (.inl ())))
def M1 (a0:Aa) (a1:Aa):Option (Bool):=
 jn (fun(v:Unit)=>M0 a0 a1) (fun jJ9=>
 (iter (fun(v:Int)=>Lm a0 a1 v) FU (0:Int)).bind (Sum.elim (fun o0=>jJ9 ()) (fun o1=>some o1)))
def Ln (a0:Aa) (a1:Aa) (alS:Int):Option ((Int)⊕(Unit⊕Bool)):=
 (if(decide (alS<(a0.Stack.length:Int))) then
  (idx a0.Stack alS).bind fun e34=>
  (idx a1.Stack alS).bind fun e35=>
  (IT e34 e35).bind fun r36=>
  (if !r36 then
   some (.inr (.inr false))
  else
   some (.inl (Ab (alS+1))))
 else
  some (.inr (.inl ())))
def M2 (a0:Aa) (a1:Aa):Option (Bool):=
 jn (fun(v:Unit)=>M1 a0 a1) (fun jJ8=>
 (iter (fun(v:Int)=>Ln a0 a1 v) FU (0:Int)).bind (Sum.elim (fun o0=>jJ8 ()) (fun o1=>some o1)))
def Lo (a0:Aa) (a1:Aa) (alT:Int):Option ((Int)⊕(Unit⊕Bool)):=
 (if(decide (alT<(a0.b_.length:Int))) then
  (idx a0.b_ alT).bind fun e43=>
  (idx a1.b_ alT).bind fun e44=>
  (if !(e43==e44) then
   some (.inr (.inr false))
  else
   some (.inl (Ab (alT+1))))
 else
  some (.inr (.inl ())))
def M3 (a0:Aa) (a1:Aa):Option (Bool):=
 jn (fun(v:Unit)=>M2 a0 a1) (fun jJ7=>
 (iter (fun(v:Int)=>Lo a0 a1 v) FU (0:Int)).bind (Sum.elim (fun o0=>jJ7 ()) (fun o1=>some o1)))
def Lp (a0:Aa) (a1:Aa) (alW:Int):Option ((Int)⊕(Unit⊕Bool)):=
 (if(decide (alW<(a0.a_.length:Int))) then
  (idx a0.a_ alW).bind fun e51=>
  (idx a1.a_ alW).bind fun e52=>
  (GB e51 e52).bind fun r53=>
  (if !r53 then
   some (.inr (.inr false))
  else
   some (.inl (Ab (alW+1))))
 else
  some (.inr (.inl ())))
def Pm (a0:Aa) (a1:Aa):Option (Bool):=
 (some (if((a0.a_.length:Int) != (a1.a_.length:Int)) then true else(a0.b_.length:Int) != (a1.b_.length:Int))).bind fun b1=>
 (some (if b1 then true else(a0.Stack.length:Int) != (a1.Stack.length:Int))).bind fun b2=>
 (some (if b2 then true else(a0.o_.length:Int) != (a1.o_.length:Int))).bind fun b3=>
 (some (if b3 then true else(a0.v_.length:Int) != (a1.v_.length:Int))).bind fun b4=>
 (if b4 then
  some false
 else
  jn (fun(v:Unit)=>M3 a0 a1) (fun jJ6=>
  (iter (fun(v:Int)=>Lp a0 a1 v) FU (0:Int)).bind (Sum.elim (fun o0=>jJ6 ()) (fun o1=>some o1))))
def nP:A9:=mC [UB,aE,SR,Z0] 29 Tryz.f29 (.s .n (.s .n (.j ⟨[2,3],[],[[2],[3]],[]⟩ (.s .n (.l ⟨[2,3],[A0 5],[[2],[3]],[]⟩ [(1,⟨[2,3],[],[[2],[3]],[]⟩),(0,⟨[],[EO 4],[],[]⟩)] .n)) (.j ⟨[2,3],[],[[2],[3]],[]⟩ (.s .n (.l ⟨[2,3],[A0 6],[[2],[3]],[]⟩ [(3,⟨[2,3],[],[[2],[3]],[]⟩),(0,⟨[],[EO 4],[],[]⟩)] .n)) (.j ⟨[2,3],[],[[2],[3]],[]⟩ (.s .n (.l ⟨[2,3],[A0 7],[[2],[3]],[]⟩ [(5,⟨[2,3],[],[[2],[3]],[]⟩),(0,⟨[],[EO 4],[],[]⟩)] .n)) (.j ⟨[2,3],[],[[2],[3]],[]⟩ (.s .n (.l ⟨[2,3],[A0 8],[[2],[3]],[]⟩ [(7,⟨[2,3],[],[[2],[3]],[]⟩),(0,⟨[],[EO 4],[],[]⟩)] .n)) (.j EN (.s .n (.l ⟨[2,3],[A0 9],[[2],[3]],[]⟩ [(9,EN),(0,⟨[],[EO 4],[],[]⟩)] .n)) .n))))))) [.s 36, .s 36] [.k (.bool)] (fun x=>Pm x.1 x.2.1) Tryz.func29 (by kernel_rfl)
end Go.PL
