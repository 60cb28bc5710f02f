/- Functions of the program, as partial functions in Lean, with proofs. -/
import Derived.Test.YteginlijmbcopaaGreatDoorPlBdB
import Derived.Test.YteginlijmbcopaaGreatDoorPlBdF0
import Derived.Test.YteginlijmbcopaaGreatDoorPlBdF1
namespace Go.PL
open Go Go.RowKit Go.Proofs
set_option maxRecDepth 100000
set_option linter.all false
set_option maxHeartbeats 4000000
attribute [local irreducible] Ae Cq Cl
def HJ (a0:List UInt8):Option (Bool):=
 (Qo a0).bind fun r1=>
 (gd (r1==true) (Cy a0 (2:Int))).bind fun r2=>
 (some (if r1 then r2==0 else false)).bind fun b3=>
 (gd (b3==true) (CN a0 (6:Int))).bind fun r4=>
 (some (if b3 then r4==0 else false)).bind fun b5=>
 some b5
def NJ:Bb:=mC [VK,KY,LO] 202 Tryz.f202 .n [.k (.str)] [.k (.bool)] (fun x=>HJ x.1) Tryz.func202 (by kernel_rfl)
def Du (a0:Ac):Option (Bool):=
 (Ba a0.Kind (3:Int)).bind fun r1=>
 (gd (r1==true) (Ba a0.N (1000000:Int))).bind fun r2=>
 (some (if r1 then r2 else false)).bind fun b3=>
 (some (if a0.Kind != 0 then true else a0.N==0)).bind fun b4=>
 (some (if b3 then b4 else false)).bind fun b5=>
 some b5
def VY:Bb:=mC [Mz] 251 Tryz.f251 .n [.s 108] [.k (.bool)] (fun x=>Du x.1) Tryz.func251 (by kernel_rfl)
def Jq (ayq:List (List UInt8)):Option ((List (List UInt8))):=
 some ayq
def IW (r3:(List (Int))) (akZ:Int) (aub:List (List UInt8)):Option ((Int×(List (List UInt8)))⊕((List (List UInt8)))):=
 (if(decide (akZ<(r3.length:Int))) then
  (idx r3 akZ).bind fun e12=>
  (idx (⟨GH,Ix,KB,Mt,Mu,Ph⟩:A6 (List UInt8)).l e12).bind fun e13=>
  (app 16 aub ([e13]:List (List UInt8))).bind fun l14=>
  some (.inl ((Aa (akZ+1)),l14))
 else
  some (.inr aub))
def FC (a0:Int):Option ((List (List UInt8))):=
 jn (fun(v:(List (List UInt8)))=>Jq v) (fun H_=>
 (FB a0).bind fun r3=>
 (iter (fun(v:Int×(List (List UInt8)))=>IW r3 v.1 v.2) FU ((0:Int),([]:List (List UInt8)))).bind (fun o0=>H_ o0))
def KK:Bb:=mC [RX] 299 Tryz.f299 (.s .n (.s .n (.j ⟨[],[(5, .c (.c (.e_ [5])))],[],[([5], .row 9)]⟩ (.s .n (.l ⟨[1,9,10],[(5, .c (.c (.e_ [5]))),Bd 11],[],[([5], .row 9)]⟩ [(1,⟨[],[(5, .c (.c (.e_ [5])))],[],[([5], .row 9)]⟩)] (.s .n (.s .n (.s (.s .n (.r [] [] (.c 3 .n .n))) .n))))) .n))) [.k (.int .i64), .f 249] [.k (.l_ 9)] (fun x=>FC x.1) Tryz.func299 (by kernel_rfl)
def H9 (ayt:List (List UInt8)):Option ((List UInt8)):=
 (QQ ayt Ln).bind fun r6=>
 some r6
def EK (aeF:Int) (auf:List (List UInt8)):Option ((Int×(List (List UInt8)))⊕((List (List UInt8)))):=
 some (.inl ((Aa (aeF+1)),auf))
def KL (a0:Int) (aeF:Int) (agC:List (List UInt8)):Option ((Int×(List (List UInt8)))⊕((List (List UInt8)))):=
 (if decide (aeF<5) then
  (idx (⟨Kw,Kx,Ky,Kz,KA⟩:A5 (List UInt8)).l aeF).bind fun e16=>
  (k_ (0<=aeF)).bind fun u17=>
  (if((Fn .i64 (Int.fdiv a0 (2 ^ (min (aeF).toNat (IntKind.i64).bits))) (1:Int))==(1:Int)) then
   (app 16 agC ([e16]:List (List UInt8))).bind fun l19=>
   EK aeF l19
  else
   EK aeF agC)
 else
  some (.inr agC))
def EL (a0:Int):Option ((List UInt8)):=
 (Iz a0).bind fun r1=>
 (if !r1 then
  some ([]:List UInt8)
 else if a0==0 then
  some Pi
 else
  (iter (fun(v:Int×(List (List UInt8)))=>KL a0 v.1 v.2) FU ((0:Int),([]:List (List UInt8)))).bind (fun o0=>H9 o0))
def kV (a0:Int) (r:(List UInt8)):Prop:=Cd Tryz.prog I0 279 [vI a0] (· =vS r)
theorem dK {a0:Int} {r:(List UInt8)} (h:EL a0=some r):kV a0 r:=by
 refine Cd.bo Ca Tryz.func279 rfl Tryz.ntmps279 [.tmp 2] fun _ _ _ _=>?_;unfold EL at h;refine Gg [.a] (u [] []) (aN)<|hS ?_;obtain⟨r1,k1,h⟩:=bS h;refine Gg [.a,(.c (vB r1)),.a] (u [] [(8,vB (!r1))]) (aC (oD k1)<|aN)<|iC h (fun h=>?_) (fun h=>?_)
 ·exact Rg [.a] (sl 28 [(2,vS ([]:List UInt8))] []) (aN)<|hR<|Tr<|bQ _ (congrArg vS (sI h))
 refine hK<|Tn<|hS<|Gg [.a,.a] (u [8] [(10,vB (a0==0))]) (aN)<|iC h (fun h=>?_) (fun h=>?_)
 ·exact Rg [.a] (sl 28 [(2,vS Pi)] []) (aN)<|hR<|Tr<|bQ _ (congrArg vS (sI h))
 refine hK<|Tn<|Rg [.a] (sl 28 [(0,vI a0),(3,vO [3])] [Jh [3] 9 1 eS ([]:List (List UInt8))]) (aN)<|Sj (X:=(List (List UInt8))) (fun v=>(sl 28 [(3,vO [3])] [Jh [3] 9 1 eS v])) (fun v=>H9 v=some r) ?_ ?_
 ·refine hS<|hO<|Gp 0 [] (u [] []) (aN)<|Run.inl rfl rfl (DJ.az1 (g:=2) (tab:=EA) rfl hP ?_);refine Gw [.a] (u [] [(12,vI 0)]) (aN)<|Tn<|hB ?_;obtain⟨n1,z0,h⟩:=bS h;refine Gi (fun(v:Int×(List (List UInt8)))=>(uo [] [(12,vI v.1)] [.e (Jh [3] 9 1 eS v.2)])) z0 (wT) ?_;rintro⟨j0,o0⟩ p0 i0 d1;replace i0:KL a0 j0 o0=some p0:=i0;unfold KL at i0;refine Gg [.a] (u [] [(13,vB (decide (j0<5)))]) (aN)<|hS<|iC i0 (fun i0=>?_) (fun i0=>?_)
  ·refine hK<|Tn<|Gj (X:=(List (List UInt8))) (fun v=>(uo [13] [] [.e (Jh [3] 9 1 eS v)])) (fun v=>EK j0 v=some p0) ?_ ?_
   ·refine hB ?_;obtain⟨k0,x0,i0⟩:=bS i0;refine Gg [.a,(.v (vS k0)),.a,.a] (u [13] [(4,vI j0),(5,vS k0)]) (aC (show (0<=j0/\j0<((5:Nat):Int))/\(j0).toNat *1+1<=(eA5 (eS) (⟨Kw,Kx,Ky,Kz,KA⟩:A5 (List UInt8))).length /\toV false ((j0).toNat *1) 1 (eA5 (eS) (⟨Kw,Kx,Ky,Kz,KA⟩:A5 (List UInt8)))=vS k0 from⟨N7 x0,js (e:=eS) (N:=1) (l:=(⟨Kw,Kx,Ky,Kz,KA⟩:A5 (List UInt8)).l) (base:=0) (pre:=[]) (post:=[]) (by kernel_rfl) rfl x0 Ajg (o:=0) (by simp) (by decide) (by decide) (by kernel_rfl)⟩)<|aC (Eq.refl (vS k0))<|aN) ?_;obtain⟨o1,i1,i0⟩:=bS i0;refine Gg (nA 5) (u [4] [(20,vB ((Fn .i64 (Int.fdiv a0 (2 ^ (min (j0).toNat (IntKind.i64).bits))) (1:Int))==(1:Int)))]) (aC (Cm i1)<|aN)<|iC i0 (fun i0=>?_) (fun i0=>?_)
    ·obtain⟨q0,y0,i0⟩:=bS i0;refine Ge [.a,.a,.a,(.e q0.length (q0.flatMap (eS))),.a] (uo [] [(22,vS k0),(23,vO [23]),(24,vO [3])] [.e (Jh [3] 9 1 eS q0),.e (Jh [23] 9 1 eS ([k0]:List (List UInt8)))]) (aC (xo y0 eS)<|aC (Lc y0)<|aN)<|qN<|Tn ⟨q0,i0,wT⟩
    refine hK<|qN<|Tn ⟨o0,i0,wT⟩
   rintro t0 n0;replace n0:EK j0 t0=some p0:=n0;unfold EK at n0;refine Ge [.a,.a] (u [] [(12,vI (Aa (j0+1))),(25,vI (Aa (j0+1)))]) (aN)<|Tn ⟨((Aa (j0+1)),t0),(sI n0).symm,wT⟩
  refine hE<|Te ?_;obtain rfl:=d1 _ (sI i0).symm;refine Te<|qX<|Tn ⟨o0,h,wT⟩
 rintro j1 m0;replace m0:H9 j1=some r:=m0;unfold H9 at m0;obtain⟨r6,m1,m0⟩:=bS m0;exact Rg [.a,(.c (vS r6)),.a] (sl 28 [(2,vS r6)] []) (aC (zK m1)<|aN)<|hR<|bQ _ (congrArg vS (sI m0))def ajS:CE TE Tryz.prog I0:=⟨279,[.k (.int .i64)],[.k (.str)],fun x=>EL x.1,fun x r h=>Ms (by kernel_rfl) (dK (r:=r) h),[],fun h=>absurd rfl h,none,(fun _ h=>nomatch h),none,(fun _ _ h=>nomatch h)⟩
def X3 (amH:List UInt8):Option ((List UInt8)):=
 (BS ([amH,Mv]:List (List UInt8))).bind fun r6=>
 (cat r6 Pm).bind fun s7=>
 some s7
def X4 (amG:List UInt8):Option ((List UInt8)):=
 (BS ([amG,HH]:List (List UInt8))).bind fun r10=>
 (cat r10 Pk).bind fun s11=>
 some s11
def NK (a0:Int):Option ((List UInt8)):=
 (some (if decide (a0<0) then true else decide (17<=a0))).bind fun b1=>
 (if b1 then
  some ([]:List UInt8)
 else
  (k_ (0<=a0)).bind fun u3=>
  jn (fun(v:(List UInt8))=>X3 v) (fun jJ5=>
  jn (fun(v:(List UInt8))=>X4 v) (fun jJ9=>
  (if((Aa ((1:Int)*2 ^ (min (a0).toNat (IntKind.i64).bits)))==(1:Int)) then
   some RQ
  else if((Aa ((1:Int)*2 ^ (min (a0).toNat (IntKind.i64).bits)))==(2:Int)) then
   some VD
  else if((Aa ((1:Int)*2 ^ (min (a0).toNat (IntKind.i64).bits)))==(4:Int)) then
   some VE
  else if((Aa ((1:Int)*2 ^ (min (a0).toNat (IntKind.i64).bits)))==(8:Int)) then
   some Nq
  else if((Aa ((1:Int)*2 ^ (min (a0).toNat (IntKind.i64).bits)))==(16:Int)) then
   some Pj
  else if((Aa ((1:Int)*2 ^ (min (a0).toNat (IntKind.i64).bits)))==(32:Int)) then
   jJ9 Qk
  else if((Aa ((1:Int)*2 ^ (min (a0).toNat (IntKind.i64).bits)))==(64:Int)) then
   jJ9 ([]:List UInt8)
  else if((Aa ((1:Int)*2 ^ (min (a0).toNat (IntKind.i64).bits)))==(128:Int)) then
   some RR
  else if((Aa ((1:Int)*2 ^ (min (a0).toNat (IntKind.i64).bits)))==(256:Int)) then
   some Nr
  else if((Aa ((1:Int)*2 ^ (min (a0).toNat (IntKind.i64).bits)))==(512:Int)) then
   some RS
  else if((Aa ((1:Int)*2 ^ (min (a0).toNat (IntKind.i64).bits)))==(1024:Int)) then
   some Ns
  else if((Aa ((1:Int)*2 ^ (min (a0).toNat (IntKind.i64).bits)))==(2048:Int)) then
   some RU
  else if((Aa ((1:Int)*2 ^ (min (a0).toNat (IntKind.i64).bits)))==(4096:Int)) then
   some RV
  else if((Aa ((1:Int)*2 ^ (min (a0).toNat (IntKind.i64).bits)))==(8192:Int)) then
   some Pl
  else if((Aa ((1:Int)*2 ^ (min (a0).toNat (IntKind.i64).bits)))==(16384:Int)) then
   jJ5 ko
  else if((Aa ((1:Int)*2 ^ (min (a0).toNat (IntKind.i64).bits)))==(65536:Int)) then
   jJ5 ([]:List UInt8)
  else
   some Nt))))
def bY:Bb:=mC [Oc] 287 Tryz.f287 (.s .n (.s .n (.s .n (.s (.s .n (.j ⟨[],[Kt 3],[],[]⟩ (.s (.s (.s (.s (.s (.s (.s (.s (.j ⟨[],[Kt 3],[],[]⟩ .n .n) .n) .n) .n) .n) .n) .n) .n) .n) .n)) .n)))) [.k (.int .i64)] [.k (.str)] (fun x=>NK x.1) Tryz.func287 (by kernel_rfl)
def CU (a0:List UInt8) (a1:Ac):Option ((List UInt8)):=
 (idx (⟨([]:List UInt8),VH,VI,kp⟩:A4 (List UInt8)).l a1.Kind).bind fun e1=>
 (if(e1==([]:List UInt8)) then
  some ([]:List UInt8)
 else
  (cat a0 e1).bind fun s3=>
  (Db a1.N).bind fun r4=>
  (cat s3 r4).bind fun s5=>
  some s5)
def R2:Bb:=mC [NF] 288 Tryz.f288 .n [.k (.str), .s 108] [.k (.str)] (fun x=>CU x.1 x.2.1) Tryz.func288 (by kernel_rfl)
def NL (afU:List UInt8):Option ((List UInt8)):=
 some afU
def Ia (a0:Az) (alX:List UInt8) (agn:Int):Option (((List UInt8)×Int)⊕((List UInt8))):=
 (if decide (agn<5) then
  (idx a0.Color.l agn).bind fun e16=>
  (Zn Mx agn (Aa (agn+1))).bind fun s17=>
  (Lm s17 e16).bind fun r18=>
  (cat alX r18).bind fun s19=>
  some (.inl (s19,(Aa (agn+1))))
 else
  some (.inr alX))
def NM (a0:Az) (ala:List UInt8):Option ((List UInt8)):=
 jn (fun(v:(List UInt8))=>NL v) (fun jJ8=>
 (iter (fun(v:(List UInt8)×Int)=>Ia a0 v.1 v.2) FU (ala,(0:Int))).bind (fun o0=>jJ8 o0))
def MI (a0:Az):Option ((List UInt8)):=
 (Qp a0).bind fun r1=>
 (if !r1 then
  some ([]:List UInt8)
 else if(a0==(⟨0,0,(⟨0,0,0,0,0⟩:A5 (Int))⟩:Az)) then
  some ik
 else
  (Lm uB a0.X).bind fun r4=>
  jn (fun(v:(List UInt8))=>NM a0 v) (fun jJ6=>
  (if decide (0<a0.Generic) then
   (Db a0.Generic).bind fun r21=>
   (cat r4 r21).bind fun s22=>
   jJ6 s22
  else
   jJ6 r4)))
def Xz:Bb:=mC [VL,w4,NF] 262 Tryz.f262 (.s .n (.s .n (.s .n (.s .n (.j ⟨[1],[Kt 3],[[1]],[]⟩ .n (.j ⟨[],[Kt 3],[],[]⟩ (.s .n (.l ⟨[24],[Kt 3,Bd 25],[],[]⟩ [(1,⟨[],[Kt 3],[],[]⟩)] .n)) .n)))))) [.s 99] [.k (.str)] (fun x=>MI x.1) Tryz.func262 (by kernel_rfl)
def HK (a0:Int) (a1:Int):Option (Int×Int):=
 (if decide (a1<1) then
  some ((0:Int),a0)
 else
  (VQ a0).bind fun r2=>
  (k_ ((IntKind.u64.wrap (a1)) ≠ 0)).bind fun u3=>
  some (Aa (Int.tmod r2.1 (IntKind.u64.wrap (a1))),r2.2))
def kW:Bb:=mC [oI] 56 Tryz.f56 .n [.k (.int .u64), .k (.int .i64)] [.k (.int .i64), .k (.int .u64)] (fun x=>HK x.1 x.2.1) Tryz.func56 (by kernel_rfl)
def Og (a0:Al):Option (Al):=
 (Ay a0.S_).bind fun r1=>
 (Ay a0.Hand).bind fun r2=>
 (Ay a0.acm).bind fun r3=>
 some (⟨a0.adL,a0.akI,a0.akJ,a0.abE,a0.air,a0.am9,r1,r2,r3⟩:Al)
def T9:Bb:=mX [BH] 66 Tryz.f66 (.s .n (.s (.r [] [] (.q 2 .co .n)) (.s (.r [] [] (.q 2 .co .n)) (.s (.r [] [] (.q 2 .co .n)) .n)))) [[0,0,0,0,0,0,0,0,0,0,0,1,1,1]] [.s 61] [.s 61] (fun x=>Og x.1) Tryz.func66 (by kernel_rfl)
def QH (a0:AE) (r1:(List (AZ))) (r2:(List (Da))) (amE:List (Av)):Option (AE):=
 some (⟨a0.Kind,a0.Filter,r1,a0.acb,a0.ahg,a0.aay,a0.May,r2,amE,a0.Replace⟩:AE)
def Pv (r3:(List (Av))) (afS:Int) (ach:List (Av)):Option ((Int×(List (Av)))⊕((List (Av)))):=
 (if(decide (afS<(r3.length:Int))) then
  (idx ach afS).bind fun e14=>
  (idx ach afS).bind fun e15=>
  (A8 e15.aap).bind fun r16=>
  (idx ach afS).bind fun e17=>
  (idx ach afS).bind fun e19=>
  (some (ach.set (afS).toNat ({e19 with aap:=r16}))).bind fun l18=>
  some (.inl ((Aa (afS+1)),l18))
 else
  some (.inr ach))
def HL (a0:AE):Option (AE):=
 (A8 a0.aap).bind fun r1=>
 (BJ a0.aai).bind fun r2=>
 (Bx a0.n_).bind fun r3=>
 jn (fun(v:(List (Av)))=>QH a0 r1 r2 v) (fun jJ5=>
 (iter (fun(v:Int×(List (Av)))=>Pv r3 v.1 v.2) FU ((0:Int),r3)).bind (fun o0=>jJ5 o0))
def R3:Bb:=mC [Dt,GT,Fl] 69 Tryz.f69 (.s .n (.s (.r [] [] (.q 2 .co .n)) (.s (.r [] [] (.q 2 .co .n)) (.s (.r [] [] (.q 2 .co .n)) (.j ⟨[1,2],[],[[1],[0,0,6],[0,0,10],[2]],[([0,0,14], .row 180)]⟩ (.s .n (.l ⟨[1,2,18],[Bd 19],[[1],[0,0,6],[0,0,10],[2]],[([0,0,14], .row 180)]⟩ [(1,⟨[1,2],[],[[1],[0,0,6],[0,0,10],[2]],[([0,0,14], .row 180)]⟩)] (.s .n (.s .n (.s (.s .n (.r [] [] (.t .n))) .n))))) .n))))) [.s 121] [.s 121] (fun x=>HL x.1) Tryz.func69 (by kernel_rfl)
def Oh (a0:Int) (a1:Int):Option (Int):=
 (LS a0).bind fun r1=>
 (LS a1).bind fun r2=>
 (if r1 then
  (if r2 then
   some (0:Int)
  else
   some (-1:Int))
 else if r2 then
  some (1:Int)
 else if decide (a0<a1) then
  some (-1:Int)
 else if decide (a1<a0) then
  some (1:Int)
 else
  some (0:Int))
def Ua:Bb:=mC [XZ] 114 Tryz.f114 .n [.k (.int .i64), .k (.int .i64)] [.k (.int .i64)] (fun x=>Oh x.1 x.2.1) Tryz.func114 (by kernel_rfl)
def Dv (a0:List (Int)) (a1:Int):Option (Bool):=
 (EJ a0 a1).bind fun r1=>
 some (decide (0<=r1))
def Fg:Bb:=mC [GV] 75 Tryz.f75 .n [.k (.l_ 3), .k (.int .i64)] [.k (.bool)] (fun x=>Dv x.1 x.2.1) Tryz.func75 (by kernel_rfl)
def kX:Option ((List (Int))):=
 some ([]:List (Int))
def MJ (a0:Ai) (a1:Int) (a2:Int):Option ((List (Int))):=
 jn (fun(v:Unit)=>kX) (fun jJ1=>
 (if a1==0 then
  none
 else if a1==4 then
  none
 else
  (some (if decide (a2<0) then true else decide ((a0.g_.length:Int)<=a2))).bind fun b4=>
  (if b4 then
   none
  else
   (idx a0.g_ a2).bind fun e6=>
   (if a1==1 then
    (if true then
     (Ay e6.Hand).bind fun r9=>
     some r9
    else
     jJ1 ())
   else if a1==2 then
    (if true then
     (Ay e6.S_).bind fun r12=>
     some r12
    else
     jJ1 ())
   else if a1==3 then
    none
   else
    none))))
def Pw:Bb:=mC [BH] 37 Tryz.f37 (.s .n (.j IT (.s (.r [] [] (.c 2 (.s (.r [] [] (.g 0 (.ug [10]) .n)) (.s (.s .n (.s .n (.i .x (.s .n (.i .x .n))))) (.s (.s .n (.i .x .n)) (.s .n (.s (.s .n (.s .n (.i .n (.s .n (.i .n (.s .n (.i .x .n))))))) .x))))) .n)) (.s .n (.i (.s (.r [] [] (.q 3 .co .n)) .n) .n))) .n)) [.s 36, .k (.int .i64), .k (.int .i64)] [.k (.l_ 3)] (fun x=>MJ x.1 x.2.1 x.2.2.1) Tryz.func37 (by kernel_rfl)
def iE (a0:Ai) (a1:Int):Option (Am×Bool):=
 (bD a0 a1).bind fun r1=>
 (if decide (r1<0) then
  some ((⟨0,0,0,0,0,false,false,false,false,0,(⟨0,0,0⟩:A3 (Int)),0,0,0,false,0,0⟩:Am),false)
 else
  (idx a0.d_ r1).bind fun e3=>
  some (e3,true))
def o6:Bb:=mC [kK] 116 Tryz.f116 .n [.s 36, .k (.int .i64)] [.s 70, .k (.bool)] (fun x=>iE x.1 x.2.1) Tryz.func116 (by kernel_rfl)
def VZ (anM:List (Int)):Option ((List (Int))):=
 some anM
def V0 (jJ3:((List (Int)))->Option ((List (Int)))) (adv:Int) (aa7:List (Int)):Option ((List (Int))):=
 (k_ (0<=adv/\adv<=((aa7.length:Nat):Int)/\((aa7.length:Nat):Int)<=((aa7.length:Nat):Int)/\0<aa7.length)).bind fun u10=>
 (k_ (adv+(((aa7.length:Nat):Int) - adv)<=((aa7.length:Nat):Int)/\0<aa7.length)).bind fun u11=>
 (some (aa7.take adv.toNat++(List.replicate (((aa7.length:Nat):Int) - adv).toNat (0:Int)++aa7.drop (adv.toNat+(((aa7.length:Nat):Int) - adv).toNat)))).bind fun l12=>
 (k_ (0<=(0:Int)/\0<=adv/\adv<=((l12.length:Nat):Int)/\0<l12.length)).bind fun u13=>
 (k_ ((0:Int)=0/\(adv - 0)<=((l12.length:Nat):Int)/\0<l12.length)).bind fun u14=>
 jJ3 (l12.take (adv - 0).toNat)
def Ub (agU:Int) (ara:Int) (amD:List (Int)):Option ((Int×Int×(List (Int)))⊕((Int×(List (Int))))):=
 some (.inl (ara,(Aa (agU+1)),amD))
def Uc (a1:Int) (agV:Int) (agU:Int) (abF:List (Int)):Option ((Int×Int×(List (Int)))⊕((Int×(List (Int))))):=
 (if(decide (agU<(abF.length:Int))) then
  jn (fun(v:Int×(List (Int)))=>Ub agU v.1 v.2) (fun anR=>
  (idx abF agU).bind fun e30=>
  (idx abF agU).bind fun e31=>
  (if !(e31==a1) then
   (idx abF agV).bind fun e33=>
   (idx abF agV).bind fun e35=>
   (some (abF.set (agV).toNat e31)).bind fun l34=>
   anR ((Aa (agV+1)),l34)
  else
   anR (agV,abF)))
 else
  some (.inr (agV,abF)))
def V1 (a1:Int) (r1:(List (Int))) (jJ3:((List (Int)))->Option ((List (Int)))) (ak2:Int):Option ((List (Int))):=
 (if(ak2==(-1:Int)) then
  jJ3 r1
 else
  jn (fun(v:Int×(List (Int)))=>V0 jJ3 v.1 v.2) (fun jJ9=>
  (iter (fun(v:Int×Int×(List (Int)))=>Uc a1 v.1 v.2.1 v.2.2) FU (ak2,(Aa (ak2+1)),r1)).bind (fun o0=>jJ9 (o0.1,o0.2))))
def Ud (jJ5:(Int)->Option ((List (Int)))):Option ((List (Int))):=
 jJ5 (-1:Int)
def Ue (a1:Int) (r1:(List (Int))) (ahJ:Int):Option ((Int)⊕(Unit⊕Int)):=
 (if(decide (ahJ<(r1.length:Int))) then
  (idx r1 ahJ).bind fun e42=>
  (idx r1 ahJ).bind fun e43=>
  (if e43==a1 then
   some (.inr (.inr ahJ))
  else
   some (.inl (Aa (ahJ+1))))
 else
  some (.inr (.inl ())))
def LU (a0:List (Int)) (a1:Int):Option ((List (Int))):=
 (Ay a0).bind fun r1=>
 jn (fun(v:(List (Int)))=>VZ v) (fun jJ3=>
 jn (fun(v:Int)=>V1 a1 r1 jJ3 v) (fun jJ5=>
 jn (fun(v:Unit)=>Ud jJ5) (fun apF=>
 (iter (fun(v:Int)=>Ue a1 r1 v) FU (0:Int)).bind (Sum.elim (fun o0=>apF ()) (fun o1=>jJ5 o1)))))
def X5:Bb:=mX [BH] 165 Tryz.f165 (.s .n (.s (.r [] [] (.q 1 .co (.j 3 ⟨[],[(8, .c (.c (.e_ [0,0,6])))],[],[([0,0,6], .row 3)]⟩ (.s (.r [] [] (.g 0 (.ug [8]) .n)) (.s (.r [] [] (.j 2 ⟨[0,1],[Bd 10],[[0,0,6],[3]],[]⟩ (.s (.r [] [] (.g 0 (.ug [0,1,10]) .n)) (.j ⟨[],[],[[0,0,6],[3]],[]⟩ (.s .n (.l ⟨[0,1,7],[Bd 8],[[0,0,6],[3]],[]⟩ [(1,⟨[],[],[[0,0,6],[3]],[]⟩),(0,⟨[],[Bd 4],[[0,0,6],[3]],[]⟩)] (.s .n (.s .n (.s (.s .n (.s (.r [] [] (.c 5 (.s (.r [] [] (.g 0 (.ug [0,1,5,7,8,16]) .n)) .n) .n)) .n)) .n))))) .n)) .n)) (.s .n (.j ⟨[0],[Bd 5],[],[([0,0,6], .row 3)]⟩ (.s .n (.l ⟨[0,1],[Bd 5,Bd 6],[[3]],[([0,0,6], .row 3)]⟩ [(1,⟨[0],[Bd 5],[],[([0,0,6], .row 3)]⟩)] (.s .n (.j ⟨[0,1,6],[Bd 5],[[3]],[([0,0,6], .row 3)]⟩ (.s .n (.s (.r [] [] (.c 2 (.s (.r [] [] (.g 0 (.ug [0,1,5,6,7,28]) .n)) .n) .n)) .n)) .n)))) (.s (.r [] [] (.q 2 (.sub true) (.q 3 .clr .n))) (.s (.r [] [] (.q 2 (.sub true) (.g 3 (.tr 41) .n))) .n)))))) .n))) .n)) [[1]] [.k (.l_ 3), .k (.int .i64)] [.k (.l_ 3)] (fun x=>LU x.1 x.2.1) Tryz.func165 (by kernel_rfl)
def X6 (a2:Int) (avT:Am):Option (Am):=
 some ({avT with avY:=a2==0})
def Uf (a0:Am) (a1:Int) (a2:Int) (a3:Int) (a4:Int):Option (Am):=
 (RZ a1 a0.ad1 a0.y_ a2 a4).bind fun r1=>
 jn (fun(v:Am)=>X6 a2 v) (fun jJ3=>
 (some (if a2==0 then true else a2==5)).bind fun b4=>
 (if b4 then
  jJ3 ({{r1 with Token:=a0.Token}with Control:=a3})
 else
  jJ3 ({r1 with Token:=a0.Token})))
def bZ:Bb:=mC [TY] 118 Tryz.f118 (.s .n (.s .n (.s .n (.j ⟨[2,10,11],[],[[10]],[([11], .box [.v (.s 70)])]⟩ .n .n)))) [.s 70, .k (.int .i64), .k (.int .i64), .k (.int .i64), .k (.int .i64)] [.s 70] (fun x=>Uf x.1 x.2.1 x.2.2.1 x.2.2.2.1 x.2.2.2.2.1) Tryz.func118 (by kernel_rfl)
def b0:Option ((List (Int))):=
 some ([]:List (Int))
def cd (a0:Cb) (jJ1:(Unit)->Option ((List (Int)))) (ak3:Bool):Option ((List (Int))):=
 (if ak3 then
  some ([(0:Int)]:List (Int))
 else if a0.Kind==3 then
  (VU (if(a0.Options.length:Int)<(if a0.aes<0 then(0:Int)else a0.aes)then(a0.Options.length:Int)else(if a0.aes<0 then(0:Int)else a0.aes))).bind fun r6=>
  some r6
 else if a0.Kind==4 then
  (VU (a0.Options.length:Int)).bind fun r8=>
  some r8
 else if a0.Kind==5 then
  some ([a0.aes]:List (Int))
 else if a0.Kind==8 then
  (if(decide (0<(a0.Options.length:Int))) then
   (k_ (0<=(a0.Options.length:Int)/\(a0.Options.length:Int)<=(a0.Options.length:Int)/\(a0.Options.length:Int)*8<=140737488355328/\(a0.Options.length:Int)<=maxLen)).bind fun u13=>
   (some (List.replicate ((a0.Options.length:Int)).toNat (0:Int))).bind fun l12=>
   (idx l12 (0:Int)).bind fun e14=>
   (idx l12 (0:Int)).bind fun e16=>
   (some (l12.set ((0:Int)).toNat a0.N)).bind fun l15=>
   some l15
  else
   jJ1 ())
 else
  jJ1 ())
def Px (a0:Cb):Option ((List (Int))):=
 jn (fun(v:Unit)=>b0) (fun jJ1=>
 jn (fun(v:Bool)=>cd a0 jJ1 v) (fun jJ3=>
 (if a0.Kind==1 then
  jJ3 (a0.Kind==1)
 else if a0.Kind==2 then
  jJ3 (a0.Kind==2)
 else if a0.Kind==9 then
  jJ3 (a0.Kind==9)
 else if a0.Kind==10 then
  jJ3 (a0.Kind==10)
 else
  jJ3 (a0.Kind==11))))
def dM:Bb:=mC [oJ] 80 Tryz.f80 (.s .n (.s .n (.j IT (.s .n (.j ⟨[1,3,9],[ES 10],[[1]],[]⟩ .n .n)) .n))) [.s 54] [.k (.l_ 3)] (fun x=>Px x.1) Tryz.func80 (by kernel_rfl)
def XA (a0:List (Int)) (a1:Int):Option (Int):=
 (EJ a0 a1).bind fun r1=>
 some r1
def dN:Bb:=mC [GV] 173 Tryz.f173 .n [.k (.l_ 3), .k (.int .i64)] [.k (.int .i64)] (fun x=>XA x.1 x.2.1) Tryz.func173 (by kernel_rfl)
def iF:Option (Bool):=
 some true
def KM (a0:List UInt8) (acq:Int):Option ((Int)⊕(Unit⊕Bool)):=
 (if(decide (acq<(a0.length:Int))) then
  (IS a0 acq).bind fun c14=>
  (T0 c14).bind fun r15=>
  (gd ((!r15)==true) (IS a0 acq)).bind fun c16=>
  (gd (((!r15)==true)&&((decide (c16<48))==false)) (IS a0 acq)).bind fun c17=>
  (some (if decide (c16<48) then true else decide (57<c17))).bind fun b18=>
  (some (if !r15 then b18 else false)).bind fun b19=>
  (gd (b19==true) (IS a0 acq)).bind fun c20=>
  (some (if b19 then c20 != 45 else false)).bind fun b21=>
  (if b21 then
   some (.inr (.inr false))
  else
   (gd ((decide (0<acq))==true) (IS a0 acq)).bind fun c23=>
   (some (if decide (0<acq) then c23==45 else false)).bind fun b24=>
   (gd (b24==true) (IS a0 (Aa (acq - 1)))).bind fun c25=>
   (some (if b24 then c25==45 else false)).bind fun b26=>
   (if b26 then
    some (.inr (.inr false))
   else
    some (.inl (Aa (acq+1)))))
 else
  some (.inr (.inl ())))
def V2 (a0:List UInt8):Option (Bool):=
 (some (if(decide ((a0.length:Int)<1)) then true else decide (32<(a0.length:Int)))).bind fun b1=>
 (gd (b1==false) (IS a0 (0:Int))).bind fun c2=>
 (gd (b1==false) (T0 c2)).bind fun r3=>
 (some (if b1 then true else !r3)).bind fun b4=>
 (gd (b4==false) (IS a0 (Aa ((a0.length:Int) - (1:Int))))).bind fun c5=>
 (some (if b4 then true else c5==45)).bind fun b6=>
 (if b6 then
  some false
 else
  jn (fun(v:Unit)=>iF) (fun jJ8=>
  (iter (fun(v:Int)=>KM a0 v) FU (0:Int)).bind (Sum.elim (fun o0=>jJ8 ()) (fun o1=>some o1))))
def ce:Bb:=mC [w5] 105 Tryz.f105 (.s .n (.s .n (.j IT (.s .n (.l ⟨[0],[Bd 3],[],[]⟩ [(1,IT),(0,⟨[],[ES 2],[],[]⟩)] .n)) .n))) [.k (.str)] [.k (.bool)] (fun x=>V2 x.1) Tryz.func105 (by kernel_rfl)
def dO (arp:List UInt8):Option ((List UInt8)):=
 some arp
def cf (aeV:Int) (apk:List UInt8):Option (((List UInt8)×Int)⊕((List UInt8))):=
 some (.inl (apk,(Aa (aeV+1))))
def cg (a0:List (List UInt8)) (aeV:Int) (aaR:((List UInt8))->Option (((List UInt8)×Int)⊕((List UInt8)))) (apj:List UInt8):Option (((List UInt8)×Int)⊕((List UInt8))):=
 (idx a0 aeV).bind fun e16=>
 (cat apj e16).bind fun s17=>
 aaR s17
def dP (a0:List (List UInt8)) (a1:Int) (a2:List UInt8) (ahR:List UInt8) (aeV:Int):Option (((List UInt8)×Int)⊕((List UInt8))):=
 (if(decide (aeV<(a0.length:Int))) then
  jn (fun(v:(List UInt8))=>cf aeV v) (fun aaR=>
  (Lw a1 aeV).bind fun r12=>
  (if r12 then
   jn (fun(v:(List UInt8))=>cg a0 aeV aaR v) (fun ad9=>
   (if(ahR != ([]:List UInt8)) then
    (cat ahR a2).bind fun s19=>
    ad9 s19
   else
    ad9 ahR))
  else
   aaR ahR))
 else
  some (.inr ahR))
def ci (a0:List (List UInt8)) (a1:Int) (a2:List UInt8):Option ((List UInt8)):=
 jn (fun(v:(List UInt8))=>dO v) (fun H_=>
 (iter (fun(v:(List UInt8)×Int)=>dP a0 a1 a2 v.1 v.2) FU (([]:List UInt8),(0:Int))).bind (fun o0=>H_ o0))
def kY:Bb:=mC [iA] 232 Tryz.f232 (.s .n (.s .n (.j ⟨[],[Kt 7],[],[]⟩ (.s .n (.l ⟨[0,1,2],[Kt 7,Bd 8],[],[]⟩ [(1,⟨[],[Kt 7],[],[]⟩)] (.s .n (.j ⟨[0,1,2,8],[Kt 7],[],[]⟩ (.s .n (.i (.j ⟨[0,1,2,8],[Kt 7],[],[]⟩ .n .n) .n)) .n)))) .n))) [.k (.l_ 9), .k (.int .i64), .k (.str)] [.k (.str)] (fun x=>ci x.1 x.2.1 x.2.2.1) Tryz.func232 (by kernel_rfl)
def o7 (anC:List UInt8):Option ((List UInt8)):=
 some anC
def kZ (adE:Int) (amy:List UInt8):Option (((List UInt8)×Int)⊕((List UInt8))):=
 some (.inl (amy,(Aa (adE+1))))
def la (adE:Int) (ade:((List UInt8))->Option (((List UInt8)×Int)⊕((List UInt8)))) (amw:List UInt8):Option (((List UInt8)×Int)⊕((List UInt8))):=
 (Ps adE).bind fun r20=>
 (cat amw r20).bind fun s21=>
 ade s21
def lb (a0:Int) (aeJ:List UInt8) (adE:Int):Option (((List UInt8)×Int)⊕((List UInt8))):=
 (if decide (adE<5) then
  jn (fun(v:(List UInt8))=>kZ adE v) (fun ade=>
  (k_ (0<=adE)).bind fun u15=>
  (k_ ((Aa ((1:Int)*2 ^ (min (adE).toNat (IntKind.i64).bits))) ≠ 0)).bind fun u16=>
  (if((Int.tmod (Aa (Int.tdiv a0 (Aa ((1:Int)*2 ^ (min (adE).toNat (IntKind.i64).bits))))) (2:Int))==(1:Int)) then
   jn (fun(v:(List UInt8))=>la adE ade v) (fun aeS=>
   (if(aeJ != ([]:List UInt8)) then
    (cat aeJ Ln).bind fun s23=>
    aeS s23
   else
    aeS aeJ))
  else
   ade aeJ))
 else
  some (.inr aeJ))
def MK (a0:Int):Option ((List UInt8)):=
 (kQ a0).bind fun r1=>
 (if !r1 then
  some ([]:List UInt8)
 else if a0==0 then
  some Pi
 else
  jn (fun(v:(List UInt8))=>o7 v) (fun jJ5=>
  (iter (fun(v:(List UInt8)×Int)=>lb a0 v.1 v.2) FU (([]:List UInt8),(0:Int))).bind (fun o0=>jJ5 o0)))
def sK:Bb:=mC [zZ,bL] 196 Tryz.f196 (.s .n (.s .n (.s .n (.s .n (.j ⟨[],[Kt 3],[],[]⟩ (.s .n (.l ⟨[0],[Kt 3,Bd 4],[],[]⟩ [(1,⟨[],[Kt 3],[],[]⟩)] (.s .n (.j ⟨[0,4],[Kt 3],[],[]⟩ (.s .n (.i (.j ⟨[0,4],[Kt 3],[],[]⟩ .n .n) .n)) .n)))) .n))))) [.k (.int .i64)] [.k (.str)] (fun x=>MK x.1) Tryz.func196 (by kernel_rfl)
def Ug (a0:Int):Option ((List UInt8)):=
 (some (if decide (a0<0) then true else decide (16<a0))).bind fun b1=>
 (if b1 then
  some ([]:List UInt8)
 else
  (iB).bind fun r3=>
  (idx r3 a0).bind fun e4=>
  some e4)
def cj:Bb:=mC [oP] 235 Tryz.f235 .n [.k (.int .i64)] [.k (.str)] (fun x=>Ug x.1) Tryz.func235 (by kernel_rfl)
def Dw (a0:Int):Option ((List UInt8)):=
 (if decide (a0<0) then
  (KI (IntKind.u64.wrap (0 - (IntKind.u64.wrap (a0))))).bind fun r2=>
  (cat Acw r2).bind fun s3=>
  some s3
 else
  (KI (IntKind.u64.wrap (a0))).bind fun r4=>
  some r4)
def R4:Bb:=mC [ajR] 199 Tryz.f199 .n [.k (.int .i64)] [.k (.str)] (fun x=>Dw x.1) Tryz.func199 (by kernel_rfl)
def Qs (a0:BX):Option (Bool):=
 (VW a0.ahB).bind fun r1=>
 (some (if r1 then a0.ahB.X==0 else false)).bind fun b2=>
 (some (if b2 then decide (0<=a0.adL)else false)).bind fun b3=>
 (some (if b3 then decide (a0.adL<=99)else false)).bind fun b4=>
 some b4
def o8:Bb:=mC [bI] 138 Tryz.f138 .n [.s 113] [.k (.bool)] (fun x=>Qs x.1) Tryz.func138 (by kernel_rfl)
def LV (a0:Int):Option (Bool):=
 (ID a0).bind fun r1=>
 (gd ((r1 != ([]:List UInt8))==true) (KJ a0)).bind fun r2=>
 (some (if !r2 then true else a0==9)).bind fun b3=>
 (some (if(r1 != ([]:List UInt8)) then b3 else false)).bind fun b4=>
 some b4
def X7:Bb:=mC [bP,T6] 187 Tryz.f187 .n [.k (.int .i64)] [.k (.bool)] (fun x=>LV x.1) Tryz.func187 (by kernel_rfl)
def o9:Option (Bool):=
 some false
def pe (a1:Int) (r1:(List UInt8)) (alA:Int):Option ((Int)⊕(Unit⊕Bool)):=
 (if(decide (alA<(r1.length:Int))) then
  (IS r1 alA).bind fun c8=>
  (if c8==a1 then
   some (.inr (.inr true))
  else
   some (.inl (Aa (alA+1))))
 else
  some (.inr (.inl ())))
def BA (a0:Int) (a1:Int):Option (Bool):=
 (oU a0).bind fun r1=>
 jn (fun(v:Unit)=>o9) (fun H_=>
 (iter (fun(v:Int)=>pe a1 r1 v) FU (0:Int)).bind (Sum.elim (fun o0=>H_ ()) (fun o1=>some o1)))
def sL:Bb:=mC [sE] 225 Tryz.f225 (.s .n (.s .n (.j IT (.s .n (.l ⟨[1,5],[Bd 6],[],[]⟩ [(1,IT),(0,⟨[],[ES 4],[],[]⟩)] .n)) .n))) [.k (.int .i64), .k (.int .u8)] [.k (.bool)] (fun x=>BA x.1 x.2.1) Tryz.func225 (by kernel_rfl)
def Py:Option (Bool):=
 some true
def Pz (aal:Int):Option ((Int)⊕(Unit⊕Bool)):=
 some (.inl (Aa (aal+1)))
def DR (a0:List (AO)) (a1:AO) (aal:Int) (alx:Int):Option ((Int)⊕(Unit⊕Bool)):=
 (idx a1.j_ aal).bind fun e12=>
 (if(decide (alx<(e12.n_.length:Int))) then
  (idx a1.j_ aal).bind fun e14=>
  (idx e14.n_ alx).bind fun e15=>
  (gd ((e15.Op==12)==true) (Qr a0 e15.ad1)).bind fun r16=>
  (some (if e15.Op==12 then !r16 else false)).bind fun b17=>
  (if b17 then
   some (.inr (.inr false))
  else
   some (.inl (Aa (alx+1))))
 else
  some (.inr (.inl ())))
def EM (a0:List (AO)) (a1:AO) (aal:Int):Option ((Int)⊕(Unit⊕Bool)):=
 (if(decide (aal<(a1.j_.length:Int))) then
  jn (fun(v:Unit)=>Pz aal) (fun jJ7=>
  (iter (fun(v:Int)=>DR a0 a1 aal v) FU (0:Int)).bind (Sum.elim (fun o0=>jJ7 ()) (fun o1=>some (.inr (.inr o1)))))
 else
  some (.inr (.inl ())))
def Ly (a0:List (AO)) (a1:AO):Option (Bool):=
 jn (fun(v:Unit)=>Py) (fun jJ1=>
 (iter (fun(v:Int)=>EM a0 a1 v) FU (0:Int)).bind (Sum.elim (fun o0=>jJ1 ()) (fun o1=>some o1)))
def dQ:Bb:=mC [oW] 64 Tryz.f64 (.s .n (.j IT (.s .n (.l ⟨[0,3],[Bd 5],[[3]],[]⟩ [(1,IT),(0,⟨[],[ES 4],[],[]⟩)] (.s .n (.j ⟨[0,3,5],[],[[3]],[]⟩ (.s .n (.l ⟨[0,3,5],[Bd 6],[[3]],[]⟩ [(3,⟨[0,3,5],[],[[3]],[]⟩),(0,⟨[],[ES 4],[],[]⟩)] .n)) .n)))) .n)) [.k (.l_ 102), .s 102] [.k (.bool)] (fun x=>Ly x.1 x.2.1) Tryz.func64 (by kernel_rfl)
def V3 (a0:Int) (a1:Int):Option (Int×Int):=
 (if decide (a1<1) then
  some ((0:Int),a0)
 else
  (o4 a0).bind fun r2=>
  (k_ ((IntKind.u64.wrap (a1)) ≠ 0)).bind fun u3=>
  some (Aa (Int.tmod r2.1 (IntKind.u64.wrap (a1))),r2.2))
def pg:Bb:=mC [sJ] 57 Tryz.f57 .n [.k (.int .u64), .k (.int .i64)] [.k (.int .i64), .k (.int .u64)] (fun x=>V3 x.1 x.2.1) Tryz.func57 (by kernel_rfl)
def GZ (a0:Al) (a1:Al):Option (Bool):=
 (some (if a0.adL != a1.adL then true else a0.akI != a1.akI)).bind fun b1=>
 (some (if b1 then true else a0.akJ != a1.akJ)).bind fun b2=>
 (some (if b2 then true else !(a0.abE==a1.abE))).bind fun b3=>
 (some (if b3 then true else a0.air != a1.air)).bind fun b4=>
 (some (if b4 then true else a0.am9 != a1.am9)).bind fun b5=>
 (if b5 then
  some false
 else
  (GY a0.S_ a1.S_).bind fun r7=>
  (gd (r7==true) (GY a0.Hand a1.Hand)).bind fun r8=>
  (some (if r7 then r8 else false)).bind fun b9=>
  (gd (b9==true) (GY a0.acm a1.acm)).bind fun r10=>
  (some (if b9 then r10 else false)).bind fun b11=>
  some b11)
def V4:Bb:=mC [bX] 58 Tryz.f58 .n [.s 61, .s 61] [.k (.bool)] (fun x=>GZ x.1 x.2.1) Tryz.func58 (by kernel_rfl)
end Go.PL
