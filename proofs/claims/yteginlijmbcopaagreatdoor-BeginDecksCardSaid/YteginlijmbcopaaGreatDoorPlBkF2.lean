/- Functions of the program, as partial functions in Lean, with proofs. -/
import Derived.Test.YteginlijmbcopaaGreatDoorPlBkB
import Derived.Test.YteginlijmbcopaaGreatDoorPlBkF0
import Derived.Test.YteginlijmbcopaaGreatDoorPlBkF1
namespace Go.PL
open Go Go.RowKit Go.Proofs
set_option maxRecDepth 100000
set_option linter.all false
set_option maxHeartbeats 4000000
attribute [local irreducible] Ad Cx Cr
def HN (a0:List UInt8):Option (Bool):=
 (Pq a0).bind fun r1=>
 (gd (r1==true) (CG a0 (2:Int))).bind fun r2=>
 (some (if r1 then r2==0 else false)).bind fun b3=>
 (gd (b3==true) (CR a0 (6:Int))).bind fun r4=>
 (some (if b3 then r4==0 else false)).bind fun b5=>
 some b5
def Ng:Cj:=mC [T5,KP,LK] 202 Tryz.f202 .n [.k (.str)] [.k (.bool)] (fun x=>HN x.1) Tryz.func202 (by kernel_rfl)
def DB (a0:Aj):Option (Bool):=
 (A9 a0.Kind (3:Int)).bind fun r1=>
 (gd (r1==true) (A9 a0.N (1000000:Int))).bind fun r2=>
 (some (if r1 then r2 else false)).bind fun b3=>
 (some (if a0.Kind != 0 then true else a0.N==0)).bind fun b4=>
 (some (if b3 then b4 else false)).bind fun b5=>
 some b5
def Ui:Cj:=mC [Mq] 251 Tryz.f251 .n [.s 108] [.k (.bool)] (fun x=>DB x.1) Tryz.func251 (by kernel_rfl)
def Jv (awK:List (List UInt8)):Option ((List (List UInt8))):=
 some awK
def I3 (r3:(List (Int))) (aka:Int) (asL:List (List UInt8)):Option ((Int×(List (List UInt8)))⊕((List (List UInt8)))):=
 (if(decide (aka<(r3.length:Int))) then
  (idx r3 aka).bind fun e12=>
  (idx (⟨Jp,Lf,M9,Pm,Pn,RY⟩:A6 (List UInt8)).l e12).bind fun e13=>
  (app 16 asL ([e13]:List (List UInt8))).bind fun l14=>
  some (.inl ((Ac (aka+1)),l14))
 else
  some (.inr asL))
def FL (a0:Int):Option ((List (List UInt8))):=
 jn (fun(v:(List (List UInt8)))=>Jv v) (fun jJ2=>
 (FK a0).bind fun r3=>
 (iter (fun(v:Int×(List (List UInt8)))=>I3 r3 v.1 v.2) FU ((0:Int),([]:List (List UInt8)))).bind (fun o0=>jJ2 o0))
def KF:Cj:=mC [QL] 299 Tryz.f299 (.s .n (.s .n (.j ⟨[],[(5, .c (.c (.j_ [5])))],[],[([5], .row 9)]⟩ (.s .n (.l ⟨[1,9,10],[(5, .c (.c (.j_ [5]))),BS 11],[],[([5], .row 9)]⟩ [(1,⟨[],[(5, .c (.c (.j_ [5])))],[],[([5], .row 9)]⟩)] (.s .n (.s .n (.s (.s .n (.r [] [] (.c 3 .n .n))) .n))))) .n))) [.k (.int .i64), .f 249] [.k (.t_ 9)] (fun x=>FL x.1) Tryz.func299 (by kernel_rfl)
def Ig (awL:List (List UInt8)):Option ((List UInt8)):=
 (PR awL WD).bind fun r6=>
 some r6
def ER (adT:Int) (asP:List (List UInt8)):Option ((Int×(List (List UInt8)))⊕((List (List UInt8)))):=
 some (.inl ((Ac (adT+1)),asP))
def KG (a0:Int) (adT:Int) (afq:List (List UInt8)):Option ((Int×(List (List UInt8)))⊕((List (List UInt8)))):=
 (if decide (adT<5) then
  (idx (⟨Kx,Ky,Kz,KA,KB⟩:A5 (List UInt8)).l adT).bind fun e16=>
  (n_ (0<=adT)).bind fun u17=>
  (if((JS .i64 (Int.fdiv a0 (2 ^ (min (adT).toNat (IntKind.i64).bits))) (1:Int))==(1:Int)) then
   (app 16 afq ([e16]:List (List UInt8))).bind fun l19=>
   ER adT l19
  else
   ER adT afq)
 else
  some (.inr afq))
def ES (a0:Int):Option ((List UInt8)):=
 (IG a0).bind fun r1=>
 (if !r1 then
  some ([]:List UInt8)
 else if a0==0 then
  some YI
 else
  (iter (fun(v:Int×(List (List UInt8)))=>KG a0 v.1 v.2) FU ((0:Int),([]:List (List UInt8)))).bind (fun o0=>Ig o0))
def gN (a0:Int) (r:(List UInt8)):Prop:=BV Tryz.prog I0 279 [vI a0] (· =vS r)
theorem aL {a0:Int} {r:(List UInt8)} (h:ES a0=some r):gN a0 r:=by
 refine BV.bo BT Tryz.func279 rfl Tryz.ntmps279 [.tmp 2] fun _ _ _ _=>?_;unfold ES at h;refine Gg [.a] (u [] []) (aN)<|hS ?_;obtain⟨r1,k1,h⟩:=bS h;refine Gg [.a,(.c (vB r1)),.a] (u [] [(8,vB (!r1))]) (aC (kV k1)<|aN)<|iC h (fun h=>?_) (fun h=>?_)
 ·exact Rg [.a] (sl 28 [(2,vS ([]:List UInt8))] []) (aN)<|hR<|Tr<|bQ _ (congrArg vS (sI h))
 refine hK<|Tn<|hS<|Gg [.a,.a] (u [8] [(10,vB (a0==0))]) (aN)<|iC h (fun h=>?_) (fun h=>?_)
 ·exact Rg [.a] (sl 28 [(2,vS YI)] []) (aN)<|hR<|Tr<|bQ _ (congrArg vS (sI h))
 refine hK<|Tn<|Rg [.a] (sl 28 [(0,vI a0),(3,vO [3])] [Jd [3] 9 1 eS ([]:List (List UInt8))]) (aN)<|Sj (X:=(List (List UInt8))) (fun v=>(sl 28 [(3,vO [3])] [Jd [3] 9 1 eS v])) (fun v=>Ig v=some r) ?_ ?_
 ·refine hS<|hO<|Gp 0 [] (u [] []) (aN)<|Run.inl rfl rfl (DL.ays (g:=2) (tab:=EJ) rfl dz ?_);refine Gw [.a] (u [] [(12,vI 0)]) (aN)<|Tn<|hB ?_;obtain⟨n1,z0,h⟩:=bS h;refine Gi (fun(v:Int×(List (List UInt8)))=>(uo [] [(12,vI v.1)] [.e (Jd [3] 9 1 eS v.2)])) z0 (wT) ?_;rintro⟨j0,o0⟩ p0 i0 d1;replace i0:KG a0 j0 o0=some p0:=i0;unfold KG at i0;refine Gg [.a] (u [] [(13,vB (decide (j0<5)))]) (aN)<|hS<|iC i0 (fun i0=>?_) (fun i0=>?_)
  ·refine hK<|Tn<|Gj (X:=(List (List UInt8))) (fun v=>(uo [13] [] [.e (Jd [3] 9 1 eS v)])) (fun v=>ER j0 v=some p0) ?_ ?_
   ·refine hB ?_;obtain⟨k0,x0,i0⟩:=bS i0;refine Gg [.a,(.v (vS k0)),.a,.a] (u [13] [(4,vI j0),(5,vS k0)]) (aC (show (0<=j0/\j0<((5:Nat):Int))/\(j0).toNat *1+1<=(eA5 (eS) (⟨Kx,Ky,Kz,KA,KB⟩:A5 (List UInt8))).length /\toV false ((j0).toNat *1) 1 (eA5 (eS) (⟨Kx,Ky,Kz,KA,KB⟩:A5 (List UInt8)))=vS k0 from⟨L7 x0,eT (e:=eS) (N:=1) (l:=(⟨Kx,Ky,Kz,KA,KB⟩:A5 (List UInt8)).l) (base:=0) (pre:=[]) (post:=[]) (by kernel_rfl) rfl x0 Agw (o:=0) (by simp) (by decide) (by decide) (by kernel_rfl)⟩)<|aC (Eq.refl (vS k0))<|aN) ?_;obtain⟨o1,i1,i0⟩:=bS i0;refine Gg (nA 5) (u [4] [(20,vB ((JS .i64 (Int.fdiv a0 (2 ^ (min (j0).toNat (IntKind.i64).bits))) (1:Int))==(1:Int)))]) (aC (CJ i1)<|aN)<|iC i0 (fun i0=>?_) (fun i0=>?_)
    ·obtain⟨q0,y0,i0⟩:=bS i0;refine Ge [.a,.a,.a,(.e q0.length (q0.flatMap (eS))),.a] (uo [] [(22,vS k0),(23,vO [23]),(24,vO [3])] [.e (Jd [3] 9 1 eS q0),.e (Jd [23] 9 1 eS ([k0]:List (List UInt8)))]) (aC (rx y0 eS)<|aC (Kf y0)<|aN)<|qN<|Tn ⟨q0,i0,wT⟩
    refine hK<|qN<|Tn ⟨o0,i0,wT⟩
   rintro t0 n0;replace n0:ER j0 t0=some p0:=n0;unfold ER at n0;refine Ge [.a,.a] (u [] [(12,vI (Ac (j0+1))),(25,vI (Ac (j0+1)))]) (aN)<|Tn ⟨((Ac (j0+1)),t0),(sI n0).symm,wT⟩
  refine hE<|Te ?_;obtain rfl:=d1 _ (sI i0).symm;refine Te<|qX<|Tn ⟨o0,h,wT⟩
 rintro j1 m0;replace m0:Ig j1=some r:=m0;unfold Ig at m0;obtain⟨r6,m1,m0⟩:=bS m0;exact Rg [.a,(.c (vS r6)),.a] (sl 28 [(2,vS r6)] []) (aC (wc m1)<|aN)<|hR<|bQ _ (congrArg vS (sI m0))def ai_:CE TE Tryz.prog I0:=⟨279,[.k (.int .i64)],[.k (.str)],fun x=>ES x.1,fun x r h=>IC (by kernel_rfl) (aL (r:=r) h),[],fun h=>absurd rfl h,none,(fun _ h=>nomatch h),none,(fun _ _ h=>nomatch h)⟩
def VZ (alP:List UInt8):Option ((List UInt8)):=
 (BY ([alP,Mn]:List (List UInt8))).bind fun r6=>
 (cat r6 OD).bind fun s7=>
 some s7
def V0 (alO:List UInt8):Option ((List UInt8)):=
 (BY ([alO,HL]:List (List UInt8))).bind fun r10=>
 (cat r10 OC).bind fun s11=>
 some s11
def Nh (a0:Int):Option ((List UInt8)):=
 (some (if decide (a0<0) then true else decide (17<=a0))).bind fun b1=>
 (if b1 then
  some ([]:List UInt8)
 else
  (n_ (0<=a0)).bind fun u3=>
  jn (fun(v:(List UInt8))=>VZ v) (fun jJ5=>
  jn (fun(v:(List UInt8))=>V0 v) (fun jJ9=>
  (if((Ac ((1:Int)*2 ^ (min (a0).toNat (IntKind.i64).bits)))==(1:Int)) then
   some YJ
  else if((Ac ((1:Int)*2 ^ (min (a0).toNat (IntKind.i64).bits)))==(2:Int)) then
   some dH
  else if((Ac ((1:Int)*2 ^ (min (a0).toNat (IntKind.i64).bits)))==(4:Int)) then
   some dJ
  else if((Ac ((1:Int)*2 ^ (min (a0).toNat (IntKind.i64).bits)))==(8:Int)) then
   some R2
  else if((Ac ((1:Int)*2 ^ (min (a0).toNat (IntKind.i64).bits)))==(16:Int)) then
   some Vt
  else if((Ac ((1:Int)*2 ^ (min (a0).toNat (IntKind.i64).bits)))==(32:Int)) then
   jJ9 Po
  else if((Ac ((1:Int)*2 ^ (min (a0).toNat (IntKind.i64).bits)))==(64:Int)) then
   jJ9 ([]:List UInt8)
  else if((Ac ((1:Int)*2 ^ (min (a0).toNat (IntKind.i64).bits)))==(128:Int)) then
   some YK
  else if((Ac ((1:Int)*2 ^ (min (a0).toNat (IntKind.i64).bits)))==(256:Int)) then
   some R3
  else if((Ac ((1:Int)*2 ^ (min (a0).toNat (IntKind.i64).bits)))==(512:Int)) then
   some YL
  else if((Ac ((1:Int)*2 ^ (min (a0).toNat (IntKind.i64).bits)))==(1024:Int)) then
   some R4
  else if((Ac ((1:Int)*2 ^ (min (a0).toNat (IntKind.i64).bits)))==(2048:Int)) then
   some YM
  else if((Ac ((1:Int)*2 ^ (min (a0).toNat (IntKind.i64).bits)))==(4096:Int)) then
   some YN
  else if((Ac ((1:Int)*2 ^ (min (a0).toNat (IntKind.i64).bits)))==(8192:Int)) then
   some Vu
  else if((Ac ((1:Int)*2 ^ (min (a0).toNat (IntKind.i64).bits)))==(16384:Int)) then
   jJ5 fS
  else if((Ac ((1:Int)*2 ^ (min (a0).toNat (IntKind.i64).bits)))==(65536:Int)) then
   jJ5 ([]:List UInt8)
  else
   some R5))))
def Y8:Cj:=mC [NB] 287 Tryz.f287 (.s .n (.s .n (.s .n (.s (.s .n (.j ⟨[],[sq 3],[],[]⟩ (.s (.s (.s (.s (.s (.s (.s (.s (.j ⟨[],[sq 3],[],[]⟩ .n .n) .n) .n) .n) .n) .n) .n) .n) .n) .n)) .n)))) [.k (.int .i64)] [.k (.str)] (fun x=>Nh x.1) Tryz.func287 (by kernel_rfl)
def CX (a0:List UInt8) (a1:Aj):Option ((List UInt8)):=
 (idx (⟨([]:List UInt8),sO,sP,zh⟩:A4 (List UInt8)).l a1.Kind).bind fun e1=>
 (if(e1==([]:List UInt8)) then
  some ([]:List UInt8)
 else
  (cat a0 e1).bind fun s3=>
  (Dg a1.N).bind fun r4=>
  (cat s3 r4).bind fun s5=>
  some s5)
def QQ:Cj:=mC [Na] 288 Tryz.f288 .n [.k (.str), .s 108] [.k (.str)] (fun x=>CX x.1 x.2.1) Tryz.func288 (by kernel_rfl)
def Ni (aeR:List UInt8):Option ((List UInt8)):=
 some aeR
def Ih (a0:AG) (ak4:List UInt8) (afc:Int):Option (((List UInt8)×Int)⊕((List UInt8))):=
 (if decide (afc<5) then
  (idx a0.Color.l afc).bind fun e16=>
  (Xb Mo afc (Ac (afc+1))).bind fun s17=>
  (Le s17 e16).bind fun r18=>
  (cat ak4 r18).bind fun s19=>
  some (.inl (s19,(Ac (afc+1))))
 else
  some (.inr ak4))
def Nj (a0:AG) (akk:List UInt8):Option ((List UInt8)):=
 jn (fun(v:(List UInt8))=>Ni v) (fun jJ8=>
 (iter (fun(v:(List UInt8)×Int)=>Ih a0 v.1 v.2) FU (akk,(0:Int))).bind (fun o0=>jJ8 o0))
def My (a0:AG):Option ((List UInt8)):=
 (Pr a0).bind fun r1=>
 (if !r1 then
  some ([]:List UInt8)
 else if(a0==(⟨0,0,(⟨0,0,0,0,0⟩:A5 (Int))⟩:AG)) then
  some dP
 else
  (Le qu a0.X).bind fun r4=>
  jn (fun(v:(List UInt8))=>Nj a0 v) (fun jJ6=>
  (if decide (0<a0.Generic) then
   (Dg a0.Generic).bind fun r21=>
   (cat r4 r21).bind fun s22=>
   jJ6 s22
  else
   jJ6 r4)))
def Vz:Cj:=mC [T6,sS,Na] 262 Tryz.f262 (.s .n (.s .n (.s .n (.s .n (.j ⟨[1],[sq 3],[[1]],[]⟩ .n (.j ⟨[],[sq 3],[],[]⟩ (.s .n (.l ⟨[24],[sq 3,BS 25],[],[]⟩ [(1,⟨[],[sq 3],[],[]⟩)] .n)) .n)))))) [.s 99] [.k (.str)] (fun x=>My x.1) Tryz.func262 (by kernel_rfl)
def Nk (a0:Int) (a1:Int):Option (Int×Int):=
 (if decide (a1<1) then
  some ((0:Int),a0)
 else
  (Ub a0).bind fun r2=>
  (n_ ((IntKind.u64.wrap (a1)) ≠ 0)).bind fun u3=>
  some (Ac (Int.tmod r2.1 (IntKind.u64.wrap (a1))),r2.2))
def gO:Cj:=mC [la] 56 Tryz.f56 .n [.k (.int .u64), .k (.int .i64)] [.k (.int .i64), .k (.int .u64)] (fun x=>Nk x.1 x.2.1) Tryz.func56 (by kernel_rfl)
def FV (a0:Ar):Option (Ar):=
 (Ap a0.q_).bind fun r1=>
 (Ap a0.Hand).bind fun r2=>
 (Ap a0.abx).bind fun r3=>
 some (⟨a0.adC,a0.aj0,a0.aj1,a0.acj,a0.ai8,a0.anC,r1,r2,r3⟩:Ar)
def Sm:Cj:=mX [BI] 66 Tryz.f66 (.s .n (.s (.r [] [] (.q 2 .co .n)) (.s (.r [] [] (.q 2 .co .n)) (.s (.r [] [] (.q 2 .co .n)) .n)))) [[0,0,0,0,0,0,0,0,0,0,0,1,1,1]] [.s 61] [.s 61] (fun x=>FV x.1) Tryz.func66 (by kernel_rfl)
def PF (a0:AL) (r1:(List (B4))) (r2:(List (Ft))) (alM:List (AA)):Option (AL):=
 some (⟨a0.Kind,a0.Filter,r1,a0.ac4,a0.ah9,a0.abb,a0.May,r2,alM,a0.Replace⟩:AL)
def ON (r3:(List (AA))) (aeP:Int) (abZ:List (AA)):Option ((Int×(List (AA)))⊕((List (AA)))):=
 (if(decide (aeP<(r3.length:Int))) then
  (idx abZ aeP).bind fun e14=>
  (idx abZ aeP).bind fun e15=>
  (A1 e15.abn).bind fun r16=>
  (idx abZ aeP).bind fun e17=>
  (idx abZ aeP).bind fun e19=>
  (some (abZ.set (aeP).toNat ({e19 with abn:=r16}))).bind fun l18=>
  some (.inl ((Ac (aeP+1)),l18))
 else
  some (.inr abZ))
def HO (a0:AL):Option (AL):=
 (A1 a0.abn).bind fun r1=>
 (BK a0.abd).bind fun r2=>
 (Bu a0.G_).bind fun r3=>
 jn (fun(v:(List (AA)))=>PF a0 r1 r2 v) (fun jJ5=>
 (iter (fun(v:Int×(List (AA)))=>ON r3 v.1 v.2) FU ((0:Int),r3)).bind (fun o0=>jJ5 o0))
def QR:Cj:=mC [Dz,G4,FA] 69 Tryz.f69 (.s .n (.s (.r [] [] (.q 2 .co .n)) (.s (.r [] [] (.q 2 .co .n)) (.s (.r [] [] (.q 2 .co .n)) (.j ⟨[1,2],[],[[1],[0,0,6],[0,0,10],[2]],[([0,0,14], .row 180)]⟩ (.s .n (.l ⟨[1,2,18],[BS 19],[[1],[0,0,6],[0,0,10],[2]],[([0,0,14], .row 180)]⟩ [(1,⟨[1,2],[],[[1],[0,0,6],[0,0,10],[2]],[([0,0,14], .row 180)]⟩)] (.s .n (.s .n (.s (.s .n (.r [] [] (.t .n))) .n))))) .n))))) [.s 121] [.s 121] (fun x=>HO x.1) Tryz.func69 (by kernel_rfl)
def NG (a0:Int) (a1:Int):Option (Int):=
 (LN a0).bind fun r1=>
 (LN a1).bind fun r2=>
 (if r1 then
  (if r2 then
   some (0:Int)
  else
   some (-1:Int))
 else if r2 then
  some (1:Int)
 else if decide (a0<a1) then
  some (-1:Int)
 else if decide (a1<a0) then
  some (1:Int)
 else
  some (0:Int))
def Sn:Cj:=mC [VW] 114 Tryz.f114 .n [.k (.int .i64), .k (.int .i64)] [.k (.int .i64)] (fun x=>NG x.1 x.2.1) Tryz.func114 (by kernel_rfl)
def DD (a0:List (Int)) (a1:Int):Option (Bool):=
 (EQ a0 a1).bind fun r1=>
 some (decide (0<=r1))
def Fu:Cj:=mC [G6] 75 Tryz.f75 .n [.k (.t_ 3), .k (.int .i64)] [.k (.bool)] (fun x=>DD x.1 x.2.1) Tryz.func75 (by kernel_rfl)
def gP:Option ((List (Int))):=
 some ([]:List (Int))
def D9 (a0:Aa) (a1:Int) (a2:Int):Option ((List (Int))):=
 jn (fun(v:Unit)=>gP) (fun jJ1=>
 (if a1==0 then
  none
 else if a1==4 then
  none
 else
  (some (if decide (a2<0) then true else decide ((a0.bk.length:Int)<=a2))).bind fun b4=>
  (if b4 then
   none
  else
   (idx a0.bk a2).bind fun e6=>
   (if a1==1 then
    (if true then
     (Ap e6.Hand).bind fun r9=>
     some r9
    else
     jJ1 ())
   else if a1==2 then
    (if true then
     (Ap e6.q_).bind fun r12=>
     some r12
    else
     jJ1 ())
   else if a1==3 then
    none
   else
    none))))
def Lq:Cj:=mC [BI] 37 Tryz.f37 (.s .n (.j M5 (.s (.r [] [] (.c 2 (.s (.r [] [] (.g 0 (.ug [10]) .n)) (.s (.s .n (.s .n (.i .x (.s .n (.i .x .n))))) (.s (.s .n (.i .x .n)) (.s .n (.s (.s .n (.s .n (.i .n (.s .n (.i .n (.s .n (.i .x .n))))))) .x))))) .n)) (.s .n (.i (.s (.r [] [] (.q 3 .co .n)) .n) .n))) .n)) [.s 36, .k (.int .i64), .k (.int .i64)] [.k (.t_ 3)] (fun x=>D9 x.1 x.2.1 x.2.2.1) Tryz.func37 (by kernel_rfl)
def Pt (a0:Aa) (a1:Int):Option (Ag×Bool):=
 (QO a0 a1).bind fun r1=>
 (if decide (r1<0) then
  some ((⟨0,0,0,0,0,false,false,false,false,0,(⟨0,0,0⟩:A3 (Int)),0,0,0,false,0,0⟩:Ag),false)
 else
  (idx a0.b_ r1).bind fun e3=>
  some (e3,true))
def lj:Cj:=mC [gD] 116 Tryz.f116 .n [.s 36, .k (.int .i64)] [.s 70, .k (.bool)] (fun x=>Pt x.1 x.2.1) Tryz.func116 (by kernel_rfl)
def Fh (amO:List (Int)):Option ((List (Int))):=
 some amO
def HP (jJ3:((List (Int)))->Option ((List (Int)))) (acX:Int) (aaX:List (Int)):Option ((List (Int))):=
 (n_ (0<=acX/\acX<=((aaX.length:Nat):Int)/\((aaX.length:Nat):Int)<=((aaX.length:Nat):Int)/\0<aaX.length)).bind fun u10=>
 (n_ (acX+(((aaX.length:Nat):Int) - acX)<=((aaX.length:Nat):Int)/\0<aaX.length)).bind fun u11=>
 (some (aaX.take acX.toNat++(List.replicate (((aaX.length:Nat):Int) - acX).toNat (0:Int)++aaX.drop (acX.toNat+(((aaX.length:Nat):Int) - acX).toNat)))).bind fun l12=>
 (n_ (0<=(0:Int)/\0<=acX/\acX<=((l12.length:Nat):Int)/\0<l12.length)).bind fun u13=>
 (n_ ((0:Int)=0/\(acX - 0)<=((l12.length:Nat):Int)/\0<l12.length)).bind fun u14=>
 jJ3 (l12.take (acX - 0).toNat)
def Lr (afP:Int) (ap8:Int) (alL:List (Int)):Option ((Int×Int×(List (Int)))⊕((Int×(List (Int))))):=
 some (.inl (ap8,(Ac (afP+1)),alL))
def Ch (a1:Int) (afQ:Int) (afP:Int) (abo:List (Int)):Option ((Int×Int×(List (Int)))⊕((Int×(List (Int))))):=
 (if(decide (afP<(abo.length:Int))) then
  jn (fun(v:Int×(List (Int)))=>Lr afP v.1 v.2) (fun amT=>
  (idx abo afP).bind fun e30=>
  (idx abo afP).bind fun e31=>
  (if !(e31==a1) then
   (idx abo afQ).bind fun e33=>
   (idx abo afQ).bind fun e35=>
   (some (abo.set (afQ).toNat e31)).bind fun l34=>
   amT ((Ac (afQ+1)),l34)
  else
   amT (afQ,abo)))
 else
  some (.inr (afQ,abo)))
def HQ (a1:Int) (r1:(List (Int))) (jJ3:((List (Int)))->Option ((List (Int)))) (akd:Int):Option ((List (Int))):=
 (if(akd==(-1:Int)) then
  jJ3 r1
 else
  jn (fun(v:Int×(List (Int)))=>HP jJ3 v.1 v.2) (fun jJ9=>
  (iter (fun(v:Int×Int×(List (Int)))=>Ch a1 v.1 v.2.1 v.2.2) FU (akd,(Ac (akd+1)),r1)).bind (fun o0=>jJ9 (o0.1,o0.2))))
def So (jJ5:(Int)->Option ((List (Int)))):Option ((List (Int))):=
 jJ5 (-1:Int)
def Eo (a1:Int) (r1:(List (Int))) (agP:Int):Option ((Int)⊕(Unit⊕Int)):=
 (if(decide (agP<(r1.length:Int))) then
  (idx r1 agP).bind fun e42=>
  (idx r1 agP).bind fun e43=>
  (if e43==a1 then
   some (.inr (.inr agP))
  else
   some (.inl (Ac (agP+1))))
 else
  some (.inr (.inl ())))
def Cw (a0:List (Int)) (a1:Int):Option ((List (Int))):=
 (Ap a0).bind fun r1=>
 jn (fun(v:(List (Int)))=>Fh v) (fun jJ3=>
 jn (fun(v:Int)=>HQ a1 r1 jJ3 v) (fun jJ5=>
 jn (fun(v:Unit)=>So jJ5) (fun axb=>
 (iter (fun(v:Int)=>Eo a1 r1 v) FU (0:Int)).bind (Sum.elim (fun o0=>axb ()) (fun o1=>jJ5 o1)))))
def V1:Cj:=mX [BI] 165 Tryz.f165 (.s .n (.s (.r [] [] (.q 1 .co (.j 3 ⟨[],[(8, .c (.c (.j_ [0,0,6])))],[],[([0,0,6], .row 3)]⟩ (.s (.r [] [] (.g 0 (.ug [8]) .n)) (.s (.r [] [] (.j 2 ⟨[0,1],[BS 10],[[0,0,6],[3]],[]⟩ (.s (.r [] [] (.g 0 (.ug [0,1,10]) .n)) (.j ⟨[],[],[[0,0,6],[3]],[]⟩ (.s .n (.l ⟨[0,1,7],[BS 8],[[0,0,6],[3]],[]⟩ [(1,⟨[],[],[[0,0,6],[3]],[]⟩),(0,⟨[],[BS 4],[[0,0,6],[3]],[]⟩)] (.s .n (.s .n (.s (.s .n (.s (.r [] [] (.c 5 (.s (.r [] [] (.g 0 (.ug [0,1,5,7,8,16]) .n)) .n) .n)) .n)) .n))))) .n)) .n)) (.s .n (.j ⟨[0],[BS 5],[],[([0,0,6], .row 3)]⟩ (.s .n (.l ⟨[0,1],[BS 5,BS 6],[[3]],[([0,0,6], .row 3)]⟩ [(1,⟨[0],[BS 5],[],[([0,0,6], .row 3)]⟩)] (.s .n (.j ⟨[0,1,6],[BS 5],[[3]],[([0,0,6], .row 3)]⟩ (.s .n (.s (.r [] [] (.c 2 (.s (.r [] [] (.g 0 (.ug [0,1,5,6,7,28]) .n)) .n) .n)) .n)) .n)))) (.s (.r [] [] (.q 2 (.sub true) (.q 3 .clr .n))) (.s (.r [] [] (.q 2 (.sub true) (.g 3 (.tr 41) .n))) .n)))))) .n))) .n)) [[1]] [.k (.t_ 3), .k (.int .i64)] [.k (.t_ 3)] (fun x=>Cw x.1 x.2.1) Tryz.func165 (by kernel_rfl)
def V2 (a2:Int) (auw:Ag):Option (Ag):=
 some ({auw with arq:=a2==0})
def Jw (a0:Ag) (a1:Int) (a2:Int) (a3:Int) (a4:Int):Option (Ag):=
 (Nb a1 a0.Ti a0.m_ a2 a4).bind fun r1=>
 jn (fun(v:Ag)=>V2 a2 v) (fun jJ3=>
 (some (if a2==0 then true else a2==5)).bind fun b4=>
 (if b4 then
  jJ3 ({{r1 with Token:=a0.Token}with Control:=a3})
 else
  jJ3 ({r1 with Token:=a0.Token})))
def Y9:Cj:=mC [Sf] 118 Tryz.f118 (.s .n (.s .n (.s .n (.j ⟨[2,10,11],[],[[10]],[([11], .box [.v (.s 70)])]⟩ .n .n)))) [.s 70, .k (.int .i64), .k (.int .i64), .k (.int .i64), .k (.int .i64)] [.s 70] (fun x=>Jw x.1 x.2.1 x.2.2.1 x.2.2.2.1 x.2.2.2.2.1) Tryz.func118 (by kernel_rfl)
def Za:Option ((List (Int))):=
 some ([]:List (Int))
def Zb (a0:Aw) (jJ1:(Unit)->Option ((List (Int)))) (ake:Bool):Option ((List (Int))):=
 (if ake then
  some ([(0:Int)]:List (Int))
 else if a0.Kind==3 then
  (Ud (if(a0.Options.length:Int)<(if a0.adI<0 then(0:Int)else a0.adI)then(a0.Options.length:Int)else(if a0.adI<0 then(0:Int)else a0.adI))).bind fun r6=>
  some r6
 else if a0.Kind==4 then
  (Ud (a0.Options.length:Int)).bind fun r8=>
  some r8
 else if a0.Kind==5 then
  some ([a0.adI]:List (Int))
 else if a0.Kind==8 then
  (if(decide (0<(a0.Options.length:Int))) then
   (n_ (0<=(a0.Options.length:Int)/\(a0.Options.length:Int)<=(a0.Options.length:Int)/\(a0.Options.length:Int)*8<=140737488355328/\(a0.Options.length:Int)<=maxLen)).bind fun u13=>
   (some (List.replicate ((a0.Options.length:Int)).toNat (0:Int))).bind fun l12=>
   (idx l12 (0:Int)).bind fun e14=>
   (idx l12 (0:Int)).bind fun e16=>
   (some (l12.set ((0:Int)).toNat a0.N)).bind fun l15=>
   some l15
  else
   jJ1 ())
 else
  jJ1 ())
def DP (a0:Aw):Option ((List (Int))):=
 jn (fun(v:Unit)=>Za) (fun jJ1=>
 jn (fun(v:Bool)=>Zb a0 jJ1 v) (fun jJ3=>
 (if a0.Kind==1 then
  jJ3 (a0.Kind==1)
 else if a0.Kind==2 then
  jJ3 (a0.Kind==2)
 else if a0.Kind==9 then
  jJ3 (a0.Kind==9)
 else if a0.Kind==10 then
  jJ3 (a0.Kind==10)
 else
  jJ3 (a0.Kind==11))))
def PW:Cj:=mC [lb] 80 Tryz.f80 (.s .n (.s .n (.j M5 (.s .n (.j ⟨[1,3,9],[JL 10],[[1]],[]⟩ .n .n)) .n))) [.s 54] [.k (.t_ 3)] (fun x=>DP x.1) Tryz.func80 (by kernel_rfl)
def VA (a0:List (Int)) (a1:Int):Option (Int):=
 (EQ a0 a1).bind fun r1=>
 some r1
def aM:Cj:=mC [G6] 173 Tryz.f173 .n [.k (.t_ 3), .k (.int .i64)] [.k (.int .i64)] (fun x=>VA x.1 x.2.1) Tryz.func173 (by kernel_rfl)
def Zc (a0:Aa) (a1:Int):Option (Ag×Bool):=
 (Ug a0 a1).bind fun r1=>
 (if decide (r1<0) then
  some ((⟨0,0,0,0,0,false,false,false,false,0,(⟨0,0,0⟩:A3 (Int)),0,0,0,false,0,0⟩:Ag),false)
 else
  (idx a0.b_ r1).bind fun e3=>
  some (e3,true))
def oJ:Cj:=mC [lf] 175 Tryz.f175 .n [.s 36, .k (.int .i64)] [.s 70, .k (.bool)] (fun x=>Zc x.1 x.2.1) Tryz.func175 (by kernel_rfl)
def Gd (a0:Aa) (a1:Int):Option (Bool):=
 (G7 a1 (0:Int) (Ac ((a0.bk.length:Int) - (1:Int)))).bind fun r1=>
 some r1
def Sq:Cj:=mC [Sk] 51 Tryz.f51 .n [.s 36, .k (.int .i64)] [.k (.bool)] (fun x=>Gd x.1 x.2.1) Tryz.func51 (by kernel_rfl)
def gQ (a0:Ag) (a1:Int) (a2:Int):Option (Bool):=
 (some (if decide (a0.Id<1) then true else decide (a0.Ti<0))).bind fun b1=>
 (some (if b1 then true else decide (a1<=a0.Ti))).bind fun b2=>
 (some (if b2 then true else decide (a0.m_<0))).bind fun b3=>
 (some (if b3 then true else decide (a2<=a0.m_))).bind fun b4=>
 (some (if b4 then true else decide (a0.Control<0))).bind fun b5=>
 (some (if b5 then true else decide (a2<=a0.Control))).bind fun b6=>
 (some (if b6 then true else decide (a0.B_<0))).bind fun b7=>
 (some (if b7 then true else decide (5<a0.B_))).bind fun b8=>
 (if b8 then
  some false
 else
  (some (if decide (a0.aja<0) then true else decide (1000000<a0.aja))).bind fun b10=>
  (some (if b10 then true else decide (a0.adH<0))).bind fun b11=>
  (some (if b11 then true else decide (1000000<a0.adH))).bind fun b12=>
  (some (if b12 then true else decide (a0.ajb<0))).bind fun b13=>
  (some (if b13 then true else decide (1000000<a0.ajb))).bind fun b14=>
  (some (if b14 then true else decide (a0.ai6<0))).bind fun b15=>
  (some (if b15 then true else decide (1000000<a0.ai6))).bind fun b16=>
  (if b16 then
   some false
  else
   (oG a0.Counters).bind fun r18=>
   (some (if !r18 then true else decide (a0.anE<(-1:Int)))).bind fun b19=>
   (some (if b19 then true else decide (a1<=a0.anE))).bind fun b20=>
   (some (if b20 then true else decide (a0.ajc<(-1:Int)))).bind fun b21=>
   (some (if b21 then true else decide (a2<=a0.ajc))).bind fun b22=>
   (if b22 then
    some false
   else
    (gd ((a0.B_==0)==false) (Y5 a0)).bind fun r24=>
    (gd (((a0.B_==0)==false)&&((a0==r24)==true)) (Uh a0)).bind fun r25=>
    (some (if a0==r24 then a0==r25 else false)).bind fun b26=>
    (some (if b26 then !a0.ai5 else false)).bind fun b27=>
    (some (if b27 then !a0.arq else false)).bind fun b28=>
    (some (if b28 then a0.Counters==(⟨0,0,0⟩:A3 (Int))else false)).bind fun b29=>
    (some (if a0.B_==0 then true else b29)).bind fun b30=>
    some b30)))
def wv:Cj:=mC [wt,oH,li] 92 Tryz.f92 .n [.s 70, .k (.int .i64), .k (.int .i64)] [.k (.bool)] (fun x=>gQ x.1 x.2.1 x.2.2.1) Tryz.func92 (by kernel_rfl)
def KH (a0:Aa) (a1:Int) (a2:Int):Option ((List (Int))):=
 (if a1==0 then
  (II a0.AT).bind fun r2=>
  some r2
 else if a1==4 then
  (II a0.acv).bind fun r4=>
  some r4
 else
  (some (if decide (a2<0) then true else decide ((a0.bk.length:Int)<=a2))).bind fun b5=>
  (if b5 then
   some ([]:List (Int))
  else if a1==1 then
   (idx a0.bk a2).bind fun e8=>
   (II e8.Hand).bind fun r9=>
   some r9
  else if a1==2 then
   (idx a0.bk a2).bind fun e11=>
   (II e11.q_).bind fun r12=>
   some r12
  else if a1==3 then
   (idx a0.bk a2).bind fun e14=>
   (II e14.abx).bind fun r15=>
   some r15
  else
   some ([]:List (Int))))
def oK:Cj:=mC [oI] 129 Tryz.f129 .n [.s 36, .k (.int .i64), .k (.int .i64)] [.k (.t_ 3)] (fun x=>KH x.1 x.2.1 x.2.2.1) Tryz.func129 (by kernel_rfl)
def oL (a0:Aa) (a1:Int) (a2:Int) (r:(List (Int))):Prop:=BV Tryz.prog I0 129 [vA Db a0,vI a1,vI a2] (· =vL (eI .i64) r)
theorem ll {a0:Aa} {a1:Int} {a2:Int} {r:(List (Int))} (h:KH a0 a1 a2=some r):oL a0 a1 a2 r:=IC (by kernel_rfl) (oK.ok (a0,a1,a2,()) r h)
end Go.PL
