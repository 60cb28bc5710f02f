/- Functions of the program, as partial functions in Lean, with proofs. -/
import Derived.Test.YtelbpfkjhndccaaGreatDoorPlSbB
import Derived.Test.YtelbpfkjhndccaaGreatDoorPlSbF1
import Derived.Test.YtelbpfkjhndccaaGreatDoorPlSbF2
namespace Go.PL
open Go Go.RowKit Go.Proofs
set_option maxRecDepth 100000
set_option linter.all false
set_option maxHeartbeats 4000000
attribute [local irreducible] Ak Ca BP
def OU:Option (Bool):=
 some true
def HY (a0:List UInt8) (i_t3_10:Int):Option ((Int)⊕(Unit⊕Unit)):=
 (if(decide (i_t3_10<(a0.length:Int)))=true then
  (sidx a0 i_t3_10).bind fun c13=>
  (Q8 c13).bind fun r14=>
  (gd ((!r14)==true) (sidx a0 i_t3_10)).bind fun c15=>
  (gd (((!r14)==true)&&((decide (c15<48))==false)) (sidx a0 i_t3_10)).bind fun c16=>
  (some (if(decide (c15<48))=true then true else decide (57<c16))).bind fun b17=>
  (some (if(!r14)=true then b17 else false)).bind fun b18=>
  (gd (b18==true) (sidx a0 i_t3_10)).bind fun c19=>
  (some (if b18=true then c19 != 45 else false)).bind fun b20=>
  (if b20=true then
   some (.inr (.inr ()))
  else
   (gd ((decide (0<i_t3_10))==true) (sidx a0 i_t3_10)).bind fun c22=>
   (some (if(decide (0<i_t3_10))=true then c22==45 else false)).bind fun b23=>
   (gd (b23==true) (sidx a0 (Ab (i_t3_10 - 1)))).bind fun c24=>
   (some (if b23=true then c24==45 else false)).bind fun ki=>
   (if ki=true then
    some (.inr (.inr ()))
   else
    some (.inl (Ab (i_t3_10+1)))))
 else
  some (.inr (.inl ())))
def TT (a0:List UInt8):Option (Bool):=
 (some (if(decide ((a0.length:Int)<1))=true then true else decide (32<(a0.length:Int)))).bind fun b1=>
 (gd (b1==false) (sidx a0 (0:Int))).bind fun c2=>
 (gd (b1==false) (Q8 c2)).bind fun r3=>
 (some (if b1=true then true else !r3)).bind fun b4=>
 (gd (b4==false) (sidx a0 (Ab ((a0.length:Int) - (1:Int))))).bind fun c5=>
 (some (if b4=true then true else c5==45)).bind fun b6=>
 (if b6=true then
  some false
 else
  (iter (fun(v:Int)=>HY a0 v) FU (0:Int)).bind (Sum.elim (fun o0=>OU) (fun o1=>some false)))
def lM (a0:List UInt8) (r:Bool):Prop:=Af Tryz.prog I0 195 [vS a0] (· =vB r)
theorem YE {a0:List UInt8} {r:Bool} (h:TT a0=some r):lM a0 r:=by
 refine Af.bo Ae Tryz.func195 rfl Tryz.ntmps195 [.tmp 2] fun _ _ _ _=>?_
 unfold TT at h
 refine Gg [.a] (u [] []) (aN)<|hS ?_
 obtain⟨b1,p2,c2,n1,r3,x2,b4,q2,h⟩:=D2 h
 obtain⟨c5,o1,b6,t2,h⟩:=Ex h
 refine Gg [.a,.a,.a,.a,.a,.a,.a,(.v (vB b1)),.a,.a,(.v (.c (.int .u8 c2))),(.c (vB r3)),.a,(.v (vB b4)),.a,.a,.a,.a,.a,(.v (.c (.int .u8 c5))),.a,(.v (vB b6))] (u [] [(25,vB b6)]) (aG ((decide ((a0.length:Int)<1))==false)<|aG ((decide ((a0.length:Int)<1))==false)<|aF (decide ((a0.length:Int)<1))<|aB p2<|aC (fun hg:(b1==false)=true=>aC (gi (b1==false))<|aC (L2 (G8 n1 hg))<|aC (congrArg (fun z=>V.c (.int .u8 z)) (L3 (G8 n1 hg)).symm)<|aN)<|aC (c1 x2 WB)<|aG (b1==false)<|aF b1<|aB q2<|aG (b4==false)<|aG (b4==false)<|aC (fun hg:(b4==false)=true=>aC (gi (b4==false))<|aC (gi (b4==false))<|aC (L2 (G8 o1 hg))<|aC (congrArg (fun z=>V.c (.int .u8 z)) (L3 (G8 o1 hg)).symm)<|aN)<|aG (b4==false)<|aF b4<|aB t2<|aN)<|iC h (fun h=>?_) (fun h=>?_)
 ·exact Rg [.a] (sl 70 [(2,vB false)] []) (aN)<|hR<|Tr<|bQ _ (kB h)
 refine hK<|Tn<|Sj (X:=Unit) (fun v=>(sl 70 [] [])) (fun v=>OU=some r) ?_ ?_
 ·refine Gg [.a] (u [25] [(3,vI 0)]) (aN)<|hB ?_
  obtain⟨y2,k1,h⟩:=bS h
  refine Gi (fun(v:Int)=>(u [] [(3,vI v)])) k1 (wT) ?_
  rintro j0 d2 i0 p0
  replace i0:HY a0 j0=some d2:=i0
  unfold HY at i0
  refine hS<|Gg (nA 4) (u [] [(29,vB (decide (j0<(a0.length:Int))))]) (aN)<|iC i0 (fun i0=>?_) (fun i0=>?_)
  ·refine hK<|Tn<|hS<|hB<|hS ?_
   obtain⟨j2,x0,k0,z1,o0,y0,k2,z0,i0⟩:=D2 i0
   obtain⟨i2,p1,n0,q1,m2,d1,m1,t1,i0⟩:=D2 i0
   refine Gg [.a,.a,(.v (.c (.int .u8 j2))),(.c (vB k0)),.a,.a,.a,.a,(.v (.c (.int .u8 o0))),.a,.a,.a,.a,(.v (.c (.int .u8 k2))),.a,(.v (vB i2)),(.v (vB n0)),.a,.a,.a,(.v (.c (.int .u8 m2))),.a,(.v (vB m1))] (u [29] [(54,vB m1)]) (aC (L2 x0)<|aC (congrArg (fun z=>V.c (.int .u8 z)) (L3 x0).symm)<|aC (WB z1)<|aC (fun hg:((!k0)==true)=true=>aC (gi ((!k0)==true))<|aC (gi ((!k0)==true))<|aC (L2 (G8 y0 hg))<|aC (congrArg (fun z=>V.c (.int .u8 z)) (L3 (G8 y0 hg)).symm)<|aN)<|aG ((!k0)==true)<|aG ((!k0)==true)<|aC (fun hg:(((!k0)==true)&&((decide (o0<48))==false))=true=>aC (gi (((!k0)==true)&&((decide (o0<48))==false)))<|aC (gi (((!k0)==true)&&((decide (o0<48))==false)))<|aC (L2 (G8 z0 hg))<|aC (congrArg (fun z=>V.c (.int .u8 z)) (L3 (G8 z0 hg)).symm)<|aN)<|aG (((!k0)==true)&&((decide (o0<48))==false))<|aC (fun hg:((!k0)==true)=true=>aC (gi ((!k0)==true))<|aC (fun q:(decide (o0<48))=false=>(gA hg (gF q)))<|aB p1<|aN)<|aT (!k0)<|aB q1<|aC (fun hg:(n0==true)=true=>aC (gi (n0==true))<|aC (gi (n0==true))<|aC (L2 (G8 d1 hg))<|aC (congrArg (fun z=>V.c (.int .u8 z)) (L3 (G8 d1 hg)).symm)<|aN)<|aG (n0==true)<|aT n0<|aB t1<|aN)<|iC i0 (fun i0=>?_) (fun i0=>?_)
   ·refine Rg [.a] (sl 70 [(2,vB false)] []) (aN)<|hR<|Tr<|qR<|Tr ?_
    obtain rfl:=p0 _ (sI i0).symm
    replace h:=Cy h
    exact Tr<|qR<|Tr<|bQ _ (kB h)
   refine hK<|Tn ?_
   obtain⟨n2,i1,m0,x1,o2,j1,t0,y1,i0⟩:=D2 i0
   refine Gg [.a,.a,.a,.a,.a,(.v (.c (.int .u8 n2))),.a,(.v (vB m0)),.a,.a,.a,.a,(.v (.c (.int .u8 o2))),.a,(.v (vB t0))] (u [54] [(69,vB t0)]) (aC (fun hg:((decide (0<j0))==true)=true=>aC (gi ((decide (0<j0))==true))<|aC (gi ((decide (0<j0))==true))<|aC (L2 (G8 i1 hg))<|aC (congrArg (fun z=>V.c (.int .u8 z)) (L3 (G8 i1 hg)).symm)<|aN)<|aG ((decide (0<j0))==true)<|aT (decide (0<j0))<|aB x1<|aG (m0==true)<|aC (fun hg:(m0==true)=true=>aC (gi (m0==true))<|aC (gi (m0==true))<|aC (L2 (G8 j1 hg))<|aC (congrArg (fun z=>V.c (.int .u8 z)) (L3 (G8 j1 hg)).symm)<|aN)<|aG (m0==true)<|aT m0<|aB y1<|aN)<|iC i0 (fun i0=>?_) (fun i0=>?_)
   ·refine Rg [.a] (sl 70 [(2,vB false)] []) (aN)<|hR<|qR<|Tr ?_
    obtain rfl:=p0 _ (sI i0).symm
    replace h:=Cy h
    exact Tr<|qR<|Tr<|bQ _ (kB h)
   refine hK<|qN<|Tn<|Re (nA 3) (sl 70 [(0,vS a0),(3,vI (Ab (j0+1))),(30,vI j0),(31,vI (Ab (j0+1))),(69,vB t0)] []) (aN)<|Tn ⟨(Ab (j0+1)),(sI i0).symm,wT⟩
  refine hE<|Te ?_
  obtain rfl:=p0 _ (sI i0).symm
  replace h:=CZ h
  refine Te<|qX<|Tn ⟨(),h,wT⟩
 rintro _ q0
 replace q0:OU=some r:=q0
 unfold OU at q0
 exact Rg [.a] (sl 70 [(2,vB true)] []) (aN)<|hR<|bQ _ (kB q0)
def Lu (s_t7_1:List UInt8):Option ((List UInt8)):=
 some s_t7_1
def HZ (i_t8_6:Int) (s_t7_10:List UInt8):Option (((List UInt8)×Int)⊕((List UInt8))):=
 some (.inl (s_t7_10,(Ab (i_t8_6+1))))
def H0 (a0:List (List UInt8)) (i_t8_6:Int) (s_t7_14:List UInt8):Option (((List UInt8)×Int)⊕((List UInt8))):=
 (idx a0 i_t8_6).bind fun e16=>
 (cat s_t7_14 e16).bind fun s17=>
 HZ i_t8_6 s17
def Oi (a0:List (List UInt8)) (a1:Int) (a2:List UInt8) (s_t7_5:List UInt8) (i_t8_6:Int):Option (((List UInt8)×Int)⊕((List UInt8))):=
 (if(decide (i_t8_6<(a0.length:Int)))=true then
  (ZH a1 i_t8_6).bind fun r12=>
  (if r12=true then
   (if(s_t7_5 != ([]:List UInt8))=true then
    (cat s_t7_5 a2).bind fun s19=>
    H0 a0 i_t8_6 s19
   else
    H0 a0 i_t8_6 s_t7_5)
  else
   HZ i_t8_6 s_t7_5)
 else
  some (.inr s_t7_5))
def R4 (a0:List (List UInt8)) (a1:Int) (a2:List UInt8):Option ((List UInt8)):=
 (iter (fun(v:(List UInt8)×Int)=>Oi a0 a1 a2 v.1 v.2) FU (([]:List UInt8),(0:Int))).bind (fun o0=>Lu o0)
def ZS (a0:List (List UInt8)) (a1:Int) (a2:List UInt8) (r:(List UInt8)):Prop:=Af Tryz.prog I0 207 [vL eS a0,vI a1,vS a2] (· =vS r)
theorem XB {a0:List (List UInt8)} {a1:Int} {a2:List UInt8} {r:(List UInt8)} (h:R4 a0 a1 a2=some r):ZS a0 a1 a2 r:=by
 refine Af.bo Ae Tryz.func207 rfl Tryz.ntmps207 [.tmp 6] fun _ _ _ _=>?_
 unfold R4 at h
 refine Gg [.a] (u [] []) (aN)<|Gg [.a] (u [] [(7,vS ([]:List UInt8))]) (aN)<|Sj (X:=(List UInt8)) (fun v=>(sl 30 [(7,vS v)] [])) (fun v=>Lu v=some r) ?_ ?_
 ·refine Gg [.a] (u [] [(8,vI 0)]) (aN)<|hB ?_
  obtain⟨q1,n1,h⟩:=bS h
  refine Gi (fun(v:(List UInt8)×Int)=>(u [] [(7,vS v.1),(8,vI v.2)])) n1 (wT) ?_
  rintro⟨k0,i0⟩ t0 j0 o1
  replace j0:Oi a0 a1 a2 k0 i0=some t0:=j0
  unfold Oi at j0
  refine hS<|Gg (nA 4) (u [] [(12,vB (decide (i0<(a0.length:Int))))]) (aN)<|iC j0 (fun j0=>?_) (fun j0=>?_)
  ·refine hK<|Tn<|Gj (X:=(List UInt8)) (fun v=>(u [12] [(7,vS v)])) (fun v=>HZ i0 v=some t0) ?_ ?_
   ·refine hB ?_
    obtain⟨m1,p1,j0⟩:=bS j0
    refine Gg [.a,.a,(.c (vB m1))] (u [12] [(17,vB m1)]) (aC (ft p1)<|aN)<|iC j0 (fun j0=>?_) (fun j0=>?_)
    ·refine Gj (X:=(List UInt8)) (fun v=>(u [17] [(7,vS v)])) (fun v=>H0 a0 i0 v=some t0) ?_ ?_
     ·refine Gg [.a,.a] (u [17] [(19,vB (k0 != ([]:List UInt8)))]) (aN)<|iC j0 (fun j0=>?_) (fun j0=>?_)
      ·obtain⟨d1,k1,j0⟩:=bS j0
       refine Re [.a,.a,(.v (vS d1)),.a] (sl 30 [(0,vL eS a0),(1,vI a1),(2,vS a2),(7,vS d1),(8,vI i0),(19,vB (k0 != ([]:List UInt8))),(20,vS k0),(21,vS a2),(22,vS d1)] []) (aC (By k1)<|aC (congrArg (fun z=>V.c (.str z)) (Bz k1).symm)<|aN)<|Tn ⟨d1,j0,wT⟩
      refine hK<|Tn ⟨k0,j0,wT⟩
     rintro o0 m0
     replace m0:H0 a0 i0 o0=some t0:=m0
     unfold H0 at m0
     obtain⟨x0,i1,z0,j1,m0⟩:=Ex m0
     refine Re [.a,.a,.a,.a,(.v (vS x0)),(.v (vS z0)),.a] (sl 30 [(0,vL eS a0),(1,vI a1),(2,vS a2),(7,vS z0),(8,vI i0),(23,vS o0),(24,vL eS a0),(25,vI i0),(26,vX eS a0 ((i0).toNat *1)),(27,vS x0),(28,vS z0)] []) (aC (AI i1)<|aC (DI i1 OB 0 1 false (vS x0))<|aC (Eq.refl (vS x0))<|aC (By j1)<|aC (congrArg (fun z=>V.c (.str z)) (Bz j1).symm)<|aN)<|qN<|Tn ⟨z0,m0,wT⟩
    refine hK<|qN<|Tn ⟨k0,j0,wT⟩
   rintro n0 p0
   replace p0:HZ i0 n0=some t0:=p0
   unfold HZ at p0
   refine Ge (nA 3) (u [] [(8,vI (Ab (i0+1))),(13,vI i0),(14,vI (Ab (i0+1)))]) (aN)<|Tn ⟨(n0,(Ab (i0+1))),(sI p0).symm,wT⟩
  refine hE<|Te ?_
  obtain rfl:=o1 _ (sI j0).symm
  refine Te<|qX<|Tn ⟨k0,h,wT⟩
 rintro q0 y0
 replace y0:Lu q0=some r:=y0
 unfold Lu at y0
 exact Rg [.a,.a] (sl 30 [(6,vS q0)] []) (aN)<|hR<|bQ _ (congrArg vS (sI y0))
def NZ (out_t3_4:List UInt8):Option ((List UInt8)):=
 some out_t3_4
def Kw (i_t4_9:Int) (out_t3_13:List UInt8):Option (((List UInt8)×Int)⊕((List UInt8))):=
 some (.inl (out_t3_13,(Ab (i_t4_9+1))))
def Kx (i_t4_9:Int) (out_t3_18:List UInt8):Option (((List UInt8)×Int)⊕((List UInt8))):=
 (OR i_t4_9).bind fun r20=>
 (cat out_t3_18 r20).bind fun s21=>
 Kw i_t4_9 s21
def Py (a0:Int) (out_t3_8:List UInt8) (i_t4_9:Int):Option (((List UInt8)×Int)⊕((List UInt8))):=
 (if(decide (i_t4_9<5))=true then
  (need (0≤i_t4_9)).bind fun u15=>
  (need ((Ab ((1:Int)*2 ^ (min (i_t4_9).toNat (IntKind.i64).bits))) ≠ 0)).bind fun u16=>
  (if((Int.tmod (Ab (Int.tdiv a0 (Ab ((1:Int)*2 ^ (min (i_t4_9).toNat (IntKind.i64).bits))))) (2:Int))==(1:Int))=true then
   (if(out_t3_8 != ([]:List UInt8))=true then
    (cat out_t3_8 NO).bind fun s23=>
    Kx i_t4_9 s23
   else
    Kx i_t4_9 out_t3_8)
  else
   Kw i_t4_9 out_t3_8)
 else
  some (.inr out_t3_8))
def Nx (a0:Int):Option ((List UInt8)):=
 (WD a0).bind fun r1=>
 (if(!r1)=true then
  some ([]:List UInt8)
 else
  (if(a0==0)=true then
   some LH
  else
   (iter (fun(v:(List UInt8)×Int)=>Py a0 v.1 v.2) FU (([]:List UInt8),(0:Int))).bind (fun o0=>NZ o0)))
def fH (a0:Int) (r:(List UInt8)):Prop:=Af Tryz.prog I0 165 [vI a0] (· =vS r)
theorem UA {a0:Int} {r:(List UInt8)} (h:Nx a0=some r):fH a0 r:=by
 refine Af.bo Ae Tryz.func165 rfl Tryz.ntmps165 [.tmp 2] fun _ _ _ _=>?_
 unfold Nx at h
 refine Gg [.a] (u [] []) (aN)<|hS ?_
 obtain⟨r1,q1,h⟩:=bS h
 refine Gg [.a,(.c (vB r1)),.a] (u [] [(7,vB (!r1))]) (aC (jC q1)<|aN)<|iC h (fun h=>?_) (fun h=>?_)
 ·exact Rg [.a] (sl 29 [(2,vS ([]:List UInt8))] []) (aN)<|hR<|Tr<|bQ _ (congrArg vS (sI h))
 refine hK<|Tn<|hS<|Gg [.a,.a] (u [7] [(9,vB (a0==0))]) (aN)<|iC h (fun h=>?_) (fun h=>?_)
 ·exact Rg [.a] (sl 29 [(2,vS LH)] []) (aN)<|hR<|Tr<|bQ _ (congrArg vS (sI h))
 refine hK<|Tn<|Gg [.a] (u [9] [(3,vS ([]:List UInt8))]) (aN)<|Sj (X:=(List UInt8)) (fun v=>(sl 29 [(3,vS v)] [])) (fun v=>NZ v=some r) ?_ ?_
 ·refine Gg [.a] (u [] [(4,vI 0)]) (aN)<|hB ?_
  obtain⟨t1,j1,h⟩:=bS h
  refine Gi (fun(v:(List UInt8)×Int)=>(u [] [(3,vS v.1),(4,vI v.2)])) j1 (wT) ?_
  rintro⟨k0,j0⟩ q0 i0 k1
  replace i0:Py a0 k0 j0=some q0:=i0
  unfold Py at i0
  refine hS<|Gg [.a,.a] (u [] [(11,vB (decide (j0<5)))]) (aN)<|iC i0 (fun i0=>?_) (fun i0=>?_)
  ·refine hK<|Tn<|Sj (X:=(List UInt8)) (fun v=>(sl 29 [(0,vI a0),(3,vS v),(4,vI j0)] [])) (fun v=>Kw j0 v=some q0) ?_ ?_
   ·refine hB ?_
    obtain⟨x1,o1,y1,p1,i0⟩:=Ex i0
    refine Rg (nA 6) (sl 29 [(0,vI a0),(3,vS k0),(4,vI j0),(19,vB ((Int.tmod (Ab (Int.tdiv a0 (Ab ((1:Int)*2 ^ (min (j0).toNat (IntKind.i64).bits))))) (2:Int))==(1:Int)))] []) (aC (FZ o1)<|aC (FZ p1)<|aC (show (2:Int) ≠ 0 from(by decide))<|aN)<|iC i0 (fun i0=>?_) (fun i0=>?_)
    ·refine Gj (X:=(List UInt8)) (fun v=>(u [19] [(3,vS v)])) (fun v=>Kx j0 v=some q0) ?_ ?_
     ·refine Gg [.a,.a] (u [19] [(21,vB (k0 != ([]:List UInt8)))]) (aN)<|iC i0 (fun i0=>?_) (fun i0=>?_)
      ·obtain⟨z0,i1,i0⟩:=bS i0
       refine Ge [.a,(.v (vS z0)),.a] (u [] [(3,vS z0),(22,vS k0),(23,vS z0)]) (aC (By i1)<|aC (congrArg (fun z=>V.c (.str z)) (Bz i1).symm)<|aN)<|Tn ⟨z0,i0,wT⟩
      refine hK<|Tn ⟨k0,i0,wT⟩
     rintro o0 m0
     replace m0:Kx j0 o0=some q0:=m0
     unfold Kx at m0
     obtain⟨m1,n1,y0,d1,m0⟩:=Ex m0
     refine Ge [.a,.a,(.c (vS m1)),(.v (vS y0)),.a] (u [] [(3,vS y0),(24,vS o0),(25,vI j0),(26,vS m1),(27,vS y0)]) (aC (Qs n1)<|aC (By d1)<|aC (congrArg (fun z=>V.c (.str z)) (Bz d1).symm)<|aN)<|qN<|Tn ⟨y0,m0,wT⟩
    refine hK<|qN<|Tn ⟨k0,i0,wT⟩
   rintro n0 t0
   replace t0:Kw j0 n0=some q0:=t0
   unfold Kw at t0
   refine Ge (nA 3) (u [] [(4,vI (Ab (j0+1))),(12,vI j0),(13,vI (Ab (j0+1)))]) (aN)<|Tn ⟨(n0,(Ab (j0+1))),(sI t0).symm,wT⟩
  refine hE<|Te ?_
  obtain rfl:=k1 _ (sI i0).symm
  refine Te<|qX<|Tn ⟨k0,h,wT⟩
 rintro p0 x0
 replace x0:NZ p0=some r:=x0
 unfold NZ at x0
 exact Rg [.a,.a] (sl 29 [(2,vS p0)] []) (aN)<|hR<|bQ _ (congrArg vS (sI x0))
def OV (a0:B5):Option (Bool):=
 (TN a0.Mana).bind fun r1=>
 (some (if r1=true then a0.Mana.X==0 else false)).bind fun b2=>
 (some (if b2=true then decide (0≤a0.Life)else false)).bind fun b3=>
 (some (if b3=true then decide (a0.Life≤99)else false)).bind fun b4=>
 some b4
def cC (a0:B5) (r:Bool):Prop:=Af Tryz.prog I0 108 [vA H8 a0] (· =vB r)
theorem ZT {a0:B5} {r:Bool} (h:OV a0=some r):cC a0 r:=by
 refine Af.bo Ae Tryz.func108 rfl Tryz.ntmps108 [.tmp 2] fun _ _ _ _=>?_
 unfold OV at h
 refine Rg [.a,.a] (sl 22 [(1,vP [1] (0))] [bx [1] (H8 a0)]) (aN) ?_
 obtain⟨r1,m0,b2,i0,b3,j0,b4,k0,h⟩:=D2 h
 exact Rg [.a,.a,(.c (vB r1)),.a,.a,.a,.a,.a,(.v (vB b2)),.a,.a,.a,.a,(.v (vB b3)),.a,.a,.a,.a,(.v (vB b4)),.a] (sl 22 [(2,vB b4)] []) (aC (YD m0)<|aG (r1==true)<|aG (r1==true)<|aG (r1==true)<|aT r1<|aB i0<|aG (b2==true)<|aG (b2==true)<|aT b2<|aB j0<|aG (b3==true)<|aG (b3==true)<|aT b3<|aB k0<|aN)<|hR<|bQ _ (kB h)
def Lv (a0:Int):Option (Bool):=
 (Kt a0).bind fun r1=>
 (gd ((r1 != ([]:List UInt8))==true) (K5 a0)).bind fun r2=>
 (some (if(!r2)=true then true else a0==9)).bind fun b3=>
 (some (if(r1 != ([]:List UInt8))=true then b3 else false)).bind fun b4=>
 some b4
def U3 (a0:Int) (r:Bool):Prop:=Af Tryz.prog I0 156 [vI a0] (· =vB r)
theorem TU {a0:Int} {r:Bool} (h:Lv a0=some r):U3 a0 r:=by
 refine Af.bo Ae Tryz.func156 rfl Tryz.ntmps156 [.tmp 2] fun _ _ _ _=>?_
 unfold Lv at h
 refine Gg [.a] (u [] []) (aN) ?_
 obtain⟨r1,k0,r2,m0,b3,i0,b4,j0,h⟩:=D2 h
 exact Rg [.a,(.c (vS r1)),.a,.a,.a,(.c (vB r2)),.a,.a,.a,.a,(.v (vB b3)),(.v (vB b4)),.a] (sl 15 [(2,vB b4)] []) (aC (Ux k0)<|aC (c1 m0 Rx)<|aG ((r1 != ([]:List UInt8))==true)<|aG ((r1 != ([]:List UInt8))==true)<|aG (((r1 != ([]:List UInt8))==true)&&((!r2)==false))<|aC (fun hg:((r1 != ([]:List UInt8))==true)=true=>aC (gi ((r1 != ([]:List UInt8))==true))<|aC (fun q:(!r2)=false=>(gA hg (gF q)))<|aB i0<|aN)<|aT (r1 != ([]:List UInt8))<|aB j0<|aN)<|hR<|bQ _ (kB h)
def N0:Option (Bool):=
 some false
def Qy (a1:Int) (r1:(List UInt8)) (i_t6_4:Int):Option ((Int)⊕(Unit⊕Unit)):=
 (if(decide (i_t6_4<(r1.length:Int)))=true then
  (sidx r1 i_t6_4).bind fun c7=>
  (if(c7==a1)=true then
   some (.inr (.inr ()))
  else
   some (.inl (Ab (i_t6_4+1))))
 else
  some (.inr (.inl ())))
def B7 (a0:Int) (a1:Int):Option (Bool):=
 (WH a0).bind fun r1=>
 (iter (fun(v:Int)=>Qy a1 r1 v) FU (0:Int)).bind (Sum.elim (fun o0=>N0) (fun o1=>some true))
def fI (a0:Int) (a1:Int) (r:Bool):Prop:=Af Tryz.prog I0 200 [vI a0, .c (.int .u8 a1)] (· =vB r)
theorem GI {a0:Int} {a1:Int} {r:Bool} (h:B7 a0 a1=some r):fI a0 a1 r:=by
 refine Af.bo Ae Tryz.func200 rfl Tryz.ntmps200 [.tmp 4] fun _ _ _ _=>?_
 unfold B7 at h
 refine Gg [.a] (u [] []) (aN) ?_
 obtain⟨r1,p0,h⟩:=bS h
 refine Gg [.a,(.c (vS r1)),.a] (u [0] [(5,vS r1)]) (aC (cv p0)<|aN)<|Sj (X:=Unit) (fun v=>(sl 20 [] [])) (fun v=>N0=some r) ?_ ?_
 ·refine Gg [.a] (u [] [(6,vI 0)]) (aN)<|hB ?_
  obtain⟨t0,o0,h⟩:=bS h
  refine Gi (fun(v:Int)=>(u [] [(6,vI v)])) o0 (wT) ?_
  rintro j0 q0 i0 m0
  replace i0:Qy a1 r1 j0=some q0:=i0
  unfold Qy at i0
  refine hS<|Gg (nA 4) (u [] [(12,vB (decide (j0<(r1.length:Int))))]) (aN)<|iC i0 (fun i0=>?_) (fun i0=>?_)
  ·refine hK<|Tn<|hS<|hB ?_
   obtain⟨c7,n0,i0⟩:=bS i0
   refine Gg [.a,.a,(.v (.c (.int .u8 c7))),.a,.a] (u [12] [(19,vB (c7==a1))]) (aC (L2 n0)<|aC (congrArg (fun z=>V.c (.int .u8 z)) (L3 n0).symm)<|aN)<|iC i0 (fun i0=>?_) (fun i0=>?_)
   ·refine Rg [.a] (sl 20 [(4,vB true)] []) (aN)<|hR<|qR<|Tr ?_
    obtain rfl:=m0 _ (sI i0).symm
    replace h:=Cy h
    exact Tr<|qR<|Tr<|bQ _ (kB h)
   refine hK<|qN<|Tn<|Ge (nA 3) (u [] [(6,vI (Ab (j0+1))),(13,vI j0),(14,vI (Ab (j0+1)))]) (aN)<|Tn ⟨(Ab (j0+1)),(sI i0).symm,wT⟩
  refine hE<|Te ?_
  obtain rfl:=m0 _ (sI i0).symm
  replace h:=CZ h
  refine Te<|qX<|Tn ⟨(),h,wT⟩
 rintro _ k0
 replace k0:N0=some r:=k0
 unfold N0 at k0
 exact Rg [.a] (sl 20 [(4,vB false)] []) (aN)<|hR<|bQ _ (kB k0)
end Go.PL
