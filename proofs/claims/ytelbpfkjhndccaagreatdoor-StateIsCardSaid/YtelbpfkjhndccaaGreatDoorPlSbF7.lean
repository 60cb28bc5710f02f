/- Functions of the program, as partial functions in Lean, with proofs. -/
import Derived.Test.YtelbpfkjhndccaaGreatDoorPlSbB
import Derived.Test.YtelbpfkjhndccaaGreatDoorPlSbF2
import Derived.Test.YtelbpfkjhndccaaGreatDoorPlSbF4
namespace Go.PL
open Go Go.RowKit Go.Proofs
set_option maxRecDepth 100000
set_option linter.all false
set_option maxHeartbeats 4000000
attribute [local irreducible] Ak Ca BP
def J6 (s_t3_3:List UInt8):Option ((List UInt8)):=
 (if(s_t3_3==([]:List UInt8))=true then
  some LH
 else
  some s_t3_3)
def GX (mask_t0_9:Int) (i_t4_11:Int) (s_t3_15:List UInt8):Option ((Int×(List UInt8)×Int)⊕((List UInt8))):=
 some (.inl ((Ab (Int.tdiv mask_t0_9 (2:Int))),s_t3_15,(Ab (i_t4_11+1))))
def GY (mask_t0_9:Int) (i_t4_11:Int) (s_t3_18:List UInt8):Option ((Int×(List UInt8)×Int)⊕((List UInt8))):=
 (Qx i_t4_11).bind fun r20=>
 (cat s_t3_18 r20).bind fun s21=>
 GX mask_t0_9 i_t4_11 s21
def MD (mask_t0_9:Int) (s_t3_10:List UInt8) (i_t4_11:Int):Option ((Int×(List UInt8)×Int)⊕((List UInt8))):=
 (if(decide (i_t4_11<17))=true then
  (if((Int.tmod mask_t0_9 (2:Int))==(1:Int))=true then
   (if(s_t3_10 != ([]:List UInt8))=true then
    (cat s_t3_10 NO).bind fun s23=>
    GY mask_t0_9 i_t4_11 s23
   else
    GY mask_t0_9 i_t4_11 s_t3_10)
  else
   GX mask_t0_9 i_t4_11 s_t3_10)
 else
  some (.inr s_t3_10))
def OW (a0:Int):Option ((List UInt8)):=
 (WE a0).bind fun r1=>
 (if(!r1)=true then
  some ([]:List UInt8)
 else
  (iter (fun(v:Int×(List UInt8)×Int)=>MD v.1 v.2.1 v.2.2) FU (a0,([]:List UInt8),(0:Int))).bind (fun o0=>J6 o0))
def fJ (a0:Int) (r:(List UInt8)):Prop:=Af Tryz.prog I0 166 [vI a0] (· =vS r)
theorem UB {a0:Int} {r:(List UInt8)} (h:OW a0=some r):fJ a0 r:=by
 refine Af.bo Ae Tryz.func166 rfl Tryz.ntmps166 [.tmp 2] fun _ _ _ _=>?_
 unfold OW at h
 refine Gg [.a] (u [] []) (aN)<|hS ?_
 obtain⟨r1,p1,h⟩:=bS h
 refine Gg [.a,(.c (vB r1)),.a] (u [] [(7,vB (!r1))]) (aC (jD p1)<|aN)<|iC h (fun h=>?_) (fun h=>?_)
 ·exact Rg [.a] (sl 28 [(2,vS ([]:List UInt8))] []) (aN)<|hR<|Tr<|bQ _ (congrArg vS (sI h))
 refine hK<|Tn<|Gg [.a] (u [7] [(3,vS ([]:List UInt8))]) (aN)<|Sj (X:=(List UInt8)) (fun v=>(sl 28 [(3,vS v)] [])) (fun v=>J6 v=some r) ?_ ?_
 ·refine Gg [.a] (u [] [(4,vI 0)]) (aN)<|hB ?_
  obtain⟨q1,k1,h⟩:=bS h
  refine It (fun(v:Int×(List UInt8)×Int)=>(sl 28 [(0,vI v.1),(3,vS v.2.1),(4,vI v.2.2)] [])) k1 (wT) ?_
  rintro⟨i0,m0,k0⟩ q0 j0 m1
  replace j0:MD i0 m0 k0=some q0:=j0
  unfold MD at j0
  refine hS<|Gg [.a,.a] (u [] [(9,vB (decide (k0<17)))]) (aN)<|iC j0 (fun j0=>?_) (fun j0=>?_)
  ·refine hK<|Tn<|hS<|hB<|Gj (X:=(List UInt8)) (fun v=>(u [9] [(3,vS v)])) (fun v=>GX i0 k0 v=some q0) ?_ ?_
   ·refine Gg (nA 3) (u [9] [(14,vB ((Int.tmod i0 (2:Int))==(1:Int)))]) (aC (show (2:Int) ≠ 0 from(by decide))<|aN)<|iC j0 (fun j0=>?_) (fun j0=>?_)
    ·refine Gj (X:=(List UInt8)) (fun v=>(u [14] [(3,vS v)])) (fun v=>GY i0 k0 v=some q0) ?_ ?_
     ·refine Gg [.a,.a] (u [14] [(16,vB (m0 != ([]:List UInt8)))]) (aN)<|iC j0 (fun j0=>?_) (fun j0=>?_)
      ·obtain⟨d1,j1,j0⟩:=bS j0
       refine Ge [.a,(.v (vS d1)),.a] (u [] [(3,vS d1),(17,vS m0),(18,vS d1)]) (aC (By j1)<|aC (congrArg (fun z=>V.c (.str z)) (Bz j1).symm)<|aN)<|Tn ⟨d1,j0,wT⟩
      refine hK<|Tn ⟨m0,j0,wT⟩
     rintro x0 n0
     replace n0:GY i0 k0 x0=some q0:=n0
     unfold GY at n0
     obtain⟨n1,o1,z0,i1,n0⟩:=Ex n0
     refine Ge [.a,.a,(.c (vS n1)),(.v (vS z0)),.a] (u [] [(3,vS z0),(19,vS x0),(20,vI k0),(21,vS n1),(22,vS z0)]) (aC (Uz o1)<|aC (By i1)<|aC (congrArg (fun z=>V.c (.str z)) (Bz i1).symm)<|aN)<|Tn ⟨z0,n0,wT⟩
    refine hK<|Tn ⟨m0,j0,wT⟩
   rintro t0 y0
   replace y0:GX i0 k0 t0=some q0:=y0
   unfold GX at y0
   refine Ge (nA 3) (u [] [(0,vI (Ab (Int.tdiv i0 (2:Int)))),(23,vI i0),(24,vI (Ab (Int.tdiv i0 (2:Int))))]) (aC (show (2:Int) ≠ 0 from(by decide))<|aN)<|qN<|Tn<|Ge (nA 3) (u [] [(4,vI (Ab (k0+1))),(10,vI k0),(11,vI (Ab (k0+1)))]) (aN)<|Tn ⟨((Ab (Int.tdiv i0 (2:Int))),t0,(Ab (k0+1))),(sI y0).symm,wT⟩
  refine hE<|Te ?_
  obtain rfl:=m1 _ (sI j0).symm
  refine Te<|qX<|Tn ⟨m0,h,wT⟩
 rintro p0 o0
 replace o0:J6 p0=some r:=o0
 unfold J6 at o0
 refine hS<|Gg [.a,.a] (u [] [(26,vB (p0==([]:List UInt8)))]) (aN)<|iC o0 (fun o0=>?_) (fun o0=>?_)
 ·exact Rg [.a] (sl 28 [(2,vS LH)] []) (aN)<|hR<|Tr<|bQ _ (congrArg vS (sI o0))
 exact hK<|Tn<|Rg [.a,.a] (sl 28 [(2,vS p0)] []) (aN)<|hR<|bQ _ (congrArg vS (sI o0))
def FW (a0:List UInt8) (a1:Ac):Option ((List UInt8)):=
 (if(a1.Kind==0)=true then
  some ([]:List UInt8)
 else
  (TM).bind fun r2=>
  (idx r2 a1.Kind).bind fun e3=>
  (cat a0 e3).bind fun s4=>
  (FC a1.N).bind fun r5=>
  (cat s4 r5).bind fun s6=>
  some s6)
def U9 (a0:List UInt8) (a1:Ac) (r:(List UInt8)):Prop:=Af Tryz.prog I0 219 [vS a0,vA CK a1] (· =vS r)
theorem Lb {a0:List UInt8} {a1:Ac} {r:(List UInt8)} (h:FW a0 a1=some r):U9 a0 a1 r:=by
 refine Af.bo Ae Tryz.func219 rfl Tryz.ntmps219 [.tmp 4] fun _ _ _ _=>?_
 unfold FW at h
 refine Gg [.a,.a] (uo [1] [(3,vP [3] (0))] [.e (bx [3] (CK a1))]) (aN)<|hS<|Gg (nA 3) (u [] [(8,vB (a1.Kind==0))]) (aN)<|iC h (fun h=>?_) (fun h=>?_)
 ·exact Rg [.a] (sl 21 [(4,vS ([]:List UInt8))] []) (aN)<|hR<|Tr<|bQ _ (congrArg vS (sI h))
 refine hK<|Tn ?_
 obtain⟨r2,m0,h⟩:=bS h
 refine Gg [(.c (vL eS r2)),.a] (u [8] [(5,vL eS r2)]) (aC (ZJ m0)<|aN) ?_
 obtain⟨e3,i0,s4,j0,r5,n0,s6,k0,h⟩:=D2 h
 exact Rq BF [.a,.a,.a,.a,.a,(.v (vS e3)),(.v (vS s4)),.a,.a,(.c (vS r5)),(.v (vS s6)),.a] (sl 21 [(4,vS s6)] []) (aC (AI i0)<|aC (DI i0 OB 0 1 false (vS e3))<|aC (Eq.refl (vS e3))<|aC (By j0)<|aC (congrArg (fun z=>V.c (.str z)) (Bz j0).symm)<|aC (J3 n0)<|aC (By k0)<|aC (congrArg (fun z=>V.c (.str z)) (Bz k0).symm)<|aN)<|hR<|bQ _ (congrArg vS (sI h))
def LS (s_t3_7:List UInt8):Option ((List UInt8)):=
 (if(s_t3_7==([]:List UInt8))=true then
  some Ru
 else
  some s_t3_7)
def ME (i_t5_13:Int) (s_t3_17:List UInt8):Option (((List UInt8)×Int)⊕((List UInt8))):=
 some (.inl (s_t3_17,(Ab (i_t5_13+1))))
def FD (a0:AP) (i_t5_13:Int) (s_t3_21:List UInt8) (k_t6_22:Int):Option (((List UInt8)×Int)⊕((List UInt8))):=
 (idx a0.Color.l i_t5_13).bind fun e25=>
 (if(decide (k_t6_22<e25))=true then
  (ssub OI i_t5_13 (Ab (i_t5_13+1))).bind fun s27=>
  (cat s_t3_21 s27).bind fun s28=>
  some (.inl (s28,(Ab (k_t6_22+1))))
 else
  some (.inr s_t3_21))
def Iy (a0:AP) (s_t3_12:List UInt8) (i_t5_13:Int):Option (((List UInt8)×Int)⊕((List UInt8))):=
 (if(decide (i_t5_13<5))=true then
  (iter (fun(v:(List UInt8)×Int)=>FD a0 i_t5_13 v.1 v.2) FU (s_t3_12,(0:Int))).bind (fun o0=>ME i_t5_13 o0)
 else
  some (.inr s_t3_12))
def H1 (a0:AP) (s_t3_5:List UInt8):Option ((List UInt8)):=
 (iter (fun(v:(List UInt8)×Int)=>Iy a0 v.1 v.2) FU (s_t3_5,(0:Int))).bind (fun o0=>LS o0)
def LT (a0:AP) (s_t3_3:List UInt8):Option ((List UInt8)):=
 (if(a0.Generic != 0)=true then
  (FC a0.Generic).bind fun r30=>
  (cat s_t3_3 r30).bind fun s31=>
  H1 a0 s31
 else
  H1 a0 s_t3_3)
def FE (a0:AP) (s_t3_34:List UInt8) (i_t4_35:Int):Option (((List UInt8)×Int)⊕((List UInt8))):=
 (if(decide (i_t4_35<a0.X))=true then
  (cat s_t3_34 g8).bind fun s39=>
  some (.inl (s39,(Ab (i_t4_35+1))))
 else
  some (.inr s_t3_34))
def QA (a0:AP):Option ((List UInt8)):=
 (TN a0).bind fun r1=>
 (if(!r1)=true then
  some ([]:List UInt8)
 else
  (iter (fun(v:(List UInt8)×Int)=>FE a0 v.1 v.2) FU (([]:List UInt8),(0:Int))).bind (fun o0=>LT a0 o0))
def fK (a0:AP) (r:(List UInt8)):Prop:=Af Tryz.prog I0 235 [vA Bu a0] (· =vS r)
theorem cH {a0:AP} {r:(List UInt8)} (h:QA a0=some r):fK a0 r:=by
 refine Af.bo Ae Tryz.func235 rfl Tryz.ntmps235 [.tmp 2] fun _ _ _ _=>?_
 unfold QA at h
 refine Rg [.a,.a] (sl 47 [(1,vP [1] (0))] [bx [1] (Bu a0)]) (aN)<|hS ?_
 obtain⟨r1,d3,h⟩:=bS h
 refine Gg [.a,(.c (vB r1)),.a] (u [] [(9,vB (!r1))]) (aC (YD d3)<|aN)<|iC h (fun h=>?_) (fun h=>?_)
 ·exact Rg [.a] (sl 47 [(2,vS ([]:List UInt8))] []) (aN)<|hR<|Tr<|bQ _ (congrArg vS (sI h))
 refine hK<|Tn<|Gg [.a] (u [9] [(3,vS ([]:List UInt8))]) (aN)<|Gj (X:=(List UInt8)) (fun v=>(u [] [(3,vS v)])) (fun v=>LT a0 v=some r) ?_ ?_
 ·refine Gg [.a] (u [] [(4,vI 0)]) (aN)<|hB ?_
  obtain⟨k3,m2,h⟩:=bS h
  refine Gi (fun(v:(List UInt8)×Int)=>(u [] [(3,vS v.1),(4,vI v.2)])) m2 (wT) ?_
  rintro⟨x0,n0⟩ z2 m0 p2
  replace m0:FE a0 x0 n0=some z2:=m0
  unfold FE at m0
  refine hS<|Gg (nA 4) (u [] [(13,vB (decide (n0<a0.X)))]) (aN)<|iC m0 (fun m0=>?_) (fun m0=>?_)
  ·refine hK<|Tn<|hS<|hB ?_
   obtain⟨q1,d2,m0⟩:=bS m0
   refine Ge [.a,(.v (vS q1)),.a] (u [] [(3,vS q1),(16,vS x0),(17,vS q1)]) (aC (By d2)<|aC (congrArg (fun z=>V.c (.str z)) (Bz d2).symm)<|aN)<|qN<|Tn<|Ge (nA 3) (u [] [(4,vI (Ab (n0+1))),(14,vI n0),(15,vI (Ab (n0+1)))]) (aN)<|Tn ⟨(q1,(Ab (n0+1))),(sI m0).symm,wT⟩
  refine hE<|Te ?_
  obtain rfl:=p2 _ (sI m0).symm
  refine Te<|qX<|Tn ⟨x0,h,wT⟩
 rintro z0 p0
 replace p0:LT a0 z0=some r:=p0
 unfold LT at p0
 refine Gj (X:=(List UInt8)) (fun v=>(u [] [(3,vS v)])) (fun v=>H1 a0 v=some r) ?_ ?_
 ·refine Gg (nA 3) (u [] [(20,vB (a0.Generic != 0))]) (aN)<|iC p0 (fun p0=>?_) (fun p0=>?_)
  ·obtain⟨q2,x2,p1,z1,p0⟩:=Ex p0
   refine Ge [.a,.a,.a,(.c (vS q2)),(.v (vS p1)),.a] (u [] [(3,vS p1),(21,vS z0),(22,vP [1] (0)),(23,vI a0.Generic),(24,vS q2),(25,vS p1)]) (aC (J3 x2)<|aC (By z1)<|aC (congrArg (fun z=>V.c (.str z)) (Bz z1).symm)<|aN)<|Tn ⟨p1,p0,wT⟩
  refine hK<|Tn ⟨z0,p0,wT⟩
 rintro i2 i1
 replace i1:H1 a0 i2=some r:=i1
 unfold H1 at i1
 refine Sj (X:=(List UInt8)) (fun v=>(sl 47 [(3,vS v)] [])) (fun v=>LS v=some r) ?_ ?_
 ·refine Gg [.a] (u [] [(5,vI 0)]) (aN)<|hB ?_
  obtain⟨i3,j2,i1⟩:=bS i1
  refine Gi (fun(v:(List UInt8)×Int)=>(u [] [(3,vS v.1),(5,vI v.2)])) j2 (wT) ?_
  rintro⟨q0,i0⟩ m1 k0 n2
  replace k0:Iy a0 q0 i0=some m1:=k0
  unfold Iy at k0
  refine hS<|Gg [.a,.a] (u [] [(27,vB (decide (i0<5)))]) (aN)<|iC k0 (fun k0=>?_) (fun k0=>?_)
  ·refine hK<|Tn<|Sj (X:=(List UInt8)) (fun v=>(sl 47 [(1,vP [1] (0)),(3,vS v),(5,vI i0)] [bx [1] (Bu a0)])) (fun v=>ME i0 v=some m1) ?_ ?_
   ·refine hB<|Rg [.a] (sl 47 [(1,vP [1] (0)),(3,vS q0),(5,vI i0),(6,vI 0)] [bx [1] (Bu a0)]) (aN)<|hB ?_
    obtain⟨j3,k2,k0⟩:=bS k0
    refine Gi (fun(v:(List UInt8)×Int)=>(u [] [(3,vS v.1),(6,vI v.2)])) k2 (wT) ?_
    rintro⟨t0,o0⟩ y2 j0 o2
    replace j0:FD a0 i0 t0 o0=some y2:=j0
    unfold FD at j0
    refine hS ?_
    obtain⟨n1,t1,j0⟩:=bS j0
    refine Gg [.a,.a,.a,.a,(.v (vI n1)),.a] (u [] [(35,vB (decide (o0<n1)))]) (aC (AI t1)<|aC (kx t1 (Fq .i64) (Bu a0) 2 7 0 1 false (vI n1))<|aC (Eq.refl (vI n1))<|aN)<|iC j0 (fun j0=>?_) (fun j0=>?_)
    ·refine hK<|Tn<|hS<|hB ?_
     obtain⟨t2,x1,o1,y1,j0⟩:=Ex j0
     refine Ge [.a,.a,.a,.a,(.v (vS t2)),(.v (vS o1)),.a] (u [] [(3,vS o1),(38,vS t0),(39,vI i0),(40,vI i0),(41,vI (Ab (i0+1))),(42,vS t2),(43,vS o1)]) (aC (kX x1)<|aC (congrArg (fun z=>V.c (.str z)) (kY x1).symm)<|aC (By y1)<|aC (congrArg (fun z=>V.c (.str z)) (Bz y1).symm)<|aN)<|qN<|Tn<|Ge (nA 3) (u [] [(6,vI (Ab (o0+1))),(36,vI o0),(37,vI (Ab (o0+1)))]) (aN)<|Tn ⟨(o1,(Ab (o0+1))),(sI j0).symm,wT⟩
    refine hE<|Te ?_
    obtain rfl:=o2 _ (sI j0).symm
    refine Te<|qX<|qN<|Tn ⟨t0,k0,wT⟩
   rintro j1 k1
   replace k1:ME i0 j1=some m1:=k1
   unfold ME at k1
   refine Ge (nA 3) (u [] [(5,vI (Ab (i0+1))),(28,vI i0),(29,vI (Ab (i0+1)))]) (aN)<|Tn ⟨(j1,(Ab (i0+1))),(sI k1).symm,wT⟩
  refine hE<|Te ?_
  obtain rfl:=n2 _ (sI k0).symm
  refine Te<|qX<|Tn ⟨q0,i1,wT⟩
 rintro d1 y0
 replace y0:LS d1=some r:=y0
 unfold LS at y0
 refine hS<|Gg [.a,.a] (u [] [(45,vB (d1==([]:List UInt8)))]) (aN)<|iC y0 (fun y0=>?_) (fun y0=>?_)
 ·exact Rg [.a] (sl 47 [(2,vS Ru)] []) (aN)<|hR<|Tr<|bQ _ (congrArg vS (sI y0))
 exact hK<|Tn<|Rg [.a,.a] (sl 47 [(2,vS d1)] []) (aN)<|hR<|bQ _ (congrArg vS (sI y0))
end Go.PL
