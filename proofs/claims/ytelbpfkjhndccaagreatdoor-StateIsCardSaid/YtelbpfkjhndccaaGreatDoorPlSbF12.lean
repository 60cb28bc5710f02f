/- Functions of the program, as partial functions in Lean, with proofs. -/
import Derived.Test.YtelbpfkjhndccaaGreatDoorPlSbB
import Derived.Test.YtelbpfkjhndccaaGreatDoorPlSbF0
import Derived.Test.YtelbpfkjhndccaaGreatDoorPlSbF10
import Derived.Test.YtelbpfkjhndccaaGreatDoorPlSbF11
import Derived.Test.YtelbpfkjhndccaaGreatDoorPlSbF4
import Derived.Test.YtelbpfkjhndccaaGreatDoorPlSbF5
import Derived.Test.YtelbpfkjhndccaaGreatDoorPlSbF6
import Derived.Test.YtelbpfkjhndccaaGreatDoorPlSbF7
import Derived.Test.YtelbpfkjhndccaaGreatDoorPlSbF8
namespace Go.PL
open Go Go.RowKit Go.Proofs
set_option maxRecDepth 100000
set_option linter.all false
set_option maxHeartbeats 4000000
attribute [local irreducible] Ak Ca BP
def Fl (l3_3:List (List UInt8)):Option ((List UInt8)):=
 (Ik l3_3 F4).bind fun r5=>
 some r5
def IR (a0:List (Bq)) (vt16_8:Int) (l3_9:List (List UInt8)):Option ((Int×(List (List UInt8)))⊕((List (List UInt8))⊕Unit)):=
 (if(decide (vt16_8<(a0.length:Int)))=true then
  (idx a0 vt16_8).bind fun e13=>
  (KA e13).bind fun r14=>
  (if(!r14)=true then
   some (.inr (.inr ()))
  else
   (QD e13).bind fun r16=>
   (app 16 l3_9 ([r16]:List (List UInt8))).bind fun l17=>
   some (.inl ((Ab (vt16_8+1)),l17)))
 else
  some (.inr (.inl l3_9)))
def FI (a0:List (Bq)):Option ((List UInt8)):=
 (some (if(decide ((a0.length:Int)<1))=true then true else decide (6<(a0.length:Int)))).bind fun b1=>
 (if b1=true then
  some ([]:List UInt8)
 else
  (iter (fun(v:Int×(List (List UInt8)))=>IR a0 v.1 v.2) FU ((0:Int),([]:List (List UInt8)))).bind (Sum.elim (fun o0=>Fl o0) (fun o1=>some ([]:List UInt8))))
def WW (a0:List (Bq)) (r:(List UInt8)):Prop:=Af Tryz.prog I0 48 [vL Ao a0] (· =vS r)
theorem Mf {a0:List (Bq)} {r:(List UInt8)} (h:FI a0=some r):WW a0 r:=by
 refine Af.bo Ae Tryz.func48 rfl Tryz.ntmps48 [.tmp 2] fun _ _ _ _=>?_
 unfold FI at h
 refine Gg [.a] (u [] []) (aN)<|hS ?_
 obtain⟨b1,m1,h⟩:=bS h
 refine Gg [.a,.a,.a,.a,.a,.a,.a,(.v (vB b1))] (u [] [(13,vB b1)]) (aG ((decide ((a0.length:Int)<1))==false)<|aG ((decide ((a0.length:Int)<1))==false)<|aF (decide ((a0.length:Int)<1))<|aB m1<|aN)<|iC h (fun h=>?_) (fun h=>?_)
 ·exact Rg [.a] (sl 31 [(2,vS ([]:List UInt8))] []) (aN)<|hR<|Tr<|bQ _ (congrArg vS (sI h))
 refine hK<|Tn<|Gg [.a] (uo [13] [(3,vO [3])] [.e (Bp [3] 9 1 eS ([]:List (List UInt8)))]) (aN)<|Sj (X:=(List (List UInt8))) (fun v=>(sl 31 [(3,vO [3])] [Bp [3] 9 1 eS v])) (fun v=>Fl v=some r) ?_ ?_
 ·refine Gg (nA 3) (u [0] [(14,vL Ao a0),(15,vI (a0.length:Int)),(16,vI 0)]) (aN)<|hB ?_
  obtain⟨o1,y0,h⟩:=bS h
  refine Gi (fun(v:Int×(List (List UInt8)))=>(uo [] [(16,vI v.1)] [.e (Bp [3] 9 1 eS v.2)])) y0 (wT) ?_
  rintro⟨j0,n0⟩ k1 i0 o0
  replace i0:IR a0 j0 n0=some k1:=i0
  unfold IR at i0
  refine Gg [.a] (u [] [(17,vB (decide (j0<(a0.length:Int))))]) (aN)<|hS<|iC i0 (fun i0=>?_) (fun i0=>?_)
  ·refine hK<|Tn<|hS<|hB ?_
   obtain⟨k0,q0,i0⟩:=bS i0
   refine Gg [.a,(.v (vA Ao k0)),.a,.a] (uo [17] [(5,vP [5] (0))] [.e (bx [5] (Ao k0)),.k 0]) (aC (AI q0)<|aC (DI q0 Kg 0 20 true (vA Ao k0))<|aC (Eq.refl (vA Ao k0))<|aN)<|hS ?_
   obtain⟨z0,d1,i0⟩:=bS i0
   refine Rg [.a,(.c (vB z0)),.a] (sl 31 [(3,vO [3]),(5,vP [5] (0)),(14,vL Ao a0),(15,vI (a0.length:Int)),(16,vI j0),(22,vB (!z0))] [bx [5] (Ao k0),Bp [3] 9 1 eS n0]) (aC (YF d1)<|aN)<|iC i0 (fun i0=>?_) (fun i0=>?_)
   ·refine Rg [.a] (sl 31 [(2,vS ([]:List UInt8))] []) (aN)<|hR<|Tr<|qR<|Tr ?_
    obtain rfl:=o0 _ (sI i0).symm
    replace h:=Cy h
    exact Tr<|qR<|Tr<|bQ _ (congrArg vS (sI h))
   refine hK<|Tn ?_
   obtain⟨x0,i1,p0,t0,i0⟩:=Ex i0
   refine Ge [.a,.a,(.c (vS x0)),.a,(.e p0.length (p0.flatMap (eS))),.a] (uo [] [(24,vA Ao k0),(25,vS x0),(26,vO [26]),(27,vO [3])] [.e (Bp [3] 9 1 eS p0),.e (Bp [26] 9 1 eS ([x0]:List (List UInt8))),.k 0]) (aC (cL i1)<|aC (ND t0 eS)<|aC (CJ t0)<|aN)<|qN<|Tn<|Ge [.a,.a] (u [] [(16,vI (Ab (j0+1))),(28,vI (Ab (j0+1)))]) (aN)<|Tn ⟨((Ab (j0+1)),p0),(sI i0).symm,wT⟩
  refine hE<|Te ?_
  obtain rfl:=o0 _ (sI i0).symm
  replace h:=CZ h
  refine Te<|qX<|Tn ⟨n0,h,wT⟩
 rintro j1 m0
 replace m0:Fl j1=some r:=m0
 unfold Fl at m0
 obtain⟨r5,n1,m0⟩:=bS m0
 exact Rg [.a,(.c (vS r5)),.a] (sl 31 [(2,vS r5)] []) (aC (Pn n1)<|aN)<|hR<|bQ _ (congrArg vS (sI m0))
def AU:Option (Bool):=
 some true
def Bk (a0:List (Cb)) (a1:List (Cb)) (vt17_4:Int):Option ((Int)⊕(Unit⊕Unit)):=
 (if(decide (vt17_4<(a0.length:Int)))=true then
  (idx a0 vt17_4).bind fun e7=>
  (idx a1 vt17_4).bind fun e8=>
  (some (if(e7.Id==e8.Id)=true then e7.Kind==e8.Kind else false)).bind fun b9=>
  (some (if b9=true then e7.Source==e8.Source else false)).bind fun b10=>
  (some (if b10=true then e7.Control==e8.Control else false)).bind fun b11=>
  (some (if b11=true then e7.X==e8.X else false)).bind fun b12=>
  (some (if b12=true then e7.Copy==e8.Copy else false)).bind fun b13=>
  (gd (b13==true) (DC e7.Ability e8.Ability)).bind fun r14=>
  (some (if b13=true then r14 else false)).bind fun b15=>
  (gd (b15==true) (BX e7.Targets e8.Targets)).bind fun r16=>
  (some (if b15=true then r16 else false)).bind fun b17=>
  (some (if b17=true then e7.Event==e8.Event else false)).bind fun b18=>
  (if(!b18)=true then
   some (.inr (.inr ()))
  else
   some (.inl (Ab (vt17_4+1))))
 else
  some (.inr (.inl ())))
def Bo (a0:List (Cb)) (a1:List (Cb)):Option (Bool):=
 (if((a0.length:Int) != (a1.length:Int))=true then
  some false
 else
  (iter (fun(v:Int)=>Bk a0 a1 v) FU (0:Int)).bind (Sum.elim (fun o0=>AU) (fun o1=>some false)))
def C2 (a0:List (Cb)) (a1:List (Cb)) (r:Bool):Prop:=Af Tryz.prog I0 60 [vL Au a0,vL Au a1, .c (.fn 33)] (· =vB r)
theorem CU {a0:List (Cb)} {a1:List (Cb)} {r:Bool} (h:Bo a0 a1=some r):C2 a0 a1 r:=by
 refine Af.bo Ae Tryz.func60 rfl Tryz.ntmps60 [.tmp 6] fun _ _ _ _=>?_
 unfold Bo at h
 refine Gg [.a] (u [] []) (aN)<|hS<|Gg (nA 5) (u [] [(14,vB ((a0.length:Int) != (a1.length:Int)))]) (aN)<|iC h (fun h=>?_) (fun h=>?_)
 ·exact Rg [.a] (sl 32 [(6,vB false)] []) (aN)<|hR<|Tr<|bQ _ (kB h)
 refine hK<|Tn<|Sj (X:=Unit) (fun v=>(sl 32 [] [])) (fun v=>AU=some r) ?_ ?_
 ·refine Gg (nA 3) (u [0,14] [(15,vL Au a0),(16,vI (a0.length:Int)),(17,vI 0)]) (aN)<|hB ?_
  obtain⟨j2,q1,h⟩:=bS h
  refine Gi (fun(v:Int)=>(u [] [(17,vI v)])) q1 (wT) ?_
  rintro j0 i2 i0 y0
  replace i0:Bk a0 a1 j0=some i2:=i0
  unfold Bk at i0
  refine Gg [.a] (u [] [(18,vB (decide (j0<(a0.length:Int))))]) (aN)<|hS<|iC i0 (fun i0=>?_) (fun i0=>?_)
  ·refine hK<|Tn<|hS<|hB ?_
   obtain⟨e7,z0,i0⟩:=bS i0
   refine Gg [.a,.a,(.v (vA Au e7)),.a,.a,.a] (uo [18] [(7,vI j0),(8,vP [8] (0))] [.e (bx [8] (Au e7))]) (aC (AI z0)<|aC (DI z0 Ha 0 94 true (vA Au e7))<|aC (Eq.refl (vA Au e7))<|aN) ?_
   obtain⟨e8,d1,i0⟩:=bS i0
   refine Gg [.a,.a,.a,(.v (vA Au e8)),.a,.a] (uo [7] [(9,vP [9] (0))] [.e (bx [9] (Au e8)),.k 0]) (aC (AI d1)<|aC (DI d1 Ha 0 94 true (vA Au e8))<|aC (Eq.refl (vA Au e8))<|aN)<|hS<|hO<|Rp 3 (nA 3) (sl 32 [(1,vL Au a1),(2,.c (.fn 33)),(8,vP [8] (0)),(9,vP [9] (0)),(15,vL Au a0),(16,vI (a0.length:Int)),(17,vI j0),(26,.c (.fn 33)),(27,vA Au e7),(28,vA Au e8)] [bx [9] (Au e8),bx [8] (Au e7)]) (aN)<|rI rfl rfl<|Ei 29 [vA Au e7,vA Au e8] [] Tryz.func33 Tryz.ntmps33 [.tmp 4] rfl rfl rfl rfl fun _ _ _ _=>Gg (nA 3) (uo [0,1] [(2,vP [2,29] (0)),(3,vP [3,29] (0))] [.e (bx [3,29] (Au e8)),.e (bx [2,29] (Au e7)),.k 0,.k 1]) (aN) ?_
   obtain⟨b9,y1,n0,i1,o0,j1,k0,k1,i0⟩:=D2 i0
   obtain⟨p0,m1,z1,t1,q0,n1,d2,x1,i0⟩:=D2 i0
   obtain⟨m0,o1,t0,p1,i0⟩:=Ex i0
   refine Gg [.a,.a,.a,.a,.a,.a,.a,.a,.a,.a,.a,(.v (vB b9)),.a,.a,.a,.a,.a,.a,(.v (vB n0)),.a,.a,.a,.a,.a,.a,(.v (vB o0)),.a,.a,.a,.a,.a,.a,(.v (vB k0)),.a,.a,.a,.a,.a,.a,(.v (vB p0)),.a,.a,.a,.a,.a,(.c (vB z1)),(.v (vB q0)),.a,.a,.a,.a,.a,(.c (vB d2)),(.v (vB m0)),.a,.a,.a,.a,.a,(.v (vB (e7.Event==e8.Event))),(.v (vB t0)),.a] (uo [2,3] [(4,vB t0)] [.k 2,.k 3]) (aG ((e7.Id==e8.Id)==true)<|aG ((e7.Id==e8.Id)==true)<|aH ((e7.Id==e8.Id)==true)<|aT (e7.Id==e8.Id)<|aB y1<|aG (b9==true)<|aG (b9==true)<|aH (b9==true)<|aT b9<|aB i1<|aG (n0==true)<|aG (n0==true)<|aH (n0==true)<|aT n0<|aB j1<|aG (o0==true)<|aG (o0==true)<|aH (o0==true)<|aT o0<|aB k1<|aG (k0==true)<|aG (k0==true)<|aC (fun hg:(k0==true)=true=>aC (gi (k0==true))<|aC (gi (k0==true))<|aC Wo<|aN)<|aT k0<|aB m1<|aG (p0==true)<|aG (p0==true)<|aC (c2 t1 H3)<|aT p0<|aB n1<|aG (q0==true)<|aG (q0==true)<|aC (c2 x1 FB)<|aT q0<|aB o1<|aG (m0==true)<|aG (m0==true)<|aC (fun hg:(m0==true)=true=>aC (gi (m0==true))<|aC (gi (m0==true))<|aC (congrArg (fun z=>V.c (.bool (z))) (pF e7.Event e8.Event))<|aN)<|aT m0<|aB p1<|aN)<|hR<|nR (vB t0)<|Gw [.a] (u [] [(30,vB (!t0))]) (aN)<|Tn<|iC i0 (fun i0=>?_) (fun i0=>?_)
   ·refine Rg [.a] (sl 32 [(6,vB false)] []) (aN)<|hR<|qR<|Tr ?_
    obtain rfl:=y0 _ (sI i0).symm
    replace h:=Cy h
    exact Tr<|qR<|Tr<|bQ _ (kB h)
   refine hK<|qN<|Tn<|Ge [.a,.a] (u [] [(17,vI (Ab (j0+1))),(31,vI (Ab (j0+1)))]) (aN)<|Tn ⟨(Ab (j0+1)),(sI i0).symm,wT⟩
  refine hE<|Te ?_
  obtain rfl:=y0 _ (sI i0).symm
  replace h:=CZ h
  refine Te<|qX<|Tn ⟨(),h,wT⟩
 rintro _ x0
 replace x0:AU=some r:=x0
 unfold AU at x0
 exact Rg [.a] (sl 32 [(6,vB true)] []) (aN)<|hR<|bQ _ (kB x0)
def AE:Option (Bool):=
 some true
def AY (a0:List (BI)) (a1:List (BI)) (vt17_4:Int):Option ((Int)⊕(Unit⊕Unit)):=
 (if(decide (vt17_4<(a0.length:Int)))=true then
  (idx a0 vt17_4).bind fun e7=>
  (idx a1 vt17_4).bind fun e8=>
  (some (if(e7.Source==e8.Source)=true then e7.Control==e8.Control else false)).bind fun b9=>
  (gd (b9==true) (DC e7.Ability e8.Ability)).bind fun r10=>
  (some (if b9=true then r10 else false)).bind fun b11=>
  (some (if b11=true then e7.Event==e8.Event else false)).bind fun b12=>
  (if(!b12)=true then
   some (.inr (.inr ()))
  else
   some (.inl (Ab (vt17_4+1))))
 else
  some (.inr (.inl ())))
def A8 (a0:List (BI)) (a1:List (BI)):Option (Bool):=
 (if((a0.length:Int) != (a1.length:Int))=true then
  some false
 else
  (iter (fun(v:Int)=>AY a0 a1 v) FU (0:Int)).bind (Sum.elim (fun o0=>AE) (fun o1=>some false)))
def B6 (a0:List (BI)) (a1:List (BI)) (r:Bool):Prop:=Af Tryz.prog I0 63 [vL Aq a0,vL Aq a1, .c (.fn 35)] (· =vB r)
theorem B0 {a0:List (BI)} {a1:List (BI)} {r:Bool} (h:A8 a0 a1=some r):B6 a0 a1 r:=by
 refine Af.bo Ae Tryz.func63 rfl Tryz.ntmps63 [.tmp 6] fun _ _ _ _=>?_
 unfold A8 at h
 refine Gg [.a] (u [] []) (aN)<|hS<|Gg (nA 5) (u [] [(14,vB ((a0.length:Int) != (a1.length:Int)))]) (aN)<|iC h (fun h=>?_) (fun h=>?_)
 ·exact Rg [.a] (sl 32 [(6,vB false)] []) (aN)<|hR<|Tr<|bQ _ (kB h)
 refine hK<|Tn<|Sj (X:=Unit) (fun v=>(sl 32 [] [])) (fun v=>AE=some r) ?_ ?_
 ·refine Gg (nA 3) (u [0,14] [(15,vL Aq a0),(16,vI (a0.length:Int)),(17,vI 0)]) (aN)<|hB ?_
  obtain⟨k1,y0,h⟩:=bS h
  refine Gi (fun(v:Int)=>(u [] [(17,vI v)])) y0 (wT) ?_
  rintro j0 j1 i0 o0
  replace i0:AY a0 a1 j0=some j1:=i0
  unfold AY at i0
  refine Gg [.a] (u [] [(18,vB (decide (j0<(a0.length:Int))))]) (aN)<|hS<|iC i0 (fun i0=>?_) (fun i0=>?_)
  ·refine hK<|Tn<|hS<|hB ?_
   obtain⟨e7,p0,i0⟩:=bS i0
   refine Gg [.a,.a,(.v (vA Aq e7)),.a,.a,.a] (uo [18] [(7,vI j0),(8,vP [8] (0))] [.e (bx [8] (Aq e7))]) (aC (AI p0)<|aC (DI p0 JV 0 89 true (vA Aq e7))<|aC (Eq.refl (vA Aq e7))<|aN) ?_
   obtain⟨e8,q0,i0⟩:=bS i0
   refine Gg [.a,.a,.a,(.v (vA Aq e8)),.a,.a] (uo [7] [(9,vP [9] (0))] [.e (bx [9] (Aq e8)),.k 0]) (aC (AI q0)<|aC (DI q0 JV 0 89 true (vA Aq e8))<|aC (Eq.refl (vA Aq e8))<|aN)<|hS<|hO<|Rp 3 (nA 3) (sl 32 [(1,vL Aq a1),(2,.c (.fn 35)),(8,vP [8] (0)),(9,vP [9] (0)),(15,vL Aq a0),(16,vI (a0.length:Int)),(17,vI j0),(26,.c (.fn 35)),(27,vA Aq e7),(28,vA Aq e8)] [bx [9] (Aq e8),bx [8] (Aq e7)]) (aN)<|rI rfl rfl<|Ei 29 [vA Aq e7,vA Aq e8] [] Tryz.func35 Tryz.ntmps35 [.tmp 4] rfl rfl rfl rfl fun _ _ _ _=>Gg (nA 3) (uo [0,1] [(2,vP [2,29] (0)),(3,vP [3,29] (0))] [.e (bx [3,29] (Aq e8)),.e (bx [2,29] (Aq e7)),.k 0,.k 1]) (aN) ?_
   obtain⟨b9,d1,i1,z0,k0,t0,m0,x0,i0⟩:=D2 i0
   refine Gg [.a,.a,.a,.a,.a,.a,.a,.a,.a,.a,.a,(.v (vB b9)),.a,.a,.a,.a,.a,(.c (vB i1)),(.v (vB k0)),.a,.a,.a,.a,.a,(.v (vB (e7.Event==e8.Event))),(.v (vB m0)),.a] (uo [2,3] [(4,vB m0)] [.k 2,.k 3]) (aG ((e7.Source==e8.Source)==true)<|aG ((e7.Source==e8.Source)==true)<|aH ((e7.Source==e8.Source)==true)<|aT (e7.Source==e8.Source)<|aB d1<|aG (b9==true)<|aG (b9==true)<|aC (c2 z0 H3)<|aT b9<|aB t0<|aG (k0==true)<|aG (k0==true)<|aC (fun hg:(k0==true)=true=>aC (gi (k0==true))<|aC (gi (k0==true))<|aC (congrArg (fun z=>V.c (.bool (z))) (pF e7.Event e8.Event))<|aN)<|aT k0<|aB x0<|aN)<|hR<|nR (vB m0)<|Gw [.a] (u [] [(30,vB (!m0))]) (aN)<|Tn<|iC i0 (fun i0=>?_) (fun i0=>?_)
   ·refine Rg [.a] (sl 32 [(6,vB false)] []) (aN)<|hR<|qR<|Tr ?_
    obtain rfl:=o0 _ (sI i0).symm
    replace h:=Cy h
    exact Tr<|qR<|Tr<|bQ _ (kB h)
   refine hK<|qN<|Tn<|Ge [.a,.a] (u [] [(17,vI (Ab (j0+1))),(31,vI (Ab (j0+1)))]) (aN)<|Tn ⟨(Ab (j0+1)),(sI i0).symm,wT⟩
  refine hE<|Te ?_
  obtain rfl:=o0 _ (sI i0).symm
  replace h:=CZ h
  refine Te<|qX<|Tn ⟨(),h,wT⟩
 rintro _ n0
 replace n0:AE=some r:=n0
 unfold AE at n0
 exact Rg [.a] (sl 32 [(6,vB true)] []) (aN)<|hR<|bQ _ (kB n0)
def QH (a0:Bq):Option ((List UInt8)):=
 (PB a0).bind fun r1=>
 (if(!r1)=true then
  some ([]:List UInt8)
 else
  (if(a0.Kind==1)=true then
   some NN
  else
   (if(a0.Kind==2)=true then
    (EI a0.N).bind fun r5=>
    (cat Pj r5).bind fun s6=>
    some s6
   else
    (if(a0.Kind==3)=true then
     (EI a0.N).bind fun r8=>
     (cat NP r8).bind fun s9=>
     some s9
    else
     (if(a0.Kind==4)=true then
      (cat SF a0.Sub).bind fun s11=>
      some s11
     else
      (if(a0.Kind==5)=true then
       (cat Q1 a0.Sub).bind fun s13=>
       some s13
      else
       (if(a0.Kind==6)=true then
        (Nx a0.N).bind fun r15=>
        (cat NQ r15).bind fun s16=>
        some s16
       else
        (if(a0.Kind==7)=true then
         (Nx a0.N).bind fun r18=>
         (cat Mp r18).bind fun s19=>
         some s19
        else
         (if(a0.Kind==8)=true then
          (OW a0.N).bind fun r21=>
          (cat Pk r21).bind fun s22=>
          some s22
         else
          (if(a0.Kind==9)=true then
           (OW a0.N).bind fun r24=>
           (cat HI r24).bind fun s25=>
           some s25
          else
           (if(a0.Kind==10)=true then
            some Q3
           else
            (if(a0.Kind==11)=true then
             (QE a0.Filter).bind fun r28=>
             (cat Ln r28).bind fun s29=>
             (cat s29 Vo).bind fun s30=>
             some s30
            else
             (if(a0.Kind==12)=true then
              (FC a0.N).bind fun r32=>
              (cat Vp r32).bind fun s33=>
              (cat s33 NS).bind fun s34=>
              (FC a0.M).bind fun r35=>
              (cat s34 r35).bind fun s36=>
              some s36
             else
              (if(a0.Kind==13)=true then
               (FC a0.N).bind fun r38=>
               (cat SG r38).bind fun s39=>
               (cat s39 NS).bind fun s40=>
               (FC a0.M).bind fun r41=>
               (cat s40 r41).bind fun s42=>
               some s42
              else
               some Lo))))))))))))))
def fQ (a0:Bq) (r:(List UInt8)):Prop:=Af Tryz.prog I0 114 [vA Ao a0] (· =vS r)
theorem cP {a0:Bq} {r:(List UInt8)} (h:QH a0=some r):fQ a0 r:=by
 refine Af.bo Ae Tryz.func114 rfl Tryz.ntmps114 [.tmp 2] fun _ _ _ _=>?_
 unfold QH at h
 refine Rg [.a,.a] (sl 87 [(1,vP [1] (0))] [bx [1] (Ao a0)]) (aN)<|hS ?_
 obtain⟨r1,t2,h⟩:=bS h
 refine Gg [.a,(.c (vB r1)),.a] (u [] [(5,vB (!r1))]) (aC (YG t2)<|aN)<|iC h (fun h=>?_) (fun h=>?_)
 ·exact Rg [.a] (sl 87 [(2,vS ([]:List UInt8))] []) (aN)<|hR<|Tr<|bQ _ (congrArg vS (sI h))
 refine hK<|Tn<|hS<|Gg [.a,.a] (u [5] [(7,vI a0.Kind)]) (aN)<|hB<|Gg [.a,.a] (u [] [(8,vB (a0.Kind==1))]) (aN)<|iC h (fun h=>?_) (fun h=>?_)
 ·exact Rg [.a] (sl 87 [(2,vS NN)] []) (aN)<|hR<|qR<|Tr<|bQ _ (congrArg vS (sI h))
 refine Gg [.a,.a] (u [8] [(10,vB (a0.Kind==2))]) (aN)<|iC h (fun h=>?_) (fun h=>?_)
 ·obtain⟨r5,x2,s6,j1,h⟩:=Ex h
  exact Rg [.a,.a,(.c (vS r5)),(.v (vS s6)),.a] (sl 87 [(2,vS s6)] []) (aC (La x2)<|aC (By j1)<|aC (congrArg (fun z=>V.c (.str z)) (Bz j1).symm)<|aN)<|hR<|qR<|Tr<|bQ _ (congrArg vS (sI h))
 refine Gg [.a,.a] (u [10] [(16,vB (a0.Kind==3))]) (aN)<|iC h (fun h=>?_) (fun h=>?_)
 ·obtain⟨r8,y2,s9,k1,h⟩:=Ex h
  exact Rg [.a,.a,(.c (vS r8)),(.v (vS s9)),.a] (sl 87 [(2,vS s9)] []) (aC (La y2)<|aC (By k1)<|aC (congrArg (fun z=>V.c (.str z)) (Bz k1).symm)<|aN)<|hR<|qR<|Tr<|bQ _ (congrArg vS (sI h))
 refine Gg [.a,.a] (u [16] [(22,vB (a0.Kind==4))]) (aN)<|iC h (fun h=>?_) (fun h=>?_)
 ·obtain⟨m1,i0,h⟩:=bS h
  exact Rg [.a,.a,(.v (vS m1)),.a] (sl 87 [(2,vS m1)] []) (aC (By i0)<|aC (congrArg (fun z=>V.c (.str z)) (Bz i0).symm)<|aN)<|hR<|qR<|Tr<|bQ _ (congrArg vS (sI h))
 refine Gg [.a,.a] (u [22] [(27,vB (a0.Kind==5))]) (aN)<|iC h (fun h=>?_) (fun h=>?_)
 ·obtain⟨n1,j0,h⟩:=bS h
  exact Rg [.a,.a,(.v (vS n1)),.a] (sl 87 [(2,vS n1)] []) (aC (By j0)<|aC (congrArg (fun z=>V.c (.str z)) (Bz j0).symm)<|aN)<|hR<|qR<|Tr<|bQ _ (congrArg vS (sI h))
 refine Rg [.a,.a] (sl 87 [(1,vP [1] (0)),(7,vI a0.Kind),(32,vB (a0.Kind==6))] [bx [1] (Ao a0)]) (aN)<|iC h (fun h=>?_) (fun h=>?_)
 ·obtain⟨z2,d2,o1,k0,h⟩:=Ex h
  exact Rg [.a,.a,(.c (vS z2)),(.v (vS o1)),.a] (sl 87 [(2,vS o1)] []) (aC (UA d2)<|aC (By k0)<|aC (congrArg (fun z=>V.c (.str z)) (Bz k0).symm)<|aN)<|hR<|qR<|Tr<|bQ _ (congrArg vS (sI h))
 refine Gg [.a,.a] (u [32] [(38,vB (a0.Kind==7))]) (aN)<|iC h (fun h=>?_) (fun h=>?_)
 ·obtain⟨d3,i2,p1,m0,h⟩:=Ex h
  exact Rg [.a,.a,(.c (vS d3)),(.v (vS p1)),.a] (sl 87 [(2,vS p1)] []) (aC (UA i2)<|aC (By m0)<|aC (congrArg (fun z=>V.c (.str z)) (Bz m0).symm)<|aN)<|hR<|qR<|Tr<|bQ _ (congrArg vS (sI h))
 refine Gg [.a,.a] (u [38] [(44,vB (a0.Kind==8))]) (aN)<|iC h (fun h=>?_) (fun h=>?_)
 ·obtain⟨i3,j2,q1,n0,h⟩:=Ex h
  exact Rg [.a,.a,(.c (vS i3)),(.v (vS q1)),.a] (sl 87 [(2,vS q1)] []) (aC (UB j2)<|aC (By n0)<|aC (congrArg (fun z=>V.c (.str z)) (Bz n0).symm)<|aN)<|hR<|qR<|Tr<|bQ _ (congrArg vS (sI h))
 refine Gg [.a,.a] (u [44] [(50,vB (a0.Kind==9))]) (aN)<|iC h (fun h=>?_) (fun h=>?_)
 ·obtain⟨j3,k2,t1,o0,h⟩:=Ex h
  exact Rg [.a,.a,(.c (vS j3)),(.v (vS t1)),.a] (sl 87 [(2,vS t1)] []) (aC (UB k2)<|aC (By o0)<|aC (congrArg (fun z=>V.c (.str z)) (Bz o0).symm)<|aN)<|hR<|qR<|Tr<|bQ _ (congrArg vS (sI h))
 refine Gg [.a,.a] (u [50] [(56,vB (a0.Kind==10))]) (aN)<|iC h (fun h=>?_) (fun h=>?_)
 ·exact Rg [.a] (sl 87 [(2,vS Q3)] []) (aN)<|hR<|qR<|Tr<|bQ _ (congrArg vS (sI h))
 refine Gg [.a,.a] (u [56] [(58,vB (a0.Kind==11))]) (aN)<|iC h (fun h=>?_) (fun h=>?_)
 ·obtain⟨k3,m2,q3,p0,x1,q0,h⟩:=I8 h
  exact Rg [.a,.a,(.c (vS k3)),(.v (vS q3)),(.v (vS x1)),.a] (sl 87 [(2,vS x1)] []) (aC (cN m2)<|aC (By p0)<|aC (congrArg (fun z=>V.c (.str z)) (Bz p0).symm)<|aC (By q0)<|aC (congrArg (fun z=>V.c (.str z)) (Bz q0).symm)<|aN)<|hR<|qR<|Tr<|bQ _ (congrArg vS (sI h))
 refine Gg [.a,.a] (u [58] [(65,vB (a0.Kind==12))]) (aN)<|iC h (fun h=>?_) (fun h=>?_)
 ·obtain⟨m3,n2,t3,t0,x3,x0,n3,o2,h⟩:=D2 h
  obtain⟨y1,y0,h⟩:=bS h
  exact Rq BF [.a,.a,(.c (vS m3)),(.v (vS t3)),(.v (vS x3)),.a,.a,(.c (vS n3)),(.v (vS y1)),.a] (sl 87 [(2,vS y1)] []) (aC (J3 n2)<|aC (By t0)<|aC (congrArg (fun z=>V.c (.str z)) (Bz t0).symm)<|aC (By x0)<|aC (congrArg (fun z=>V.c (.str z)) (Bz x0).symm)<|aC (J3 o2)<|aC (By y0)<|aC (congrArg (fun z=>V.c (.str z)) (Bz y0).symm)<|aN)<|hR<|qR<|Tr<|bQ _ (congrArg vS (sI h))
 refine Gg [.a,.a] (u [7,65] [(76,vB (a0.Kind==13))]) (aN)<|iC h (fun h=>?_) (fun h=>?_)
 ·obtain⟨o3,p2,y3,z0,z3,d1,p3,q2,h⟩:=D2 h
  obtain⟨z1,i1,h⟩:=bS h
  exact Rq BF [.a,.a,(.c (vS o3)),(.v (vS y3)),(.v (vS z3)),.a,.a,(.c (vS p3)),(.v (vS z1)),.a] (sl 87 [(2,vS z1)] []) (aC (J3 p2)<|aC (By z0)<|aC (congrArg (fun z=>V.c (.str z)) (Bz z0).symm)<|aC (By d1)<|aC (congrArg (fun z=>V.c (.str z)) (Bz d1).symm)<|aC (J3 q2)<|aC (By i1)<|aC (congrArg (fun z=>V.c (.str z)) (Bz i1).symm)<|aN)<|hR<|qR<|Tr<|bQ _ (congrArg vS (sI h))
 exact hK<|qN<|Tn<|Rg [.a] (sl 87 [(2,vS Lo)] []) (aN)<|hR<|bQ _ (congrArg vS (sI h))
def OZ (a0:AA):Option (Bool):=
 (gd ((a0.Who != 0)==false) (Lg a0.Filter)).bind fun r1=>
 (some (if(a0.Who != 0)=true then true else !r1)).bind fun b2=>
 (if b2=true then
  some false
 else
  (if(a0.Do==5)=true then
   (some (if(a0.N==0)=true then a0.Counter==0 else false)).bind fun b5=>
   (some (if(a0.Zone==1)=true then true else a0.Zone==2)).bind fun b6=>
   (some (if b6=true then true else a0.Zone==4)).bind fun b7=>
   (some (if b5=true then b7 else false)).bind fun b8=>
   some b8
  else
   (if(a0.Do==6)=true then
    (some (if(a0.N==0)=true then a0.Counter==0 else false)).bind fun b10=>
    (some (if b10=true then a0.Zone==0 else false)).bind fun b11=>
    some b11
   else
    (if(a0.Do==7)=true then
     (some (if(a0.Zone==0)=true then decide (1≤a0.N)else false)).bind fun b13=>
     (some (if b13=true then decide (a0.N≤99)else false)).bind fun b14=>
     (some (if b14=true then decide (0≤a0.Counter)else false)).bind fun b15=>
     (some (if b15=true then decide (a0.Counter<3)else false)).bind fun b16=>
     some b16
    else
     some false))))
def cQ (a0:AA) (r:Bool):Prop:=Af Tryz.prog I0 157 [vA AX a0] (· =vB r)
theorem Z2 {a0:AA} {r:Bool} (h:OZ a0=some r):cQ a0 r:=by
 refine Af.bo Ae Tryz.func157 rfl Tryz.ntmps157 [.tmp 2] fun _ _ _ _=>?_
 unfold OZ at h
 refine Rg [.a,.a] (sl 79 [(1,vP [1] (0))] [bx [1] (AX a0)]) (aN)<|hS ?_
 obtain⟨r1,n1,b2,d1,h⟩:=Ex h
 refine Gg [.a,.a,.a,.a,.a,.a,(.c (vB r1)),.a,(.v (vB b2))] (u [] [(11,vB b2)]) (aG ((a0.Who != 0)==false)<|aC (c1 n1 PC)<|aG ((a0.Who != 0)==false)<|aF (a0.Who != 0)<|aB d1<|aN)<|iC h (fun h=>?_) (fun h=>?_)
 ·exact Rg [.a] (sl 79 [(2,vB false)] []) (aN)<|hR<|Tr<|bQ _ (kB h)
 refine hK<|Tn<|hS<|Gg [.a,.a] (u [11] [(13,vI a0.Do)]) (aN)<|hB<|Gg [.a,.a] (u [] [(14,vB (a0.Do==5))]) (aN)<|iC h (fun h=>?_) (fun h=>?_)
 ·obtain⟨b5,i1,b6,j1,b7,k1,b8,m1,h⟩:=D2 h
  exact Rg [.a,.a,.a,.a,.a,.a,.a,(.v (vB b5)),.a,.a,.a,.a,.a,.a,.a,.a,(.v (vB b6)),.a,.a,.a,.a,(.v (vB b7)),(.v (vB b8)),.a] (sl 79 [(2,vB b8)] []) (aG ((a0.N==0)==true)<|aG ((a0.N==0)==true)<|aT (a0.N==0)<|aB i1<|aG (b5==true)<|aG (b5==true)<|aG (b5==true)<|aG ((b5==true)&&((a0.Zone==1)==false))<|aG ((b5==true)&&((a0.Zone==1)==false))<|aC (fun hg:(b5==true)=true=>aC (gi (b5==true))<|aC (fun q:(a0.Zone==1)=false=>(gA hg (gF q)))<|aB j1<|aN)<|aG (b5==true)<|aG ((b5==true)&&(b6==false))<|aG ((b5==true)&&(b6==false))<|aC (fun hg:(b5==true)=true=>aC (gi (b5==true))<|aC (fun q:b6=false=>(gA hg (gF q)))<|aB k1<|aN)<|aT b5<|aB m1<|aN)<|hR<|qR<|Tr<|bQ _ (kB h)
 refine Gg [.a,.a] (u [14] [(39,vB (a0.Do==6))]) (aN)<|iC h (fun h=>?_) (fun h=>?_)
 ·obtain⟨i0,p0,n0,q0,h⟩:=Ex h
  exact Rg [.a,.a,.a,.a,.a,.a,.a,(.v (vB i0)),.a,.a,.a,.a,(.v (vB n0)),.a] (sl 79 [(2,vB n0)] []) (aG ((a0.N==0)==true)<|aG ((a0.N==0)==true)<|aT (a0.N==0)<|aB p0<|aG (i0==true)<|aG (i0==true)<|aT i0<|aB q0<|aN)<|hR<|qR<|Tr<|bQ _ (kB h)
 refine Gg [.a,.a] (u [13,39] [(54,vB (a0.Do==7))]) (aN)<|iC h (fun h=>?_) (fun h=>?_)
 ·obtain⟨j0,t0,k0,x0,m0,y0,o0,z0,h⟩:=D2 h
  exact Rg [.a,.a,.a,.a,.a,.a,.a,(.v (vB j0)),.a,.a,.a,.a,(.v (vB k0)),.a,.a,.a,.a,(.v (vB m0)),.a,.a,.a,.a,(.v (vB o0)),.a] (sl 79 [(2,vB o0)] []) (aG ((a0.Zone==0)==true)<|aG ((a0.Zone==0)==true)<|aT (a0.Zone==0)<|aB t0<|aG (j0==true)<|aG (j0==true)<|aT j0<|aB x0<|aG (k0==true)<|aG (k0==true)<|aT k0<|aB y0<|aG (m0==true)<|aG (m0==true)<|aT m0<|aB z0<|aN)<|hR<|qR<|Tr<|bQ _ (kB h)
 exact hK<|qN<|Tn<|Rg [.a] (sl 79 [(2,vB false)] []) (aN)<|hR<|bQ _ (kB h)
def KQ (a0:List (CA)):Option (Bool):=
 some (decide ((a0.length:Int)≤4))
def FJ (a0:List (CA)) (i_t3_3:Int):Option ((Int)⊕(Unit⊕Unit)):=
 (if(decide (i_t3_3<(a0.length:Int)))=true then
  (idx a0 i_t3_3).bind fun e6=>
  (LY e6).bind fun r7=>
  (if(!r7)=true then
   some (.inr (.inr ()))
  else
   some (.inl (Ab (i_t3_3+1))))
 else
  some (.inr (.inl ())))
def O0 (a0:List (CA)):Option (Bool):=
 (iter (fun(v:Int)=>FJ a0 v) FU (0:Int)).bind (Sum.elim (fun o0=>KQ a0) (fun o1=>some false))
def cR (a0:List (CA)) (r:Bool):Prop:=Af Tryz.prog I0 111 [vL AZ a0] (· =vB r)
theorem Z3 {a0:List (CA)} {r:Bool} (h:O0 a0=some r):cR a0 r:=by
 refine Af.bo Ae Tryz.func111 rfl Tryz.ntmps111 [.tmp 2] fun _ _ _ _=>?_
 unfold O0 at h
 refine Gg [.a] (u [] []) (aN)<|Gj (X:=Unit) (fun v=>(u [] [])) (fun v=>KQ a0=some r) ?_ ?_
 ·refine Gg [.a] (u [] [(3,vI 0)]) (aN)<|hB ?_
  obtain⟨t0,o0,h⟩:=bS h
  refine Gi (fun(v:Int)=>(u [] [(3,vI v)])) o0 (wT) ?_
  rintro j0 q0 i0 m0
  replace i0:FJ a0 j0=some q0:=i0
  unfold FJ at i0
  refine hS<|Gg (nA 4) (u [] [(7,vB (decide (j0<(a0.length:Int))))]) (aN)<|iC i0 (fun i0=>?_) (fun i0=>?_)
  ·refine hK<|Tn<|hS<|hB ?_
   obtain⟨e6,n0,r7,p0,i0⟩:=Ex i0
   refine Gg [.a,.a,.a,(.v (vA AZ e6)),(.c (vB r7)),.a] (u [7] [(15,vB (!r7))]) (aC (AI n0)<|aC (DI n0 Na 0 18 true (vA AZ e6))<|aC (Eq.refl (vA AZ e6))<|aC (cO p0)<|aN)<|iC i0 (fun i0=>?_) (fun i0=>?_)
   ·refine Rg [.a] (sl 19 [(2,vB false)] []) (aN)<|hR<|qR<|Tr ?_
    obtain rfl:=m0 _ (sI i0).symm
    replace h:=Cy h
    exact Tr<|qR<|Tr<|bQ _ (kB h)
   refine hK<|qN<|Tn<|Ge (nA 3) (u [] [(3,vI (Ab (j0+1))),(8,vI j0),(9,vI (Ab (j0+1)))]) (aN)<|Tn ⟨(Ab (j0+1)),(sI i0).symm,wT⟩
  refine hE<|Te ?_
  obtain rfl:=m0 _ (sI i0).symm
  replace h:=CZ h
  refine Te<|qX<|Tn ⟨(),h,wT⟩
 rintro _ k0
 replace k0:KQ a0=some r:=k0
 unfold KQ at k0
 exact Rg (nA 4) (sl 19 [(2,vB (decide ((a0.length:Int)≤4)))] []) (aN)<|hR<|bQ _ (kB k0)
end Go.PL
