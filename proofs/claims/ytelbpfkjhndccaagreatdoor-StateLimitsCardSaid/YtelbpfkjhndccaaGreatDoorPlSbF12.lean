/- Functions of the program, as partial functions in Lean, with proofs. -/
import Derived.Test.YtelbpfkjhndccaaGreatDoorPlSbB
import Derived.Test.YtelbpfkjhndccaaGreatDoorPlSbF0
import Derived.Test.YtelbpfkjhndccaaGreatDoorPlSbF10
import Derived.Test.YtelbpfkjhndccaaGreatDoorPlSbF11
import Derived.Test.YtelbpfkjhndccaaGreatDoorPlSbF4
import Derived.Test.YtelbpfkjhndccaaGreatDoorPlSbF5
import Derived.Test.YtelbpfkjhndccaaGreatDoorPlSbF6
import Derived.Test.YtelbpfkjhndccaaGreatDoorPlSbF7
import Derived.Test.YtelbpfkjhndccaaGreatDoorPlSbF8
namespace Go.PL
open Go Go.RowKit Go.Proofs
set_option maxRecDepth 100000
set_option linter.all false
set_option maxHeartbeats 4000000
attribute [local irreducible] Ai B4 BL
def EW (l3_3:List (List UInt8)):Option ((List UInt8)):=
 (Hn l3_3 Fm).bind fun r5=>
 some r5
def HG (a0:List (Bx)) (vt16_8:Int) (l3_9:List (List UInt8)):Option ((Int×(List (List UInt8)))⊕((List (List UInt8))⊕Unit)):=
 (if(decide (vt16_8<(a0.length:Int)))=true then
  (idx a0 vt16_8).bind fun e13=>
  (IX e13).bind fun r14=>
  (if(!r14)=true then
   some (.inr (.inr ()))
  else
   (NO e13).bind fun r16=>
   (app 16 l3_9 ([r16]:List (List UInt8))).bind fun l17=>
   some (.inl ((Ab (vt16_8+1)),l17)))
 else
  some (.inr (.inl l3_9)))
def E8 (a0:List (Bx)):Option ((List UInt8)):=
 (some (if(decide ((a0.length:Int)<1))=true then true else decide (6<(a0.length:Int)))).bind fun b1=>
 (if b1=true then
  some ([]:List UInt8)
 else
  (iter (fun(v:Int×(List (List UInt8)))=>HG a0 v.1 v.2) FU ((0:Int),([]:List (List UInt8)))).bind (Sum.elim (fun o0=>EW o0) (fun o1=>some ([]:List UInt8))))
def UC (a0:List (Bx)) (r:(List UInt8)):Prop:=Ah Tryz.prog I0 48 [vL AM a0] (· =vS r)
theorem JS {a0:List (Bx)} {r:(List UInt8)} (h:E8 a0=some r):UC a0 r:=by
 refine Ah.bo Ag Tryz.func48 rfl Tryz.ntmps48 [.tmp 2] fun _ _ _ _=>?_
 unfold E8 at h
 refine Gg [.a] (u [] []) (aN)<|hS ?_
 obtain⟨b1,m1,h⟩:=bS h
 refine Gg [.a,.a,.a,.a,.a,.a,.a,(.v (vB b1))] (u [] [(13,vB b1)]) (aG ((decide ((a0.length:Int)<1))==false)<|aG ((decide ((a0.length:Int)<1))==false)<|aF (decide ((a0.length:Int)<1))<|aB m1<|aN)<|iC h (fun h=>?_) (fun h=>?_)
 ·exact Rg [.a] (sl 31 [(2,vS ([]:List UInt8))] []) (aN)<|hR<|Tr<|bQ _ (congrArg vS (sI h))
 refine hK<|Tn<|Gg [.a] (uo [13] [(3,vO [3])] [.e (Bl [3] 9 1 eS ([]:List (List UInt8)))]) (aN)<|Sj (X:=(List (List UInt8))) (fun v=>(sl 31 [(3,vO [3])] [Bl [3] 9 1 eS v])) (fun v=>EW v=some r) ?_ ?_
 ·refine Gg (nA 3) (u [0] [(14,vL AM a0),(15,vI (a0.length:Int)),(16,vI 0)]) (aN)<|hB ?_
  obtain⟨o1,y0,h⟩:=bS h
  refine Gi (fun(v:Int×(List (List UInt8)))=>(uo [] [(16,vI v.1)] [.e (Bl [3] 9 1 eS v.2)])) y0 (wT) ?_
  rintro⟨j0,n0⟩ k1 i0 o0
  replace i0:HG a0 j0 n0=some k1:=i0
  unfold HG at i0
  refine Gg [.a] (u [] [(17,vB (decide (j0<(a0.length:Int))))]) (aN)<|hS<|iC i0 (fun i0=>?_) (fun i0=>?_)
  ·refine hK<|Tn<|hS<|hB ?_
   obtain⟨k0,q0,i0⟩:=bS i0
   refine Gg [.a,(.v (vA AM k0)),.a,.a] (uo [17] [(5,vP [5] (0))] [.e (bx [5] (AM k0)),.k 0]) (aC (Bm q0)<|aC (GN q0 Mo 0 20 true (vA AM k0))<|aC (Eq.refl (vA AM k0))<|aN)<|hS ?_
   obtain⟨z0,d1,i0⟩:=bS i0
   refine Rg [.a,(.c (vB z0)),.a] (sl 31 [(3,vO [3]),(5,vP [5] (0)),(14,vL AM a0),(15,vI (a0.length:Int)),(16,vI j0),(22,vB (!z0))] [bx [5] (AM k0),Bl [3] 9 1 eS n0]) (aC (WB d1)<|aN)<|iC i0 (fun i0=>?_) (fun i0=>?_)
   ·refine Rg [.a] (sl 31 [(2,vS ([]:List UInt8))] []) (aN)<|hR<|Tr<|qR<|Tr ?_
    obtain rfl:=o0 _ (sI i0).symm
    replace h:=EL h
    exact Tr<|qR<|Tr<|bQ _ (congrArg vS (sI h))
   refine hK<|Tn ?_
   obtain⟨x0,i1,p0,t0,i0⟩:=JX i0
   refine Ge [.a,.a,(.c (vS x0)),.a,(.e p0.length (p0.flatMap (eS))),.a] (uo [] [(24,vA AM k0),(25,vS x0),(26,vO [26]),(27,vO [3])] [.e (Bl [3] 9 1 eS p0),.e (Bl [26] 9 1 eS ([x0]:List (List UInt8))),.k 0]) (aC (Zg i1)<|aC (M4 t0 eS)<|aC (Du t0)<|aN)<|qN<|Tn<|Ge [.a,.a] (u [] [(16,vI (Ab (j0+1))),(28,vI (Ab (j0+1)))]) (aN)<|Tn ⟨((Ab (j0+1)),p0),(sI i0).symm,wT⟩
  refine hE<|Te ?_
  obtain rfl:=o0 _ (sI i0).symm
  replace h:=Fa h
  refine Te<|qX<|Tn ⟨n0,h,wT⟩
 rintro j1 m0
 replace m0:EW j1=some r:=m0
 unfold EW at m0
 obtain⟨r5,n1,m0⟩:=bS m0
 exact Rg [.a,(.c (vS r5)),.a] (sl 31 [(2,vS r5)] []) (aC (My n1)<|aN)<|hR<|bQ _ (congrArg vS (sI m0))
def AQ:Option (Bool):=
 some true
def Bi (a0:List (Bw)) (a1:List (Bw)) (vt17_4:Int):Option ((Int)⊕(Unit⊕Unit)):=
 (if(decide (vt17_4<(a0.length:Int)))=true then
  (idx a0 vt17_4).bind fun e7=>
  (idx a1 vt17_4).bind fun e8=>
  (some (if(e7.Id==e8.Id)=true then e7.Kind==e8.Kind else false)).bind fun b9=>
  (some (if b9=true then e7.Source==e8.Source else false)).bind fun b10=>
  (some (if b10=true then e7.Control==e8.Control else false)).bind fun b11=>
  (some (if b11=true then e7.X==e8.X else false)).bind fun b12=>
  (some (if b12=true then e7.Copy==e8.Copy else false)).bind fun b13=>
  (gd (b13==true) (Dr e7.Ability e8.Ability)).bind fun r14=>
  (some (if b13=true then r14 else false)).bind fun b15=>
  (gd (b15==true) (BT e7.Targets e8.Targets)).bind fun r16=>
  (some (if b15=true then r16 else false)).bind fun b17=>
  (some (if b17=true then e7.Event==e8.Event else false)).bind fun b18=>
  (if(!b18)=true then
   some (.inr (.inr ()))
  else
   some (.inl (Ab (vt17_4+1))))
 else
  some (.inr (.inl ())))
def Bo (a0:List (Bw)) (a1:List (Bw)):Option (Bool):=
 (if((a0.length:Int) != (a1.length:Int))=true then
  some false
 else
  (iter (fun(v:Int)=>Bi a0 a1 v) FU (0:Int)).bind (Sum.elim (fun o0=>AQ) (fun o1=>some false)))
def CQ (a0:List (Bw)) (a1:List (Bw)) (r:Bool):Prop:=Ah Tryz.prog I0 60 [vL An a0,vL An a1, .c (.fn 33)] (· =vB r)
theorem CK {a0:List (Bw)} {a1:List (Bw)} {r:Bool} (h:Bo a0 a1=some r):CQ a0 a1 r:=by
 refine Ah.bo Ag Tryz.func60 rfl Tryz.ntmps60 [.tmp 6] fun _ _ _ _=>?_
 unfold Bo at h
 refine Gg [.a] (u [] []) (aN)<|hS<|Gg (nA 5) (u [] [(14,vB ((a0.length:Int) != (a1.length:Int)))]) (aN)<|iC h (fun h=>?_) (fun h=>?_)
 ·exact Rg [.a] (sl 32 [(6,vB false)] []) (aN)<|hR<|Tr<|bQ _ (kB h)
 refine hK<|Tn<|Sj (X:=Unit) (fun v=>(sl 32 [] [])) (fun v=>AQ=some r) ?_ ?_
 ·refine Gg (nA 3) (u [0,14] [(15,vL An a0),(16,vI (a0.length:Int)),(17,vI 0)]) (aN)<|hB ?_
  obtain⟨j2,q1,h⟩:=bS h
  refine Gi (fun(v:Int)=>(u [] [(17,vI v)])) q1 (wT) ?_
  rintro j0 i2 i0 y0
  replace i0:Bi a0 a1 j0=some i2:=i0
  unfold Bi at i0
  refine Gg [.a] (u [] [(18,vB (decide (j0<(a0.length:Int))))]) (aN)<|hS<|iC i0 (fun i0=>?_) (fun i0=>?_)
  ·refine hK<|Tn<|hS<|hB ?_
   obtain⟨e7,z0,i0⟩:=bS i0
   refine Gg [.a,.a,(.v (vA An e7)),.a,.a,.a] (uo [18] [(7,vI j0),(8,vP [8] (0))] [.e (bx [8] (An e7))]) (aC (Bm z0)<|aC (GN z0 KQ 0 94 true (vA An e7))<|aC (Eq.refl (vA An e7))<|aN) ?_
   obtain⟨e8,d1,i0⟩:=bS i0
   refine Gg [.a,.a,.a,(.v (vA An e8)),.a,.a] (uo [7] [(9,vP [9] (0))] [.e (bx [9] (An e8)),.k 0]) (aC (Bm d1)<|aC (GN d1 KQ 0 94 true (vA An e8))<|aC (Eq.refl (vA An e8))<|aN)<|hS<|hO<|Rp 3 (nA 3) (sl 32 [(1,vL An a1),(2,.c (.fn 33)),(8,vP [8] (0)),(9,vP [9] (0)),(15,vL An a0),(16,vI (a0.length:Int)),(17,vI j0),(26,.c (.fn 33)),(27,vA An e7),(28,vA An e8)] [bx [9] (An e8),bx [8] (An e7)]) (aN)<|rI rfl rfl<|Ei 29 [vA An e7,vA An e8] [] Tryz.func33 Tryz.ntmps33 [.tmp 4] rfl rfl rfl rfl fun _ _ _ _=>Gg (nA 3) (uo [0,1] [(2,vP [2,29] (0)),(3,vP [3,29] (0))] [.e (bx [3,29] (An e8)),.e (bx [2,29] (An e7)),.k 0,.k 1]) (aN) ?_
   obtain⟨b9,y1,n0,i1,o0,j1,k0,k1,i0⟩:=Ij i0
   obtain⟨p0,m1,z1,t1,q0,n1,d2,x1,i0⟩:=Ij i0
   obtain⟨m0,o1,t0,p1,i0⟩:=JX i0
   refine Gg [.a,.a,.a,.a,.a,.a,.a,.a,.a,.a,.a,(.v (vB b9)),.a,.a,.a,.a,.a,.a,(.v (vB n0)),.a,.a,.a,.a,.a,.a,(.v (vB o0)),.a,.a,.a,.a,.a,.a,(.v (vB k0)),.a,.a,.a,.a,.a,.a,(.v (vB p0)),.a,.a,.a,.a,.a,(.c (vB z1)),(.v (vB q0)),.a,.a,.a,.a,.a,(.c (vB d2)),(.v (vB m0)),.a,.a,.a,.a,.a,(.v (vB (e7.Event==e8.Event))),(.v (vB t0)),.a] (uo [2,3] [(4,vB t0)] [.k 2,.k 3]) (aG ((e7.Id==e8.Id)==true)<|aG ((e7.Id==e8.Id)==true)<|aH ((e7.Id==e8.Id)==true)<|aT (e7.Id==e8.Id)<|aB y1<|aG (b9==true)<|aG (b9==true)<|aH (b9==true)<|aT b9<|aB i1<|aG (n0==true)<|aG (n0==true)<|aH (n0==true)<|aT n0<|aB j1<|aG (o0==true)<|aG (o0==true)<|aH (o0==true)<|aT o0<|aB k1<|aG (k0==true)<|aG (k0==true)<|aC (fun hg:(k0==true)=true=>aC (gi (k0==true))<|aC (gi (k0==true))<|aC Xm<|aN)<|aT k0<|aB m1<|aG (p0==true)<|aG (p0==true)<|aC (c2 t1 Hc)<|aT p0<|aB n1<|aG (q0==true)<|aG (q0==true)<|aC (c2 x1 E4)<|aT q0<|aB o1<|aG (m0==true)<|aG (m0==true)<|aC (fun hg:(m0==true)=true=>aC (gi (m0==true))<|aC (gi (m0==true))<|aC (congrArg (fun z=>V.c (.bool (z))) (jx e7.Event e8.Event))<|aN)<|aT m0<|aB p1<|aN)<|hR<|nR (vB t0)<|Gw [.a] (u [] [(30,vB (!t0))]) (aN)<|Tn<|iC i0 (fun i0=>?_) (fun i0=>?_)
   ·refine Rg [.a] (sl 32 [(6,vB false)] []) (aN)<|hR<|qR<|Tr ?_
    obtain rfl:=y0 _ (sI i0).symm
    replace h:=EL h
    exact Tr<|qR<|Tr<|bQ _ (kB h)
   refine hK<|qN<|Tn<|Ge [.a,.a] (u [] [(17,vI (Ab (j0+1))),(31,vI (Ab (j0+1)))]) (aN)<|Tn ⟨(Ab (j0+1)),(sI i0).symm,wT⟩
  refine hE<|Te ?_
  obtain rfl:=y0 _ (sI i0).symm
  replace h:=Fa h
  refine Te<|qX<|Tn ⟨(),h,wT⟩
 rintro _ x0
 replace x0:AQ=some r:=x0
 unfold AQ at x0
 exact Rg [.a] (sl 32 [(6,vB true)] []) (aN)<|hR<|bQ _ (kB x0)
def AA:Option (Bool):=
 some true
def AU (a0:List (AZ)) (a1:List (AZ)) (vt17_4:Int):Option ((Int)⊕(Unit⊕Unit)):=
 (if(decide (vt17_4<(a0.length:Int)))=true then
  (idx a0 vt17_4).bind fun e7=>
  (idx a1 vt17_4).bind fun e8=>
  (some (if(e7.Source==e8.Source)=true then e7.Control==e8.Control else false)).bind fun b9=>
  (gd (b9==true) (Dr e7.Ability e8.Ability)).bind fun r10=>
  (some (if b9=true then r10 else false)).bind fun b11=>
  (some (if b11=true then e7.Event==e8.Event else false)).bind fun b12=>
  (if(!b12)=true then
   some (.inr (.inr ()))
  else
   some (.inl (Ab (vt17_4+1))))
 else
  some (.inr (.inl ())))
def AY (a0:List (AZ)) (a1:List (AZ)):Option (Bool):=
 (if((a0.length:Int) != (a1.length:Int))=true then
  some false
 else
  (iter (fun(v:Int)=>AU a0 a1 v) FU (0:Int)).bind (Sum.elim (fun o0=>AA) (fun o1=>some false)))
def B1 (a0:List (AZ)) (a1:List (AZ)) (r:Bool):Prop:=Ah Tryz.prog I0 63 [vL Ak a0,vL Ak a1, .c (.fn 35)] (· =vB r)
theorem BW {a0:List (AZ)} {a1:List (AZ)} {r:Bool} (h:AY a0 a1=some r):B1 a0 a1 r:=by
 refine Ah.bo Ag Tryz.func63 rfl Tryz.ntmps63 [.tmp 6] fun _ _ _ _=>?_
 unfold AY at h
 refine Gg [.a] (u [] []) (aN)<|hS<|Gg (nA 5) (u [] [(14,vB ((a0.length:Int) != (a1.length:Int)))]) (aN)<|iC h (fun h=>?_) (fun h=>?_)
 ·exact Rg [.a] (sl 32 [(6,vB false)] []) (aN)<|hR<|Tr<|bQ _ (kB h)
 refine hK<|Tn<|Sj (X:=Unit) (fun v=>(sl 32 [] [])) (fun v=>AA=some r) ?_ ?_
 ·refine Gg (nA 3) (u [0,14] [(15,vL Ak a0),(16,vI (a0.length:Int)),(17,vI 0)]) (aN)<|hB ?_
  obtain⟨k1,y0,h⟩:=bS h
  refine Gi (fun(v:Int)=>(u [] [(17,vI v)])) y0 (wT) ?_
  rintro j0 j1 i0 o0
  replace i0:AU a0 a1 j0=some j1:=i0
  unfold AU at i0
  refine Gg [.a] (u [] [(18,vB (decide (j0<(a0.length:Int))))]) (aN)<|hS<|iC i0 (fun i0=>?_) (fun i0=>?_)
  ·refine hK<|Tn<|hS<|hB ?_
   obtain⟨e7,p0,i0⟩:=bS i0
   refine Gg [.a,.a,(.v (vA Ak e7)),.a,.a,.a] (uo [18] [(7,vI j0),(8,vP [8] (0))] [.e (bx [8] (Ak e7))]) (aC (Bm p0)<|aC (GN p0 JE 0 89 true (vA Ak e7))<|aC (Eq.refl (vA Ak e7))<|aN) ?_
   obtain⟨e8,q0,i0⟩:=bS i0
   refine Gg [.a,.a,.a,(.v (vA Ak e8)),.a,.a] (uo [7] [(9,vP [9] (0))] [.e (bx [9] (Ak e8)),.k 0]) (aC (Bm q0)<|aC (GN q0 JE 0 89 true (vA Ak e8))<|aC (Eq.refl (vA Ak e8))<|aN)<|hS<|hO<|Rp 3 (nA 3) (sl 32 [(1,vL Ak a1),(2,.c (.fn 35)),(8,vP [8] (0)),(9,vP [9] (0)),(15,vL Ak a0),(16,vI (a0.length:Int)),(17,vI j0),(26,.c (.fn 35)),(27,vA Ak e7),(28,vA Ak e8)] [bx [9] (Ak e8),bx [8] (Ak e7)]) (aN)<|rI rfl rfl<|Ei 29 [vA Ak e7,vA Ak e8] [] Tryz.func35 Tryz.ntmps35 [.tmp 4] rfl rfl rfl rfl fun _ _ _ _=>Gg (nA 3) (uo [0,1] [(2,vP [2,29] (0)),(3,vP [3,29] (0))] [.e (bx [3,29] (Ak e8)),.e (bx [2,29] (Ak e7)),.k 0,.k 1]) (aN) ?_
   obtain⟨b9,d1,i1,z0,k0,t0,m0,x0,i0⟩:=Ij i0
   refine Gg [.a,.a,.a,.a,.a,.a,.a,.a,.a,.a,.a,(.v (vB b9)),.a,.a,.a,.a,.a,(.c (vB i1)),(.v (vB k0)),.a,.a,.a,.a,.a,(.v (vB (e7.Event==e8.Event))),(.v (vB m0)),.a] (uo [2,3] [(4,vB m0)] [.k 2,.k 3]) (aG ((e7.Source==e8.Source)==true)<|aG ((e7.Source==e8.Source)==true)<|aH ((e7.Source==e8.Source)==true)<|aT (e7.Source==e8.Source)<|aB d1<|aG (b9==true)<|aG (b9==true)<|aC (c2 z0 Hc)<|aT b9<|aB t0<|aG (k0==true)<|aG (k0==true)<|aC (fun hg:(k0==true)=true=>aC (gi (k0==true))<|aC (gi (k0==true))<|aC (congrArg (fun z=>V.c (.bool (z))) (jx e7.Event e8.Event))<|aN)<|aT k0<|aB x0<|aN)<|hR<|nR (vB m0)<|Gw [.a] (u [] [(30,vB (!m0))]) (aN)<|Tn<|iC i0 (fun i0=>?_) (fun i0=>?_)
   ·refine Rg [.a] (sl 32 [(6,vB false)] []) (aN)<|hR<|qR<|Tr ?_
    obtain rfl:=o0 _ (sI i0).symm
    replace h:=EL h
    exact Tr<|qR<|Tr<|bQ _ (kB h)
   refine hK<|qN<|Tn<|Ge [.a,.a] (u [] [(17,vI (Ab (j0+1))),(31,vI (Ab (j0+1)))]) (aN)<|Tn ⟨(Ab (j0+1)),(sI i0).symm,wT⟩
  refine hE<|Te ?_
  obtain rfl:=o0 _ (sI i0).symm
  replace h:=Fa h
  refine Te<|qX<|Tn ⟨(),h,wT⟩
 rintro _ n0
 replace n0:AA=some r:=n0
 unfold AA at n0
 exact Rg [.a] (sl 32 [(6,vB true)] []) (aN)<|hR<|bQ _ (kB n0)
def UD (a0:Bx):Option ((List UInt8)):=
 (Pc a0).bind fun r1=>
 (if(!r1)=true then
  some ([]:List UInt8)
 else
  (if(a0.Kind==1)=true then
   some Nz
  else
   (if(a0.Kind==2)=true then
    (GB a0.N).bind fun r5=>
    (cat Mq r5).bind fun s6=>
    some s6
   else
    (if(a0.Kind==3)=true then
     (GB a0.N).bind fun r8=>
     (cat Lh r8).bind fun s9=>
     some s9
    else
     (if(a0.Kind==4)=true then
      (cat PN a0.Sub).bind fun s11=>
      some s11
     else
      (if(a0.Kind==5)=true then
       (cat N6 a0.Sub).bind fun s13=>
       some s13
      else
       (if(a0.Kind==6)=true then
        (NJ a0.N).bind fun r15=>
        (cat Li r15).bind fun s16=>
        some s16
       else
        (if(a0.Kind==7)=true then
         (NJ a0.N).bind fun r18=>
         (cat J8 r18).bind fun s19=>
         some s19
        else
         (if(a0.Kind==8)=true then
          (Qf a0.N).bind fun r21=>
          (cat Mr r21).bind fun s22=>
          some s22
         else
          (if(a0.Kind==9)=true then
           (Qf a0.N).bind fun r24=>
           (cat GK r24).bind fun s25=>
           some s25
          else
           (if(a0.Kind==10)=true then
            some QU
           else
            (if(a0.Kind==11)=true then
             (UB a0.Filter).bind fun r28=>
             (cat Js r28).bind fun s29=>
             (cat s29 S4).bind fun s30=>
             some s30
            else
             (if(a0.Kind==12)=true then
              (F9 a0.N).bind fun r32=>
              (cat S5 r32).bind fun s33=>
              (cat s33 Lk).bind fun s34=>
              (F9 a0.M).bind fun r35=>
              (cat s34 r35).bind fun s36=>
              some s36
             else
              (if(a0.Kind==13)=true then
               (F9 a0.N).bind fun r38=>
               (cat PO r38).bind fun s39=>
               (cat s39 Lk).bind fun s40=>
               (F9 a0.M).bind fun r41=>
               (cat s40 r41).bind fun s42=>
               some s42
              else
               some LC))))))))))))))
def Ri (a0:AJ):Option (Bool):=
 (gd ((a0.Who != 0)==false) (L6 a0.Filter)).bind fun r1=>
 (some (if(a0.Who != 0)=true then true else !r1)).bind fun b2=>
 (if b2=true then
  some false
 else
  (if(a0.Do==5)=true then
   (some (if(a0.N==0)=true then a0.Counter==0 else false)).bind fun b5=>
   (some (if(a0.Zone==1)=true then true else a0.Zone==2)).bind fun b6=>
   (some (if b6=true then true else a0.Zone==4)).bind fun b7=>
   (some (if b5=true then b7 else false)).bind fun b8=>
   some b8
  else
   (if(a0.Do==6)=true then
    (some (if(a0.N==0)=true then a0.Counter==0 else false)).bind fun b10=>
    (some (if b10=true then a0.Zone==0 else false)).bind fun b11=>
    some b11
   else
    (if(a0.Do==7)=true then
     (some (if(a0.Zone==0)=true then decide (1≤a0.N)else false)).bind fun b13=>
     (some (if b13=true then decide (a0.N≤99)else false)).bind fun b14=>
     (some (if b14=true then decide (0≤a0.Counter)else false)).bind fun b15=>
     (some (if b15=true then decide (a0.Counter<3)else false)).bind fun b16=>
     some b16
    else
     some false))))
def Qo (a0:List (C0)):Option (Bool):=
 some (decide ((a0.length:Int)≤4))
def HH (a0:List (C0)) (i_t3_3:Int):Option ((Int)⊕(Unit⊕Unit)):=
 (if(decide (i_t3_3<(a0.length:Int)))=true then
  (idx a0 i_t3_3).bind fun e6=>
  (L7 e6).bind fun r7=>
  (if(!r7)=true then
   some (.inr (.inr ()))
  else
   some (.inl (Ab (i_t3_3+1))))
 else
  some (.inr (.inl ())))
def Rj (a0:List (C0)):Option (Bool):=
 (iter (fun(v:Int)=>HH a0 v) FU (0:Int)).bind (Sum.elim (fun o0=>Qo a0) (fun o1=>some false))
end Go.PL
