/- Functions of the program, as partial functions in Lean, with proofs. -/
import Derived.Test.YtelbpfkjhndccaaGreatDoorPlSbB
import Derived.Test.YtelbpfkjhndccaaGreatDoorPlSbF0
import Derived.Test.YtelbpfkjhndccaaGreatDoorPlSbF1
import Derived.Test.YtelbpfkjhndccaaGreatDoorPlSbF2
namespace Go.PL
open Go Go.RowKit Go.Proofs
set_option maxRecDepth 100000
set_option linter.all false
set_option maxHeartbeats 4000000
attribute [local irreducible] Ak Ca BP
def Iu (a0:List (Ar)):Option (Bool):=
 some (decide ((a0.length:Int)≤20))
def F9 (a0:List (Ar)) (i_t3_3:Int):Option ((Int)⊕(Unit⊕Unit)):=
 (if(decide (i_t3_3<(a0.length:Int)))=true then
  (idx a0 i_t3_3).bind fun e6=>
  (OL e6).bind fun r7=>
  (if(!r7)=true then
   some (.inr (.inr ()))
  else
   some (.inl (Ab (i_t3_3+1))))
 else
  some (.inr (.inl ())))
def Ji (a0:List (Ar)):Option (Bool):=
 (iter (fun(v:Int)=>F9 a0 v) FU (0:Int)).bind (Sum.elim (fun o0=>Iu a0) (fun o1=>some false))
def UZ (a0:List (Ar)) (r:Bool):Prop:=Af Tryz.prog I0 57 [vL An a0] (· =vB r)
theorem TP {a0:List (Ar)} {r:Bool} (h:Ji a0=some r):UZ a0 r:=by
 refine Af.bo Ae Tryz.func57 rfl Tryz.ntmps57 [.tmp 2] fun _ _ _ _=>?_
 unfold Ji at h
 refine Gg [.a] (u [] []) (aN)<|Gj (X:=Unit) (fun v=>(u [] [])) (fun v=>Iu a0=some r) ?_ ?_
 ·refine Gg [.a] (u [] [(3,vI 0)]) (aN)<|hB ?_
  obtain⟨t0,o0,h⟩:=bS h
  refine Gi (fun(v:Int)=>(u [] [(3,vI v)])) o0 (wT) ?_
  rintro j0 q0 i0 m0
  replace i0:F9 a0 j0=some q0:=i0
  unfold F9 at i0
  refine hS<|Gg (nA 4) (u [] [(7,vB (decide (j0<(a0.length:Int))))]) (aN)<|iC i0 (fun i0=>?_) (fun i0=>?_)
  ·refine hK<|Tn<|hS<|hB ?_
   obtain⟨e6,n0,r7,p0,i0⟩:=Ex i0
   refine Gg [.a,.a,.a,(.v (vA An e6)),(.c (vB r7)),.a] (u [7] [(15,vB (!r7))]) (aC (AI n0)<|aC (DI n0 JF 0 64 true (vA An e6))<|aC (Eq.refl (vA An e6))<|aC (Zv p0)<|aN)<|iC i0 (fun i0=>?_) (fun i0=>?_)
   ·refine Rg [.a] (sl 19 [(2,vB false)] []) (aN)<|hR<|qR<|Tr ?_
    obtain rfl:=m0 _ (sI i0).symm
    replace h:=Cy h
    exact Tr<|qR<|Tr<|bQ _ (kB h)
   refine hK<|qN<|Tn<|Ge (nA 3) (u [] [(3,vI (Ab (j0+1))),(8,vI j0),(9,vI (Ab (j0+1)))]) (aN)<|Tn ⟨(Ab (j0+1)),(sI i0).symm,wT⟩
  refine hE<|Te ?_
  obtain rfl:=m0 _ (sI i0).symm
  replace h:=CZ h
  refine Te<|qX<|Tn ⟨(),h,wT⟩
 rintro _ k0
 replace k0:Iu a0=some r:=k0
 unfold Iu at k0
 exact Rg (nA 4) (sl 19 [(2,vB (decide ((a0.length:Int)≤20)))] []) (aN)<|hR<|bQ _ (kB k0)
def Ga (a0:Ai):Option (Bool):=
 (CB (a0.Players.length:Int) (2:Int) (4:Int)).bind fun r2=>
 some r2
def Dj (a0:Ai) (vt8_4:Int):Option ((Int)⊕(Unit⊕Unit)):=
 (if(decide (vt8_4<(a0.Players.length:Int)))=true then
  (idx a0.Players vt8_4).bind fun e7=>
  (CB e7.Life (-1000000:Int) (1000000:Int)).bind fun r8=>
  (gd ((!r8)==false) (CB e7.Venom (0:Int) (1000000:Int))).bind fun r9=>
  (some (if(!r8)=true then true else !r9)).bind fun b10=>
  (gd (b10==false) (CB e7.Lands (0:Int) (1000000:Int))).bind fun r11=>
  (some (if b10=true then true else !r11)).bind fun b12=>
  (gd (b12==false) (Nl e7.Pool)).bind fun r13=>
  (some (if b12=true then true else !r13)).bind fun b14=>
  (if b14=true then
   some (.inr (.inr ()))
  else
   some (.inl (Ab (vt8_4+1))))
 else
  some (.inr (.inl ())))
def Jj (a0:Ai):Option (Bool):=
 (iter (fun(v:Int)=>Dj a0 v) FU (0:Int)).bind (Sum.elim (fun o0=>Ga a0) (fun o1=>some false))
def U0 (a0:Ai) (r:Bool):Prop:=Af Tryz.prog I0 15 [vA Aj a0] (· =vB r)
theorem TQ {a0:Ai} {r:Bool} (h:Jj a0=some r):U0 a0 r:=by
 refine Af.bo Ae Tryz.func15 rfl Tryz.ntmps15 [.tmp 2] fun _ _ _ _=>?_
 unfold Jj at h
 refine Rg [.a,.a] (sl 39 [(1,vP [1] (0))] [bx [1] (Aj a0)]) (aN)<|Gj (X:=Unit) (fun v=>(u [] [])) (fun v=>Ga a0=some r) ?_ ?_
 ·refine Gg (nA 4) (u [] [(6,vL Ah a0.Players),(7,vI (a0.Players.length:Int)),(8,vI 0)]) (aN)<|hB ?_
  obtain⟨q1,z0,h⟩:=bS h
  refine Gi (fun(v:Int)=>(u [] [(8,vI v)])) z0 (wT) ?_
  rintro j0 p1 i0 o0
  replace i0:Dj a0 j0=some p1:=i0
  unfold Dj at i0
  refine Gg [.a] (u [] [(9,vB (decide (j0<(a0.Players.length:Int))))]) (aN)<|hS<|iC i0 (fun i0=>?_) (fun i0=>?_)
  ·refine hK<|Tn<|hS<|hB ?_
   obtain⟨e7,q0,i0⟩:=bS i0
   refine Gg [.a,(.v (vA Ah e7)),.a,.a] (uo [9] [(4,vP [4] (0))] [.e (bx [4] (Ah e7)),.k 0]) (aC (AI q0)<|aC (DI q0 Cp 0 14 true (vA Ah e7))<|aC (Eq.refl (vA Ah e7))<|aN) ?_
   obtain⟨r8,k1,r9,m1,m0,t0,n1,d1,i0⟩:=D2 i0
   obtain⟨n0,x0,o1,i1,p0,y0,i0⟩:=I8 i0
   refine Gg [.a,.a,(.c (vB r8)),.a,.a,.a,.a,(.c (vB r9)),.a,(.v (vB m0)),.a,.a,.a,(.c (vB n1)),.a,(.v (vB n0)),.a,.a,.a,(.c (vB o1)),.a,(.v (vB p0))] (uo [4] [(33,vB p0)] [.k 1]) (aC (BM k1)<|aG ((!r8)==false)<|aC (c1 m1 BM)<|aG ((!r8)==false)<|aF (!r8)<|aB t0<|aG (m0==false)<|aC (c1 d1 BM)<|aG (m0==false)<|aF m0<|aB x0<|aG (n0==false)<|aC (c1 i1 Xu)<|aG (n0==false)<|aF n0<|aB y0<|aN)<|iC i0 (fun i0=>?_) (fun i0=>?_)
   ·refine Rg [.a] (sl 39 [(2,vB false)] []) (aN)<|hR<|qR<|Tr ?_
    obtain rfl:=o0 _ (sI i0).symm
    replace h:=Cy h
    exact Tr<|qR<|Tr<|bQ _ (kB h)
   refine hK<|qN<|Tn<|Ge [.a,.a] (u [] [(8,vI (Ab (j0+1))),(34,vI (Ab (j0+1)))]) (aN)<|Tn ⟨(Ab (j0+1)),(sI i0).symm,wT⟩
  refine hE<|Te ?_
  obtain rfl:=o0 _ (sI i0).symm
  replace h:=CZ h
  refine Te<|qX<|Tn ⟨(),h,wT⟩
 rintro _ k0
 replace k0:Ga a0=some r:=k0
 unfold Ga at k0
 obtain⟨r2,j1,k0⟩:=bS k0
 exact Rg [.a,.a,.a,(.c (vB r2)),.a] (sl 39 [(2,vB r2)] []) (aC (BM j1)<|aN)<|hR<|bQ _ (kB k0)
def Iv (a0:Al) (a1:Int) (a2:Int):Option (Bool):=
 (some (if(decide (a0.Id<1))=true then true else decide (a0.Card<0))).bind fun b1=>
 (some (if b1=true then true else decide (a1≤a0.Card))).bind fun b2=>
 (some (if b2=true then true else decide (a0.Owner<0))).bind fun b3=>
 (some (if b3=true then true else decide (a2≤a0.Owner))).bind fun b4=>
 (some (if b4=true then true else decide (a0.Control<0))).bind fun b5=>
 (some (if b5=true then true else decide (a2≤a0.Control))).bind fun b6=>
 (gd (b6==false) (Ig a0.Zone (0:Int) (5:Int))).bind fun r7=>
 (some (if b6=true then true else !r7)).bind fun b8=>
 (if b8=true then
  some false
 else
  (Ig a0.Damage (0:Int) (1000000:Int)).bind fun r10=>
  (gd ((!r10)==false) (Ig a0.Stamp (0:Int) (1000000:Int))).bind fun r11=>
  (some (if(!r10)=true then true else !r11)).bind fun b12=>
  (gd (b12==false) (Ig a0.Blocks (0:Int) (1000000:Int))).bind fun r13=>
  (some (if b12=true then true else !r13)).bind fun b14=>
  (gd (b14==false) (Ig a0.Shield (0:Int) (1000000:Int))).bind fun r15=>
  (some (if b14=true then true else !r15)).bind fun b16=>
  (gd (b16==false) (Nm a0.Counters)).bind fun r17=>
  (some (if b16=true then true else !r17)).bind fun b18=>
  (if b18=true then
   some false
  else
   (some (if(decide (a0.Copy<(-1:Int)))=true then true else decide (a1≤a0.Copy))).bind fun b20=>
   (some (if b20=true then true else decide (a0.Attack<(-1:Int)))).bind fun b21=>
   (some (if b21=true then true else decide (a2≤a0.Attack))).bind fun b22=>
   (if b22=true then
    some false
   else
    (if(a0.Zone==0)=true then
     some true
    else
     (Kn a0).bind fun r25=>
     (LL r25).bind fun r26=>
     (some (if(a0==r26)=true then !a0.Tapped else false)).bind fun b27=>
     (some (if b27=true then !a0.Sick else false)).bind fun b28=>
     (some (if b28=true then a0.Counters==(⟨0,0,0⟩:A3 (Int))else false)).bind fun b29=>
     some b29))))
def cx (a0:Al) (a1:Int) (a2:Int) (r:Bool):Prop:=Af Tryz.prog I0 42 [vA Ad a0,vI a1,vI a2] (· =vB r)
theorem ZO {a0:Al} {a1:Int} {a2:Int} {r:Bool} (h:Iv a0 a1 a2=some r):cx a0 a1 a2 r:=by
 refine Af.bo Ae Tryz.func42 rfl Tryz.ntmps42 [.tmp 6] fun _ _ _ _=>?_
 unfold Iv at h
 refine Gg [.a,.a] (uo [0] [(3,vP [3] (0))] [.e (bx [3] (Ad a0))]) (aN)<|hS ?_
 obtain⟨b1,m2,b2,n2,b3,o2,b4,p2,h⟩:=D2 h
 obtain⟨b5,q2,b6,t2,r7,y2,b8,x2,h⟩:=D2 h
 refine Gg [.a,.a,.a,.a,.a,.a,.a,(.v (vB b1)),.a,.a,.a,.a,.a,(.v (vB b2)),.a,.a,.a,.a,(.v (vB b3)),.a,.a,.a,.a,.a,(.v (vB b4)),.a,.a,.a,.a,(.v (vB b5)),.a,.a,.a,.a,.a,(.v (vB b6)),.a,.a,.a,(.c (vB r7)),.a,(.v (vB b8))] (u [] [(48,vB b8)]) (aG ((decide (a0.Id<1))==false)<|aG ((decide (a0.Id<1))==false)<|aF (decide (a0.Id<1))<|aB m2<|aG (b1==false)<|aH (b1==false)<|aF b1<|aB n2<|aG (b2==false)<|aG (b2==false)<|aF b2<|aB o2<|aG (b3==false)<|aH (b3==false)<|aF b3<|aB p2<|aG (b4==false)<|aG (b4==false)<|aF b4<|aB q2<|aG (b5==false)<|aH (b5==false)<|aF b5<|aB t2<|aG (b6==false)<|aC (c1 y2 Km)<|aG (b6==false)<|aF b6<|aB x2<|aN)<|iC h (fun h=>?_) (fun h=>?_)
 ·exact Rg [.a] (sl 121 [(6,vB false)] []) (aN)<|hR<|Tr<|bQ _ (kB h)
 refine hK<|Tn<|hS ?_
 obtain⟨t0,x1,z2,y1,k0,d1,d3,z1,h⟩:=D2 h
 obtain⟨m0,i1,i3,d2,n0,j1,j3,i2,h⟩:=D2 h
 obtain⟨x0,k1,h⟩:=bS h
 refine Gg [.a,.a,(.c (vB t0)),.a,.a,.a,.a,(.c (vB z2)),.a,(.v (vB k0)),.a,.a,.a,(.c (vB d3)),.a,(.v (vB m0)),.a,.a,.a,(.c (vB i3)),.a,(.v (vB n0)),.a,.a,.a,(.c (vB j3)),.a,(.v (vB x0))] (u [48] [(76,vB x0)]) (aC (Km x1)<|aG ((!t0)==false)<|aC (c1 y1 Km)<|aG ((!t0)==false)<|aF (!t0)<|aB d1<|aG (k0==false)<|aC (c1 z1 Km)<|aG (k0==false)<|aF k0<|aB i1<|aG (m0==false)<|aC (c1 d2 Km)<|aG (m0==false)<|aF m0<|aB j1<|aG (n0==false)<|aC (c1 i2 Xv)<|aG (n0==false)<|aF n0<|aB k1<|aN)<|iC h (fun h=>?_) (fun h=>?_)
 ·exact Rg [.a] (sl 121 [(6,vB false)] []) (aN)<|hR<|Tr<|bQ _ (kB h)
 refine hK<|Tn<|hS ?_
 obtain⟨o0,m1,p0,n1,y0,o1,h⟩:=I8 h
 refine Gg [.a,.a,.a,.a,.a,.a,.a,.a,(.v (vB o0)),.a,.a,.a,.a,(.v (vB p0)),.a,.a,.a,.a,.a,(.v (vB y0))] (u [1,2,76] [(96,vB y0)]) (aG ((decide (a0.Copy<(-1:Int)))==false)<|aH ((decide (a0.Copy<(-1:Int)))==false)<|aF (decide (a0.Copy<(-1:Int)))<|aB m1<|aG (o0==false)<|aG (o0==false)<|aF o0<|aB n1<|aG (p0==false)<|aH (p0==false)<|aF p0<|aB o1<|aN)<|iC h (fun h=>?_) (fun h=>?_)
 ·exact Rg [.a] (sl 121 [(6,vB false)] []) (aN)<|hR<|Tr<|bQ _ (kB h)
 refine hK<|Tn<|hS<|Gg (nA 3) (u [96] [(99,vB (a0.Zone==0))]) (aN)<|iC h (fun h=>?_) (fun h=>?_)
 ·exact Rg [.a] (sl 121 [(6,vB true)] []) (aN)<|hR<|Tr<|bQ _ (kB h)
 refine hK<|Tn ?_
 obtain⟨k3,j2,j0,k2,q0,p1,i0,q1,h⟩:=D2 h
 obtain⟨z0,t1,h⟩:=bS h
 exact Rq BF [.a,.a,(.c (vA Ad k3)),(.c (vA Ad j0)),(.v (vB (a0==j0))),.a,.a,.a,.a,(.v (vB q0)),.a,.a,.a,.a,(.v (vB i0)),.a,.a,.a,.a,(.v (vB (a0.Counters==(⟨0,0,0⟩:A3 (Int))))),(.v (vB z0)),.a] (sl 121 [(6,vB z0)] []) (aC (UN j2)<|aC (Wq k2)<|aC (congrArg (fun z=>V.c (.bool (z))) (gY a0 j0))<|aG ((a0==j0)==true)<|aG ((a0==j0)==true)<|aT (a0==j0)<|aB p1<|aG (q0==true)<|aG (q0==true)<|aT q0<|aB q1<|aG (i0==true)<|aC (fun hg:(i0==true)=true=>aC (And.intro trivial pL)<|aN)<|aC (fun hg:(i0==true)=true=>aC (gi (i0==true))<|aC (gi (i0==true))<|aC (congrArg (fun z=>V.c (.bool (z))) (pD a0.Counters (⟨0,0,0⟩:A3 (Int))))<|aN)<|aT i0<|aB t1<|aN)<|hR<|bQ _ (kB h)
def Ej (a0:Int) (a1:Int):Option (Int):=
 (Jf a0).bind fun r1=>
 (Jf a1).bind fun r2=>
 (if r1=true then
  (if r2=true then
   some (0:Int)
  else
   some (-1:Int))
 else
  (if r2=true then
   some (1:Int)
  else
   (if(decide (a0<a1))=true then
    some (-1:Int)
   else
    (if(decide (a1<a0))=true then
     some (1:Int)
    else
     some (0:Int)))))
def SX (a0:Int) (a1:Int) (r:Int):Prop:=Af Tryz.prog I0 68 [vI a0,vI a1] (· =vI r)
theorem JI {a0:Int} {a1:Int} {r:Int} (h:Ej a0 a1=some r):SX a0 a1 r:=by
 refine Af.bo Ae Tryz.func68 rfl Tryz.ntmps68 [.tmp 4] fun _ _ _ _=>?_
 unfold Ej at h
 refine Gg [.a] (u [] []) (aN) ?_
 obtain⟨r1,i0,h⟩:=bS h
 refine Gg [.a,(.c (vB r1)),.a] (u [] [(5,vB r1)]) (aC (OM i0)<|aN) ?_
 obtain⟨r2,j0,h⟩:=bS h
 refine Gg [.a,(.c (vB r2)),.a] (u [] [(6,vB r2)]) (aC (OM j0)<|aN)<|hS<|Gg [.a] (u [5] [(11,vB r1)]) (aN)<|iC h (fun h=>?_) (fun h=>?_)
 ·refine hS<|Rg [.a] (sl 20 [(12,vB r2)] []) (aN)<|iC h (fun h=>?_) (fun h=>?_)
  ·exact Rg [.a] (sl 20 [(4,vI 0)] []) (aN)<|hR<|Tr<|Tr<|bQ _ (congrArg vI (sI h))
  exact hK<|Tn<|Rg [.a] (sl 20 [(4,vI (-1:Int))] []) (aN)<|hR<|Tr<|bQ _ (congrArg vI (sI h))
 refine hK<|Tn<|hS<|Gg [.a] (u [6,11] [(13,vB r2)]) (aN)<|iC h (fun h=>?_) (fun h=>?_)
 ·exact Rg [.a] (sl 20 [(4,vI 1)] []) (aN)<|hR<|Tr<|bQ _ (congrArg vI (sI h))
 refine hK<|Tn<|hS<|Gg (nA 3) (u [13] [(16,vB (decide (a0<a1)))]) (aN)<|iC h (fun h=>?_) (fun h=>?_)
 ·exact Rg [.a] (sl 20 [(4,vI (-1:Int))] []) (aN)<|hR<|Tr<|bQ _ (congrArg vI (sI h))
 refine hK<|Tn<|hS<|Rg (nA 3) (sl 20 [(19,vB (decide (a1<a0)))] []) (aN)<|iC h (fun h=>?_) (fun h=>?_)
 ·exact Rg [.a] (sl 20 [(4,vI 1)] []) (aN)<|hR<|Tr<|bQ _ (congrArg vI (sI h))
 exact hK<|Tn<|Rg [.a] (sl 20 [(4,vI 0)] []) (aN)<|hR<|bQ _ (congrArg vI (sI h))
def Bg (a0:List (Bq)) (a1:List (Bq)):Option (Bool):=
 (A0 a0 a1).bind fun r1=>
 some r1
def HF (a0:List (Bq)) (a1:List (Bq)) (r:Bool):Prop:=Af Tryz.prog I0 65 [vL Ao a0,vL Ao a1, .c (.fn 66)] (· =vB r)
theorem Cc {a0:List (Bq)} {a1:List (Bq)} {r:Bool} (h:Bg a0 a1=some r):HF a0 a1 r:=by
 refine Af.bo Ae Tryz.func65 rfl Tryz.ntmps65 [.tmp 6] fun _ _ _ _=>?_
 unfold Bg at h
 refine Gg [.a] (u [] []) (aN) ?_
 obtain⟨r1,i0,h⟩:=bS h
 exact Rg [.a,.a,.a,(.c (vB r1)),.a] (sl 11 [(6,vB r1)] []) (aC (CP i0)<|aN)<|hR<|bQ _ (kB h)
def Bx (a0:List (CA)) (a1:List (CA)):Option (Bool):=
 (AO a0 a1).bind fun r1=>
 some r1
def GV (a0:List (CA)) (a1:List (CA)) (r:Bool):Prop:=Af Tryz.prog I0 85 [vL AZ a0,vL AZ a1, .c (.fn 86)] (· =vB r)
theorem GC {a0:List (CA)} {a1:List (CA)} {r:Bool} (h:Bx a0 a1=some r):GV a0 a1 r:=by
 refine Af.bo Ae Tryz.func85 rfl Tryz.ntmps85 [.tmp 6] fun _ _ _ _=>?_
 unfold Bx at h
 refine Gg [.a] (u [] []) (aN) ?_
 obtain⟨r1,i0,h⟩:=bS h
 exact Rg [.a,.a,.a,(.c (vB r1)),.a] (sl 11 [(6,vB r1)] []) (aC (Cw i0)<|aN)<|hR<|bQ _ (kB h)
def K7 (a0:List UInt8):Option (Bool):=
 (Q4 a0).bind fun r1=>
 (gd (r1==true) (Dh a0 (2:Int))).bind fun r2=>
 (some (if r1=true then r2==0 else false)).bind fun b3=>
 (gd (b3==true) (Dv a0 (6:Int))).bind fun r4=>
 (some (if b3=true then r4==0 else false)).bind fun b5=>
 some b5
def ZP (a0:List UInt8) (r:Bool):Prop:=Af Tryz.prog I0 126 [vS a0] (· =vB r)
theorem Ry {a0:List UInt8} {r:Bool} (h:K7 a0=some r):ZP a0 r:=by
 refine Af.bo Ae Tryz.func126 rfl Tryz.ntmps126 [.tmp 2] fun _ _ _ _=>?_
 unfold K7 at h
 refine Gg [.a] (u [] []) (aN) ?_
 obtain⟨r1,k0,r2,m0,b3,i0,r4,n0,h⟩:=D2 h
 obtain⟨b5,j0,h⟩:=bS h
 exact Rg [.a,(.c (vB r1)),.a,.a,(.c (vI r2)),.a,(.v (vB b3)),.a,.a,(.c (vI r4)),.a,(.v (vB b5)),.a] (sl 15 [(2,vB b5)] []) (aC (Ws k0)<|aC (c1 m0 Nn)<|aG (r1==true)<|aT r1<|aB i0<|aC (c1 n0 NF)<|aG (b3==true)<|aT b3<|aB j0<|aN)<|hR<|bQ _ (kB h)
def E5 (a0:Ac):Option (Bool):=
 (BJ a0.Kind (3:Int)).bind fun r1=>
 (gd (r1==true) (BJ a0.N (1000000:Int))).bind fun r2=>
 (some (if r1=true then r2 else false)).bind fun b3=>
 (some (if(a0.Kind != 0)=true then true else a0.N==0)).bind fun b4=>
 (some (if b3=true then b4 else false)).bind fun b5=>
 some b5
def TR (a0:Ac) (r:Bool):Prop:=Af Tryz.prog I0 127 [vA CK a0] (· =vB r)
theorem Kv {a0:Ac} {r:Bool} (h:E5 a0=some r):TR a0 r:=by
 refine Af.bo Ae Tryz.func127 rfl Tryz.ntmps127 [.tmp 2] fun _ _ _ _=>?_
 unfold E5 at h
 refine Rg [.a,.a] (sl 21 [(1,vP [1] (0))] [bx [1] (CK a0)]) (aN) ?_
 obtain⟨r1,m0,r2,n0,b3,i0,b4,j0,h⟩:=D2 h
 obtain⟨b5,k0,h⟩:=bS h
 exact Rg [.a,.a,(.c (vB r1)),.a,.a,.a,(.c (vB r2)),(.v (vB b3)),.a,.a,.a,.a,.a,.a,.a,.a,(.v (vB b4)),(.v (vB b5)),.a] (sl 21 [(2,vB b5)] []) (aC (BN m0)<|aG (r1==true)<|aC (c1 n0 BN)<|aT r1<|aB i0<|aG (b3==true)<|aG (b3==true)<|aG (b3==true)<|aG ((b3==true)&&((a0.Kind != 0)==false))<|aG ((b3==true)&&((a0.Kind != 0)==false))<|aC (fun hg:(b3==true)=true=>aC (gi (b3==true))<|aC (fun q:(a0.Kind != 0)=false=>(gA hg (gF q)))<|aB j0<|aN)<|aT b3<|aB k0<|aN)<|hR<|bQ _ (kB h)
def Dq (l5_1:List (List UInt8)):Option ((List (List UInt8))):=
 some l5_1
def ED (r3:(List (Int))) (vt11_6:Int) (l5_7:List (List UInt8)):Option ((Int×(List (List UInt8)))⊕((List (List UInt8)))):=
 (if(decide (vt11_6<(r3.length:Int)))=true then
  (idx r3 vt11_6).bind fun e11=>
  (idx (⟨CL,Dg,DN,EN,EO,F2⟩:A6 (List UInt8)).l e11).bind fun e12=>
  (app 16 l5_7 ([e12]:List (List UInt8))).bind fun l13=>
  some (.inl ((Ab (vt11_6+1)),l13))
 else
  some (.inr l5_7))
def FR (a0:Int):Option ((List (List UInt8))):=
 (HR a0).bind fun r3=>
 (iter (fun(v:Int×(List (List UInt8)))=>ED r3 v.1 v.2) FU ((0:Int),([]:List (List UInt8)))).bind (fun o0=>Dq o0)
def Nv (a0:Int) (r:(List (List UInt8))):Prop:=Af Tryz.prog I0 186 [vI a0, .c (.fn 173)] (· =vL eS r)
theorem My {a0:Int} {r:(List (List UInt8))} (h:FR a0=some r):Nv a0 r:=by
 refine Af.bo Ae Tryz.func186 rfl Tryz.ntmps186 [.tmp 4] fun _ _ _ _=>?_
 unfold FR at h
 refine Gg [.a] (u [] []) (aN)<|Gg [.a] (uo [] [(5,vO [5])] [.e (Bp [5] 9 1 eS ([]:List (List UInt8)))]) (aN)<|Sj (X:=(List (List UInt8))) (fun v=>(sl 23 [(5,vO [5])] [Bp [5] 9 1 eS v])) (fun v=>Dq v=some r) ?_ ?_
 ·obtain⟨r3,i1,h⟩:=bS h
  refine Gg [.a,(.c (vL (eI .i64) r3)),.a,.a] (u [0] [(9,vL (eI .i64) r3),(10,vI (r3.length:Int)),(11,vI 0)]) (aC (HS i1)<|aN)<|hB ?_
  obtain⟨k1,z0,h⟩:=bS h
  refine Gi (fun(v:Int×(List (List UInt8)))=>(uo [] [(11,vI v.1)] [.e (Bp [5] 9 1 eS v.2)])) z0 (wT) ?_
  rintro⟨k0,n0⟩ j1 i0 d1
  replace i0:ED r3 k0 n0=some j1:=i0
  unfold ED at i0
  refine Gg [.a] (u [] [(12,vB (decide (k0<(r3.length:Int))))]) (aN)<|hS<|iC i0 (fun i0=>?_) (fun i0=>?_)
  ·refine hK<|Tn<|hS<|hB ?_
   obtain⟨j0,q0,i0⟩:=bS i0
   refine Gg [.a,(.v (vI j0)),.a] (u [12] [(7,vI j0)]) (aC (AI q0)<|aC (DI q0 (Fq .i64) 0 1 false (vI j0))<|aC (Eq.refl (vI j0))<|aN)<|hO<|Gp 3 (nA 3) (u [] [(15,vO [5]),(16,.c (.fn 173)),(17,vI j0)]) (aN)<|rI rfl rfl<|Ei 18 [vI j0] [] Tryz.func173 Tryz.ntmps173 [.tmp 2] rfl rfl rfl rfl fun _ _ _ _=>Rg [.a] (sg 6 [(0,vI j0)] [Bp [5] 9 1 eS n0] 23 [(1,.c (.fn 173)),(5,vO [5]),(7,vI j0),(9,vL (eI .i64) r3),(10,vI (r3.length:Int)),(11,vI k0),(15,vO [5]),(16,.c (.fn 173)),(17,vI j0)] [18]) (aN) ?_
   obtain⟨m0,t0,i0⟩:=bS i0
   refine Gg [.a,.a,(.v (vS m0)),.a] (u [0] [(2,vS m0)]) (aC (And.intro (show True∧(True∧(True∧(True∧(True∧(True∧True)))))from⟨trivial,⟨trivial,⟨trivial,⟨trivial,⟨trivial,⟨trivial,trivial⟩⟩⟩⟩⟩⟩) lC)<|aC (show (0≤j0∧j0<((6:Nat):Int))∧(j0).toNat *1+1≤(QY (eS) (⟨CL,Dg,DN,EN,EO,F2⟩:A6 (List UInt8))).length ∧O6 false ((j0).toNat *1) 1 (QY (eS) (⟨CL,Dg,DN,EN,EO,F2⟩:A6 (List UInt8)))=vS m0 from⟨AI t0,L4 (e:=eS) (N:=1) (l:=(⟨CL,Dg,DN,EN,EO,F2⟩:A6 (List UInt8)).l) (base:=0) (pre:=[]) (post:=[]) (by kernel_rfl) rfl t0 OB (o:=0) (by simp) (by decide) (by decide) (by kernel_rfl)⟩)<|aC (Eq.refl (vS m0))<|aN)<|hR<|nR (vS m0) ?_
   obtain⟨p0,x0,i0⟩:=bS i0
   refine Gw [.a,(.e p0.length (p0.flatMap (eS))),.a] (uo [15] [(19,vO [19]),(20,vO [5])] [.e (Bp [5] 9 1 eS p0),.e (Bp [19] 9 1 eS ([m0]:List (List UInt8)))]) (aC (ND x0 eS)<|aC (CJ x0)<|aN)<|qN<|Tn<|Ge [.a,.a] (u [] [(11,vI (Ab (k0+1))),(21,vI (Ab (k0+1)))]) (aN)<|Tn ⟨((Ab (k0+1)),p0),(sI i0).symm,wT⟩
  refine hE<|Te ?_
  obtain rfl:=d1 _ (sI i0).symm
  refine Te<|qX<|Tn ⟨n0,h,wT⟩
 rintro y0 o0
 replace o0:Dq y0=some r:=o0
 unfold Dq at o0
 exact Gg [.a,.a] (u [5] [(4,vO [5])]) (aN)<|hR<|bE (vO [5]) (vL eS y0) (congrArg (vL eS) (sI o0))
def Lt (l3_4:List (List UInt8)):Option ((List UInt8)):=
 (SE l3_4 NO).bind fun r6=>
 some r6
def HX (vt12_9:Int) (l3_14:List (List UInt8)):Option ((Int×(List (List UInt8)))⊕((List (List UInt8)))):=
 some (.inl ((Ab (vt12_9+1)),l3_14))
def Nw (a0:Int) (vt12_9:Int) (l3_10:List (List UInt8)):Option ((Int×(List (List UInt8)))⊕((List (List UInt8)))):=
 (if(decide (vt12_9<5))=true then
  (idx (⟨M5,M6,M7,M8,M9⟩:A5 (List UInt8)).l vt12_9).bind fun e16=>
  (need (0≤vt12_9)).bind fun u17=>
  (if((PS .i64 (Int.fdiv a0 (2 ^ (min (vt12_9).toNat (IntKind.i64).bits))) (1:Int))==(1:Int))=true then
   (app 16 l3_10 ([e16]:List (List UInt8))).bind fun l19=>
   HX vt12_9 l19
  else
   HX vt12_9 l3_10)
 else
  some (.inr l3_10))
def JJ (a0:Int):Option ((List UInt8)):=
 (Qr a0).bind fun r1=>
 (if(!r1)=true then
  some ([]:List UInt8)
 else
  (if(a0==0)=true then
   some LH
  else
   (iter (fun(v:Int×(List (List UInt8)))=>Nw a0 v.1 v.2) FU ((0:Int),([]:List (List UInt8)))).bind (fun o0=>Lt o0)))
def ZQ (a0:Int) (r:(List UInt8)):Prop:=Af Tryz.prog I0 143 [vI a0] (· =vS r)
theorem Rz {a0:Int} {r:(List UInt8)} (h:JJ a0=some r):ZQ a0 r:=by
 refine Af.bo Ae Tryz.func143 rfl Tryz.ntmps143 [.tmp 2] fun _ _ _ _=>?_
 unfold JJ at h
 refine Gg [.a] (u [] []) (aN)<|hS ?_
 obtain⟨r1,k1,h⟩:=bS h
 refine Gg [.a,(.c (vB r1)),.a] (u [] [(8,vB (!r1))]) (aC (bV k1)<|aN)<|iC h (fun h=>?_) (fun h=>?_)
 ·exact Rg [.a] (sl 28 [(2,vS ([]:List UInt8))] []) (aN)<|hR<|Tr<|bQ _ (congrArg vS (sI h))
 refine hK<|Tn<|hS<|Gg [.a,.a] (u [8] [(10,vB (a0==0))]) (aN)<|iC h (fun h=>?_) (fun h=>?_)
 ·exact Rg [.a] (sl 28 [(2,vS LH)] []) (aN)<|hR<|Tr<|bQ _ (congrArg vS (sI h))
 refine hK<|Tn<|Rg [.a] (sl 28 [(0,vI a0),(3,vO [3])] [Bp [3] 9 1 eS ([]:List (List UInt8))]) (aN)<|Sj (X:=(List (List UInt8))) (fun v=>(sl 28 [(3,vO [3])] [Bp [3] 9 1 eS v])) (fun v=>Lt v=some r) ?_ ?_
 ·refine hS<|hO<|Gp 0 [] (u [] []) (aN)<|Run.inl rfl rfl (E0.gAll (g:=1) (tab:=Et) rfl Tw ?_)
  refine Gw [.a] (u [] [(12,vI 0)]) (aN)<|Tn<|hB ?_
  obtain⟨n1,z0,h⟩:=bS h
  refine Gi (fun(v:Int×(List (List UInt8)))=>(uo [] [(12,vI v.1)] [.e (Bp [3] 9 1 eS v.2)])) z0 (wT) ?_
  rintro⟨j0,o0⟩ p0 i0 d1
  replace i0:Nw a0 j0 o0=some p0:=i0
  unfold Nw at i0
  refine Gg [.a] (u [] [(13,vB (decide (j0<5)))]) (aN)<|hS<|iC i0 (fun i0=>?_) (fun i0=>?_)
  ·refine hK<|Tn<|Gj (X:=(List (List UInt8))) (fun v=>(uo [13] [] [.e (Bp [3] 9 1 eS v)])) (fun v=>HX j0 v=some p0) ?_ ?_
   ·refine hB ?_
    obtain⟨k0,x0,i0⟩:=bS i0
    refine Gg [.a,(.v (vS k0)),.a,.a] (u [13] [(4,vI j0),(5,vS k0)]) (aC (show (0≤j0∧j0<((5:Nat):Int))∧(j0).toNat *1+1≤(nl (eS) (⟨M5,M6,M7,M8,M9⟩:A5 (List UInt8))).length ∧O6 false ((j0).toNat *1) 1 (nl (eS) (⟨M5,M6,M7,M8,M9⟩:A5 (List UInt8)))=vS k0 from⟨AI x0,L4 (e:=eS) (N:=1) (l:=(⟨M5,M6,M7,M8,M9⟩:A5 (List UInt8)).l) (base:=0) (pre:=[]) (post:=[]) (by kernel_rfl) rfl x0 OB (o:=0) (by simp) (by decide) (by decide) (by kernel_rfl)⟩)<|aC (Eq.refl (vS k0))<|aN) ?_
    obtain⟨o1,i1,i0⟩:=bS i0
    refine Gg (nA 5) (u [4] [(20,vB ((PS .i64 (Int.fdiv a0 (2 ^ (min (j0).toNat (IntKind.i64).bits))) (1:Int))==(1:Int)))]) (aC (FZ i1)<|aN)<|iC i0 (fun i0=>?_) (fun i0=>?_)
    ·obtain⟨q0,y0,i0⟩:=bS i0
     refine Ge [.a,.a,.a,(.e q0.length (q0.flatMap (eS))),.a] (uo [] [(22,vS k0),(23,vO [23]),(24,vO [3])] [.e (Bp [3] 9 1 eS q0),.e (Bp [23] 9 1 eS ([k0]:List (List UInt8)))]) (aC (ND y0 eS)<|aC (CJ y0)<|aN)<|qN<|Tn ⟨q0,i0,wT⟩
    refine hK<|qN<|Tn ⟨o0,i0,wT⟩
   rintro t0 n0
   replace n0:HX j0 t0=some p0:=n0
   unfold HX at n0
   refine Ge [.a,.a] (u [] [(12,vI (Ab (j0+1))),(25,vI (Ab (j0+1)))]) (aN)<|Tn ⟨((Ab (j0+1)),t0),(sI n0).symm,wT⟩
  refine hE<|Te ?_
  obtain rfl:=d1 _ (sI i0).symm
  refine Te<|qX<|Tn ⟨o0,h,wT⟩
 rintro j1 m0
 replace m0:Lt j1=some r:=m0
 unfold Lt at m0
 obtain⟨r6,m1,m0⟩:=bS m0
 exact Rg [.a,(.c (vS r6)),.a] (sl 28 [(2,vS r6)] []) (aC (Zo m1)<|aN)<|hR<|bQ _ (congrArg vS (sI m0))
def Hb (kind_t3_4:List UInt8):Option ((List UInt8)):=
 (CF ([kind_t3_4,OF]:List (List UInt8))).bind fun r6=>
 (cat r6 Qf).bind fun s7=>
 some s7
def Hc (kind_t3_8:List UInt8):Option ((List UInt8)):=
 (CF ([kind_t3_8,KZ]:List (List UInt8))).bind fun r10=>
 (cat r10 Qd).bind fun s11=>
 some s11
def Mz (a0:Int):Option ((List UInt8)):=
 (some (if(decide (a0<0))=true then true else decide (17≤a0))).bind fun b1=>
 (if b1=true then
  some ([]:List UInt8)
 else
  (need (0≤a0)).bind fun u3=>
  (if((Ab ((1:Int)*2 ^ (min (a0).toNat (IntKind.i64).bits)))==(1:Int))=true then
   some GM
  else
   (if((Ab ((1:Int)*2 ^ (min (a0).toNat (IntKind.i64).bits)))==(2:Int))=true then
    some Ia
   else
    (if((Ab ((1:Int)*2 ^ (min (a0).toNat (IntKind.i64).bits)))==(4:Int))=true then
     some Ib
    else
     (if((Ab ((1:Int)*2 ^ (min (a0).toNat (IntKind.i64).bits)))==(8:Int))=true then
      some Ey
     else
      (if((Ab ((1:Int)*2 ^ (min (a0).toNat (IntKind.i64).bits)))==(16:Int))=true then
       some Ft
      else
       (if((Ab ((1:Int)*2 ^ (min (a0).toNat (IntKind.i64).bits)))==(32:Int))=true then
        Hc JW
       else
        (if((Ab ((1:Int)*2 ^ (min (a0).toNat (IntKind.i64).bits)))==(64:Int))=true then
         Hc ([]:List UInt8)
        else
         (if((Ab ((1:Int)*2 ^ (min (a0).toNat (IntKind.i64).bits)))==(128:Int))=true then
          some GN
         else
          (if((Ab ((1:Int)*2 ^ (min (a0).toNat (IntKind.i64).bits)))==(256:Int))=true then
           some Ez
          else
           (if((Ab ((1:Int)*2 ^ (min (a0).toNat (IntKind.i64).bits)))==(512:Int))=true then
            some GO
           else
            (if((Ab ((1:Int)*2 ^ (min (a0).toNat (IntKind.i64).bits)))==(1024:Int))=true then
             some EA
            else
             (if((Ab ((1:Int)*2 ^ (min (a0).toNat (IntKind.i64).bits)))==(2048:Int))=true then
              some GP
             else
              (if((Ab ((1:Int)*2 ^ (min (a0).toNat (IntKind.i64).bits)))==(4096:Int))=true then
               some GQ
              else
               (if((Ab ((1:Int)*2 ^ (min (a0).toNat (IntKind.i64).bits)))==(8192:Int))=true then
                some Fu
               else
                (if((Ab ((1:Int)*2 ^ (min (a0).toNat (IntKind.i64).bits)))==(16384:Int))=true then
                 Hb Qe
                else
                 (if((Ab ((1:Int)*2 ^ (min (a0).toNat (IntKind.i64).bits)))==(65536:Int))=true then
                  Hb ([]:List UInt8)
                 else
                  some EB)))))))))))))))))
def WJ (a0:Int) (r:(List UInt8)):Prop:=Af Tryz.prog I0 179 [vI a0] (· =vS r)
theorem U1 {a0:Int} {r:(List UInt8)} (h:Mz a0=some r):WJ a0 r:=by
 refine Af.bo Ae Tryz.func179 rfl Tryz.ntmps179 [.tmp 2] fun _ _ _ _=>?_
 unfold Mz at h
 refine Gg [.a] (u [] []) (aN)<|hS ?_
 obtain⟨b1,t0,h⟩:=bS h
 refine Gg [.a,.a,.a,.a,.a,(.v (vB b1))] (u [] [(9,vB b1)]) (aG ((decide (a0<0))==false)<|aF (decide (a0<0))<|aB t0<|aN)<|iC h (fun h=>?_) (fun h=>?_)
 ·exact Rg [.a] (sl 52 [(2,vS ([]:List UInt8))] []) (aN)<|hR<|Tr<|bQ _ (congrArg vS (sI h))
 refine hK<|Tn<|Gg [.a] (u [9] [(3,vS ([]:List UInt8))]) (aN)<|hS ?_
 obtain⟨u3,y0,h⟩:=bS h
 refine Gg [.a,.a] (u [0] [(11,vI (Ab ((1:Int)*2 ^ (min (a0).toNat (IntKind.i64).bits))))]) (aC (FZ y0)<|aN)<|hB<|Sj (X:=(List UInt8)) (fun v=>(sl 52 [(3,vS v)] [])) (fun v=>Hb v=some r) ?_ ?_
 ·refine hB<|hS<|hB<|hS<|hB<|hS<|hB<|hS<|hB<|hS<|hB<|hS<|hB<|hS<|hB<|hS<|hB<|Sj (X:=(List UInt8)) (fun v=>(sl 52 [(3,vS v)] [])) (fun v=>Hc v=some r) ?_ ?_
  ·refine hB<|hS<|hB<|hS<|hB<|hS<|hB<|hS<|hB<|hS<|hB<|hS<|hB<|hS<|hS<|Gg [.a,.a] (u [] [(12,vB ((Ab ((1:Int)*2 ^ (min (a0).toNat (IntKind.i64).bits)))==(1:Int)))]) (aN)<|iC h (fun h=>?_) (fun h=>?_)
   ·exact hE<|Te<|Te<|qX<|Tn<|hS<|Rg [.a] (sl 52 [(2,vS GM)] []) (aN)<|hR<|Tr<|qR<|Tr<|qR<|Tr<|qR<|Tr<|qR<|Tr<|qR<|Tr<|qR<|Tr<|qR<|Tr<|qR<|Tr<|qR<|Tr<|qR<|Tr<|qR<|Tr<|qR<|Tr<|qR<|Tr<|qR<|Tr<|qR<|Tr<|qR<|Tr<|bQ _ (congrArg vS (sI h))
   refine hK<|Tn<|hS<|Gg [.a,.a] (u [12] [(14,vB ((Ab ((1:Int)*2 ^ (min (a0).toNat (IntKind.i64).bits)))==(2:Int)))]) (aN)<|iC h (fun h=>?_) (fun h=>?_)
   ·exact hE<|Te<|Te<|qY<|Te<|qX<|Tn<|hS<|Rg [.a] (sl 52 [(2,vS Ia)] []) (aN)<|hR<|Tr<|qR<|Tr<|qR<|Tr<|qR<|Tr<|qR<|Tr<|qR<|Tr<|qR<|Tr<|qR<|Tr<|qR<|Tr<|qR<|Tr<|qR<|Tr<|qR<|Tr<|qR<|Tr<|qR<|Tr<|qR<|Tr<|qR<|Tr<|bQ _ (congrArg vS (sI h))
   refine hK<|Tn<|hS<|Gg [.a,.a] (u [14] [(16,vB ((Ab ((1:Int)*2 ^ (min (a0).toNat (IntKind.i64).bits)))==(4:Int)))]) (aN)<|iC h (fun h=>?_) (fun h=>?_)
   ·exact hE<|Te<|Te<|qY<|Te<|qY<|Te<|qX<|Tn<|hS<|Rg [.a] (sl 52 [(2,vS Ib)] []) (aN)<|hR<|Tr<|qR<|Tr<|qR<|Tr<|qR<|Tr<|qR<|Tr<|qR<|Tr<|qR<|Tr<|qR<|Tr<|qR<|Tr<|qR<|Tr<|qR<|Tr<|qR<|Tr<|qR<|Tr<|qR<|Tr<|qR<|Tr<|bQ _ (congrArg vS (sI h))
   refine hK<|Tn<|hS<|Rg [.a,.a] (sl 52 [(3,vS ([]:List UInt8)),(11,vI (Ab ((1:Int)*2 ^ (min (a0).toNat (IntKind.i64).bits)))),(18,vB ((Ab ((1:Int)*2 ^ (min (a0).toNat (IntKind.i64).bits)))==(8:Int)))] []) (aN)<|iC h (fun h=>?_) (fun h=>?_)
   ·exact hE<|Te<|Te<|qY<|Te<|qY<|Te<|qY<|Te<|qX<|Tn<|hS<|Rg [.a] (sl 52 [(2,vS Ey)] []) (aN)<|hR<|Tr<|qR<|Tr<|qR<|Tr<|qR<|Tr<|qR<|Tr<|qR<|Tr<|qR<|Tr<|qR<|Tr<|qR<|Tr<|qR<|Tr<|qR<|Tr<|qR<|Tr<|qR<|Tr<|qR<|Tr<|bQ _ (congrArg vS (sI h))
   refine hK<|Tn<|hS<|Gg [.a,.a] (u [18] [(20,vB ((Ab ((1:Int)*2 ^ (min (a0).toNat (IntKind.i64).bits)))==(16:Int)))]) (aN)<|iC h (fun h=>?_) (fun h=>?_)
   ·exact hE<|Te<|Te<|qY<|Te<|qY<|Te<|qY<|Te<|qY<|Te<|qX<|Tn<|hS<|Rg [.a] (sl 52 [(2,vS Ft)] []) (aN)<|hR<|Tr<|qR<|Tr<|qR<|Tr<|qR<|Tr<|qR<|Tr<|qR<|Tr<|qR<|Tr<|qR<|Tr<|qR<|Tr<|qR<|Tr<|qR<|Tr<|qR<|Tr<|qR<|Tr<|bQ _ (congrArg vS (sI h))
   refine hK<|Tn<|hS<|Gg [.a,.a] (u [20] [(22,vB ((Ab ((1:Int)*2 ^ (min (a0).toNat (IntKind.i64).bits)))==(32:Int)))]) (aN)<|iC h (fun h=>?_) (fun h=>?_)
   ·refine hE<|Te<|Te<|qY<|Te<|qY<|Te<|qY<|Te<|qY<|Te<|qY<|Te<|qX<|Tn<|Ge [.a] (u [] [(3,vS JW)]) (aN)<|qN<|Tn ⟨JW,h,wT⟩
   refine hK<|Tn<|hS<|Gg [.a,.a] (u [22] [(24,vB ((Ab ((1:Int)*2 ^ (min (a0).toNat (IntKind.i64).bits)))==(64:Int)))]) (aN)<|iC h (fun h=>?_) (fun h=>?_)
   ·refine hE<|Te<|Te<|qY<|Te<|qY<|Te<|qY<|Te<|qY<|Te<|qY<|Te<|qY<|Te<|qX<|Tn ⟨([]:List UInt8),h,wT⟩
   refine hK<|Tn<|hS<|Gg [.a,.a] (u [24] [(26,vB ((Ab ((1:Int)*2 ^ (min (a0).toNat (IntKind.i64).bits)))==(128:Int)))]) (aN)<|iC h (fun h=>?_) (fun h=>?_)
   ·exact hE<|Te<|Te<|qY<|Te<|qY<|Te<|qY<|Te<|qY<|Te<|qY<|Te<|qY<|Te<|qY<|Te<|qX<|Tn<|hS<|Rg [.a] (sl 52 [(2,vS GN)] []) (aN)<|hR<|Tr<|qR<|Tr<|qR<|Tr<|qR<|Tr<|qR<|Tr<|qR<|Tr<|qR<|Tr<|qR<|Tr<|qR<|Tr<|qR<|Tr<|bQ _ (congrArg vS (sI h))
   refine hK<|Tn<|hS<|Gg [.a,.a] (u [26] [(28,vB ((Ab ((1:Int)*2 ^ (min (a0).toNat (IntKind.i64).bits)))==(256:Int)))]) (aN)<|iC h (fun h=>?_) (fun h=>?_)
   ·exact hE<|Te<|Te<|qY<|Te<|qY<|Te<|qY<|Te<|qY<|Te<|qY<|Te<|qY<|Te<|qY<|Te<|qY<|Te<|qX<|Tn<|hS<|Rg [.a] (sl 52 [(2,vS Ez)] []) (aN)<|hR<|Tr<|qR<|Tr<|qR<|Tr<|qR<|Tr<|qR<|Tr<|qR<|Tr<|qR<|Tr<|qR<|Tr<|qR<|Tr<|bQ _ (congrArg vS (sI h))
   refine hK<|Tn<|hS<|Gg [.a,.a] (u [28] [(30,vB ((Ab ((1:Int)*2 ^ (min (a0).toNat (IntKind.i64).bits)))==(512:Int)))]) (aN)<|iC h (fun h=>?_) (fun h=>?_)
   ·exact hE<|Te<|Te<|qY<|Te<|qY<|Te<|qY<|Te<|qY<|Te<|qY<|Te<|qY<|Te<|qY<|Te<|qY<|Te<|qY<|Te<|qX<|Tn<|hS<|Rg [.a] (sl 52 [(2,vS GO)] []) (aN)<|hR<|Tr<|qR<|Tr<|qR<|Tr<|qR<|Tr<|qR<|Tr<|qR<|Tr<|qR<|Tr<|qR<|Tr<|bQ _ (congrArg vS (sI h))
   refine hK<|Tn<|hS<|Gg [.a,.a] (u [30] [(32,vB ((Ab ((1:Int)*2 ^ (min (a0).toNat (IntKind.i64).bits)))==(1024:Int)))]) (aN)<|iC h (fun h=>?_) (fun h=>?_)
   ·exact hE<|Te<|Te<|qY<|Te<|qY<|Te<|qY<|Te<|qY<|Te<|qY<|Te<|qY<|Te<|qY<|Te<|qY<|Te<|qY<|Te<|qY<|Te<|qX<|Tn<|hS<|Rg [.a] (sl 52 [(2,vS EA)] []) (aN)<|hR<|Tr<|qR<|Tr<|qR<|Tr<|qR<|Tr<|qR<|Tr<|qR<|Tr<|qR<|Tr<|bQ _ (congrArg vS (sI h))
   refine hK<|Tn<|hS<|Rg [.a,.a] (sl 52 [(3,vS ([]:List UInt8)),(11,vI (Ab ((1:Int)*2 ^ (min (a0).toNat (IntKind.i64).bits)))),(34,vB ((Ab ((1:Int)*2 ^ (min (a0).toNat (IntKind.i64).bits)))==(2048:Int)))] []) (aN)<|iC h (fun h=>?_) (fun h=>?_)
   ·exact hE<|Te<|Te<|qY<|Te<|qY<|Te<|qY<|Te<|qY<|Te<|qY<|Te<|qY<|Te<|qY<|Te<|qY<|Te<|qY<|Te<|qY<|Te<|qY<|Te<|qX<|Tn<|hS<|Rg [.a] (sl 52 [(2,vS GP)] []) (aN)<|hR<|Tr<|qR<|Tr<|qR<|Tr<|qR<|Tr<|qR<|Tr<|qR<|Tr<|bQ _ (congrArg vS (sI h))
   refine hK<|Tn<|hS<|Gg [.a,.a] (u [34] [(36,vB ((Ab ((1:Int)*2 ^ (min (a0).toNat (IntKind.i64).bits)))==(4096:Int)))]) (aN)<|iC h (fun h=>?_) (fun h=>?_)
   ·exact hE<|Te<|Te<|qY<|Te<|qY<|Te<|qY<|Te<|qY<|Te<|qY<|Te<|qY<|Te<|qY<|Te<|qY<|Te<|qY<|Te<|qY<|Te<|qY<|Te<|qY<|Te<|qX<|Tn<|hS<|Rg [.a] (sl 52 [(2,vS GQ)] []) (aN)<|hR<|Tr<|qR<|Tr<|qR<|Tr<|qR<|Tr<|qR<|Tr<|bQ _ (congrArg vS (sI h))
   refine hK<|Tn<|hS<|Gg [.a,.a] (u [36] [(38,vB ((Ab ((1:Int)*2 ^ (min (a0).toNat (IntKind.i64).bits)))==(8192:Int)))]) (aN)<|iC h (fun h=>?_) (fun h=>?_)
   ·exact hE<|Te<|Te<|qY<|Te<|qY<|Te<|qY<|Te<|qY<|Te<|qY<|Te<|qY<|Te<|qY<|Te<|qY<|Te<|qY<|Te<|qY<|Te<|qY<|Te<|qY<|Te<|qY<|Te<|qX<|Tn<|hS<|Rg [.a] (sl 52 [(2,vS Fu)] []) (aN)<|hR<|Tr<|qR<|Tr<|qR<|Tr<|qR<|Tr<|bQ _ (congrArg vS (sI h))
   refine hK<|Tn<|hS<|Gg [.a,.a] (u [38] [(40,vB ((Ab ((1:Int)*2 ^ (min (a0).toNat (IntKind.i64).bits)))==(16384:Int)))]) (aN)<|iC h (fun h=>?_) (fun h=>?_)
   ·refine hE<|Te<|Te<|qY<|Te<|qY<|Te<|qY<|Te<|qY<|Te<|qY<|Te<|qY<|Te<|qY<|Te<|qY<|Te<|qY<|Te<|qY<|Te<|qY<|Te<|qY<|Te<|qY<|Te<|qY<|Te<|qX<|Tn<|Ge [.a] (u [] [(3,vS Qe)]) (aN)<|qN<|Tn ⟨Qe,h,wT⟩
   refine hK<|Tn<|Gg [.a,.a] (u [11,40] [(42,vB ((Ab ((1:Int)*2 ^ (min (a0).toNat (IntKind.i64).bits)))==(65536:Int)))]) (aN)<|iC h (fun h=>?_) (fun h=>?_)
   ·refine hE<|Te<|qY<|Te<|qY<|Te<|qY<|Te<|qY<|Te<|qY<|Te<|qY<|Te<|qY<|Te<|qY<|Te<|qY<|Te<|qY<|Te<|qY<|Te<|qY<|Te<|qY<|Te<|qY<|Te<|qY<|Te<|qX<|Tn ⟨([]:List UInt8),h,wT⟩
   exact hK<|Tn<|hE<|qY<|Te<|qY<|Te<|qY<|Te<|qY<|Te<|qY<|Te<|qY<|Te<|qY<|Te<|qY<|Te<|qY<|Te<|qY<|Te<|qY<|Te<|qY<|Te<|qY<|Te<|qY<|Te<|qY<|Te<|qY<|Te<|qX<|Tn<|Rg [.a] (sl 52 [(2,vS EB)] []) (aN)<|hR<|bQ _ (congrArg vS (sI h))
  rintro m0 j0
  replace j0:Hc m0=some r:=j0
  unfold Hc at j0
  refine hS ?_
  obtain⟨z0,q0,p0,n0,j0⟩:=Ex j0
  exact Rg [.a,.a,(.c (vS z0)),(.v (vS p0)),.a] (sl 52 [(2,vS p0)] []) (aC (Ij q0)<|aC (By n0)<|aC (congrArg (fun z=>V.c (.str z)) (Bz n0).symm)<|aN)<|hR<|Tr<|qR<|Tr<|qR<|Tr<|qR<|Tr<|qR<|Tr<|qR<|Tr<|qR<|Tr<|qR<|Tr<|qR<|Tr<|qR<|Tr<|qR<|Tr<|bQ _ (congrArg vS (sI j0))
 rintro k0 i0
 replace i0:Hb k0=some r:=i0
 unfold Hb at i0
 refine hS ?_
 obtain⟨r6,x0,s7,o0,i0⟩:=Ex i0
 exact Rg [.a,.a,(.c (vS r6)),(.v (vS s7)),.a] (sl 52 [(2,vS s7)] []) (aC (Ij x0)<|aC (By o0)<|aC (congrArg (fun z=>V.c (.str z)) (Bz o0).symm)<|aN)<|hR<|Tr<|qR<|Tr<|bQ _ (congrArg vS (sI i0))
def DQ (a0:List UInt8) (a1:Ac):Option ((List UInt8)):=
 (idx (⟨([]:List UInt8),JY,JZ,NR⟩:A4 (List UInt8)).l a1.Kind).bind fun e1=>
 (if(e1==([]:List UInt8))=true then
  some ([]:List UInt8)
 else
  (cat a0 e1).bind fun s3=>
  (E3 a1.N).bind fun r4=>
  (cat s3 r4).bind fun s5=>
  some s5)
def R2 (a0:List UInt8) (a1:Ac) (r:(List UInt8)):Prop:=Af Tryz.prog I0 180 [vS a0,vA CK a1] (· =vS r)
theorem Ja {a0:List UInt8} {a1:Ac} {r:(List UInt8)} (h:DQ a0 a1=some r):R2 a0 a1 r:=by
 refine Af.bo Ae Tryz.func180 rfl Tryz.ntmps180 [.tmp 4] fun _ _ _ _=>?_
 unfold DQ at h
 refine Gg [.a,.a] (uo [1] [(3,vP [3] (0))] [.e (bx [3] (CK a1))]) (aN) ?_
 obtain⟨e1,i0,h⟩:=bS h
 refine Gg [.a,.a,.a,(.v (vS e1)),.a] (u [] [(5,vS e1)]) (aC (And.intro (show True∧(True∧(True∧(True∧True)))from⟨trivial,⟨trivial,⟨trivial,⟨trivial,trivial⟩⟩⟩⟩) rn)<|aC (show (0≤a1.Kind∧a1.Kind<((4:Nat):Int))∧(a1.Kind).toNat *1+1≤(u4 (eS) (⟨([]:List UInt8),JY,JZ,NR⟩:A4 (List UInt8))).length ∧O6 false ((a1.Kind).toNat *1) 1 (u4 (eS) (⟨([]:List UInt8),JY,JZ,NR⟩:A4 (List UInt8)))=vS e1 from⟨AI i0,L4 (e:=eS) (N:=1) (l:=(⟨([]:List UInt8),JY,JZ,NR⟩:A4 (List UInt8)).l) (base:=0) (pre:=[]) (post:=[]) (by kernel_rfl) rfl i0 OB (o:=0) (by simp) (by decide) (by decide) (by kernel_rfl)⟩)<|aC (Eq.refl (vS e1))<|aN)<|hS<|Gg [.a,.a] (u [] [(11,vB (e1==([]:List UInt8)))]) (aN)<|iC h (fun h=>?_) (fun h=>?_)
 ·exact Rg [.a] (sl 19 [(4,vS ([]:List UInt8))] []) (aN)<|hR<|Tr<|bQ _ (congrArg vS (sI h))
 refine hK<|Tn ?_
 obtain⟨s3,j0,r4,m0,s5,k0,h⟩:=I8 h
 exact Rg [.a,.a,(.v (vS s3)),.a,.a,(.c (vS r4)),(.v (vS s5)),.a] (sl 19 [(4,vS s5)] []) (aC (By j0)<|aC (congrArg (fun z=>V.c (.str z)) (Bz j0).symm)<|aC (HT m0)<|aC (By k0)<|aC (congrArg (fun z=>V.c (.str z)) (Bz k0).symm)<|aN)<|hR<|bQ _ (congrArg vS (sI h))
def Iw (s_t3_7:List UInt8):Option ((List UInt8)):=
 some s_t3_7
def Hu (a0:AP) (s_t3_11:List UInt8) (vt25_12:Int):Option (((List UInt8)×Int)⊕((List UInt8))):=
 (if(decide (vt25_12<5))=true then
  (idx a0.Color.l vt25_12).bind fun e16=>
  (ssub OI vt25_12 (Ab (vt25_12+1))).bind fun s17=>
  (Pi s17 e16).bind fun r18=>
  (cat s_t3_11 r18).bind fun s19=>
  some (.inl (s19,(Ab (vt25_12+1))))
 else
  some (.inr s_t3_11))
def GW (a0:AP) (s_t3_5:List UInt8):Option ((List UInt8)):=
 (iter (fun(v:(List UInt8)×Int)=>Hu a0 v.1 v.2) FU (s_t3_5,(0:Int))).bind (fun o0=>Iw o0)
def MN (a0:AP):Option ((List UInt8)):=
 (Q6 a0).bind fun r1=>
 (if(!r1)=true then
  some ([]:List UInt8)
 else
  (if(a0==(⟨0,0,(⟨0,0,0,0,0⟩:A5 (Int))⟩:AP))=true then
   some Ru
  else
   (Pi g8 a0.X).bind fun r4=>
   (if(decide (0<a0.Generic))=true then
    (E3 a0.Generic).bind fun r21=>
    (cat r4 r21).bind fun s22=>
    GW a0 s22
   else
    GW a0 r4)))
def cy (a0:AP) (r:(List UInt8)):Prop:=Af Tryz.prog I0 136 [vA Bu a0] (· =vS r)
theorem SY {a0:AP} {r:(List UInt8)} (h:MN a0=some r):cy a0 r:=by
 refine Af.bo Ae Tryz.func136 rfl Tryz.ntmps136 [.tmp 2] fun _ _ _ _=>?_
 unfold MN at h
 refine Rg [.a,.a] (sl 39 [(1,vP [1] (0))] [bx [1] (Bu a0)]) (aN)<|hS ?_
 obtain⟨r1,x1,h⟩:=bS h
 refine Gg [.a,(.c (vB r1)),.a] (u [] [(8,vB (!r1))]) (aC (Wx x1)<|aN)<|iC h (fun h=>?_) (fun h=>?_)
 ·exact Rg [.a] (sl 39 [(2,vS ([]:List UInt8))] []) (aN)<|hR<|Tr<|bQ _ (congrArg vS (sI h))
 refine hK<|Tn<|hS<|Gg [.a,.a,(.v (vB (a0==(⟨0,0,(⟨0,0,0,0,0⟩:A5 (Int))⟩:AP))))] (u [8] [(11,vB (a0==(⟨0,0,(⟨0,0,0,0,0⟩:A5 (Int))⟩:AP)))]) (aC (And.intro trivial hZ)<|aC (congrArg (fun z=>V.c (.bool (z))) (pE a0 (⟨0,0,(⟨0,0,0,0,0⟩:A5 (Int))⟩:AP)))<|aN)<|iC h (fun h=>?_) (fun h=>?_)
 ·exact Rg [.a] (sl 39 [(2,vS Ru)] []) (aN)<|hR<|Tr<|bQ _ (congrArg vS (sI h))
 refine hK<|Tn ?_
 obtain⟨r4,y1,h⟩:=bS h
 refine Gg [.a,.a,(.c (vS r4)),.a] (u [11] [(3,vS r4)]) (aC (bJ y1)<|aN)<|Gj (X:=(List UInt8)) (fun v=>(u [] [(3,vS v)])) (fun v=>GW a0 v=some r) ?_ ?_
 ·refine Gg (nA 3) (u [] [(17,vB (decide (0<a0.Generic)))]) (aN)<|iC h (fun h=>?_) (fun h=>?_)
  ·obtain⟨n1,q1,t0,d1,h⟩:=Ex h
   refine Ge [.a,.a,.a,(.c (vS n1)),(.v (vS t0)),.a] (u [] [(3,vS t0),(18,vS r4),(19,vP [1] (0)),(20,vI a0.Generic),(21,vS n1),(22,vS t0)]) (aC (HT q1)<|aC (By d1)<|aC (congrArg (fun z=>V.c (.str z)) (Bz d1).symm)<|aN)<|Tn ⟨t0,h,wT⟩
  refine hK<|Tn ⟨r4,h,wT⟩
 rintro i1 m0
 replace m0:GW a0 i1=some r:=m0
 unfold GW at m0
 refine Sj (X:=(List UInt8)) (fun v=>(sl 39 [(3,vS v)] [])) (fun v=>Iw v=some r) ?_ ?_
 ·refine Gg (nA 3) (uo [1] [(24,vA (nl (eI .i64)) a0.Color),(25,vI 0)] []) (aN)<|hB ?_
  obtain⟨z1,j1,m0⟩:=bS m0
  refine Gi (fun(v:(List UInt8)×Int)=>(u [] [(3,vS v.1),(25,vI v.2)])) j1 (wT) ?_
  rintro⟨k0,i0⟩ t1 j0 k1
  replace j0:Hu a0 k0 i0=some t1:=j0
  unfold Hu at j0
  refine Gg [.a] (u [] [(26,vB (decide (i0<5)))]) (aN)<|hS<|iC j0 (fun j0=>?_) (fun j0=>?_)
  ·refine hK<|Tn<|hS<|hB ?_
   obtain⟨n0,x0,j0⟩:=bS j0
   refine Rg [.a,(.v (vI n0)),.a,.a] (sl 39 [(3,vS k0),(4,vI i0),(5,vI n0),(24,vA (nl (eI .i64)) a0.Color),(25,vI i0)] []) (aC (show (0≤i0∧i0<((5:Nat):Int))∧(i0).toNat *1+1≤(nl (eI .i64) a0.Color).length ∧O6 false ((i0).toNat *1) 1 (nl (eI .i64) a0.Color)=vI n0 from⟨AI x0,L4 (e:=eI .i64) (N:=1) (l:=a0.Color.l) (base:=0) (pre:=[]) (post:=[]) (by kernel_rfl) rfl x0 (Fq .i64) (o:=0) (by simp) (by decide) (by decide) (by kernel_rfl)⟩)<|aC (Eq.refl (vI n0))<|aN) ?_
   obtain⟨o1,y0,m1,p1,q0,z0,j0⟩:=I8 j0
   refine Ge [.a,.a,.a,.a,(.v (vS o1)),.a,(.c (vS m1)),(.v (vS q0)),.a] (u [] [(3,vS q0),(29,vS k0),(30,vI i0),(31,vI i0),(32,vI (Ab (i0+1))),(33,vS o1),(34,vI n0),(35,vS m1),(36,vS q0)]) (aC (kX y0)<|aC (congrArg (fun z=>V.c (.str z)) (kY y0).symm)<|aC (bJ p1)<|aC (By z0)<|aC (congrArg (fun z=>V.c (.str z)) (Bz z0).symm)<|aN)<|qN<|Tn<|Ge [.a,.a] (u [] [(25,vI (Ab (i0+1))),(37,vI (Ab (i0+1)))]) (aN)<|Tn ⟨(q0,(Ab (i0+1))),(sI j0).symm,wT⟩
  refine hE<|Te ?_
  obtain rfl:=k1 _ (sI j0).symm
  refine Te<|qX<|Tn ⟨k0,m0,wT⟩
 rintro o0 p0
 replace p0:Iw o0=some r:=p0
 unfold Iw at p0
 exact Rg [.a,.a] (sl 39 [(2,vS o0)] []) (aN)<|hR<|bQ _ (congrArg vS (sI p0))
def Gb (a0:Ai):Option (Bool):=
 (CB a0.Turn (0:Int) (500:Int)).bind fun r2=>
 (gd ((!r2)==false) (CB a0.Active (0:Int) (Ab ((a0.Players.length:Int) - (1:Int))))).bind fun r3=>
 (some (if(!r2)=true then true else !r3)).bind fun b4=>
 (gd (b4==false) (CB a0.Priority (0:Int) (Ab ((a0.Players.length:Int) - (1:Int))))).bind fun r5=>
 (some (if b4=true then true else !r5)).bind fun b6=>
 (gd (b6==false) (CB a0.Step (0:Int) (10:Int))).bind fun r7=>
 (some (if b6=true then true else !r7)).bind fun b8=>
 (gd (b8==false) (CB a0.Passes (0:Int) (Ab ((Ab ((a0.Players.length:Int) - (1:Int)))+(1:Int))))).bind fun r9=>
 (some (if b8=true then true else !r9)).bind fun b10=>
 (gd (b10==false) (CB a0.NextId (1:Int) (1000000:Int))).bind fun r11=>
 (some (if b10=true then true else !r11)).bind fun b12=>
 (gd (b12==false) (CB a0.NextStamp (1:Int) (1000000:Int))).bind fun r13=>
 (some (if b12=true then true else !r13)).bind fun b14=>
 (some (if b14=true then true else decide (500<(a0.Extra.length:Int)))).bind fun b15=>
 (if b15=true then
  some false
 else
  (if(a0.Over==1)=true then
   (CB a0.Winner (0:Int) (Ab ((a0.Players.length:Int) - (1:Int)))).bind fun r18=>
   some r18
  else
   (CB a0.Over (0:Int) (2:Int)).bind fun r19=>
   (some (if r19=true then a0.Winner==(-1:Int)else false)).bind fun b20=>
   some b20))
def CX (a0:Ai) (vt13_22:Int):Option ((Int)⊕(Unit⊕Unit)):=
 (if(decide (vt13_22<(a0.Extra.length:Int)))=true then
  (idx a0.Extra vt13_22).bind fun e25=>
  (CB e25 (0:Int) (Ab ((a0.Players.length:Int) - (1:Int)))).bind fun r26=>
  (if(!r26)=true then
   some (.inr (.inr ()))
  else
   some (.inl (Ab (vt13_22+1))))
 else
  some (.inr (.inl ())))
def Jk (a0:Ai):Option (Bool):=
 (iter (fun(v:Int)=>CX a0 v) FU (0:Int)).bind (Sum.elim (fun o0=>Gb a0) (fun o1=>some false))
def U2 (a0:Ai) (r:Bool):Prop:=Af Tryz.prog I0 20 [vA Aj a0] (· =vB r)
theorem TS {a0:Ai} {r:Bool} (h:Jk a0=some r):U2 a0 r:=by
 refine Af.bo Ae Tryz.func20 rfl Tryz.ntmps20 [.tmp 2] fun _ _ _ _=>?_
 unfold Jk at h
 refine Rg [.a,.a] (sl 87 [(1,vP [1] (0))] [bx [1] (Aj a0)]) (aN)<|Gg (nA 5) (u [] [(3,vI (Ab ((a0.Players.length:Int) - (1:Int))))]) (aN)<|Gj (X:=Unit) (fun v=>(u [] [])) (fun v=>Gb a0=some r) ?_ ?_
 ·refine Gg (nA 4) (u [] [(11,vL (eI .i64) a0.Extra),(12,vI (a0.Extra.length:Int)),(13,vI 0)]) (aN)<|hB ?_
  obtain⟨y2,y0,h⟩:=bS h
  refine Gi (fun(v:Int)=>(u [] [(13,vI v)])) y0 (wT) ?_
  rintro k0 d2 i0 q0
  replace i0:CX a0 k0=some d2:=i0
  unfold CX at i0
  refine Gg [.a] (u [] [(14,vB (decide (k0<(a0.Extra.length:Int))))]) (aN)<|hS<|iC i0 (fun i0=>?_) (fun i0=>?_)
  ·refine hK<|Tn<|hS<|hB ?_
   obtain⟨p0,x0,i0⟩:=bS i0
   refine Gg [.a,(.v (vI p0)),.a] (u [14] [(5,vI p0)]) (aC (AI x0)<|aC (DI x0 (Fq .i64) 0 1 false (vI p0))<|aC (Eq.refl (vI p0))<|aN) ?_
   obtain⟨j1,z1,i0⟩:=bS i0
   refine Gg [.a,.a,(.c (vB j1)),.a] (u [5] [(20,vB (!j1))]) (aC (BM z1)<|aN)<|iC i0 (fun i0=>?_) (fun i0=>?_)
   ·refine Rg [.a] (sl 87 [(2,vB false)] []) (aN)<|hR<|qR<|Tr ?_
    obtain rfl:=q0 _ (sI i0).symm
    replace h:=Cy h
    exact Tr<|qR<|Tr<|bQ _ (kB h)
   refine hK<|qN<|Tn<|Ge [.a,.a] (u [] [(13,vI (Ab (k0+1))),(21,vI (Ab (k0+1)))]) (aN)<|Tn ⟨(Ab (k0+1)),(sI i0).symm,wT⟩
  refine hE<|Te ?_
  obtain rfl:=q0 _ (sI i0).symm
  replace h:=CZ h
  refine Te<|qX<|Tn ⟨(),h,wT⟩
 rintro _ j0
 replace j0:Gb a0=some r:=j0
 unfold Gb at j0
 refine hS ?_
 obtain⟨r2,m2,r3,n2,b4,i2,r5,o2,j0⟩:=D2 j0
 obtain⟨b6,j2,r7,p2,b8,k2,r9,q2,j0⟩:=D2 j0
 obtain⟨n0,k1,t2,q1,o0,m1,x2,t1,j0⟩:=D2 j0
 obtain⟨m0,n1,z0,o1,j0⟩:=Ex j0
 refine Gg [.a,.a,(.c (vB r2)),.a,.a,.a,.a,.a,(.c (vB r3)),.a,(.v (vB b4)),.a,.a,.a,.a,(.c (vB r5)),.a,(.v (vB b6)),.a,.a,.a,(.c (vB r7)),.a,(.v (vB b8)),.a,.a,.a,.a,.a,(.c (vB r9)),.a,(.v (vB n0)),.a,.a,.a,(.c (vB t2)),.a,(.v (vB o0)),.a,.a,.a,(.c (vB x2)),.a,(.v (vB m0)),.a,.a,.a,.a,.a,(.v (vB z0))] (u [] [(71,vB z0)]) (aC (BM m2)<|aG ((!r2)==false)<|aC (c2 n2 BM)<|aG ((!r2)==false)<|aF (!r2)<|aB i2<|aG (b4==false)<|aC (c2 o2 BM)<|aG (b4==false)<|aF b4<|aB j2<|aG (b6==false)<|aC (c1 p2 BM)<|aG (b6==false)<|aF b6<|aB k2<|aG (b8==false)<|aG (b8==false)<|aC (c2 q2 BM)<|aG (b8==false)<|aF b8<|aB k1<|aG (n0==false)<|aC (c1 q1 BM)<|aG (n0==false)<|aF n0<|aB m1<|aG (o0==false)<|aC (c1 t1 BM)<|aG (o0==false)<|aF o0<|aB n1<|aG (m0==false)<|aG (m0==false)<|aG (m0==false)<|aF m0<|aB o1<|aN)<|iC j0 (fun j0=>?_) (fun j0=>?_)
 ·exact Rg [.a] (sl 87 [(2,vB false)] []) (aN)<|hR<|Tr<|bQ _ (kB j0)
 refine hK<|Tn<|hS<|Gg (nA 3) (u [71] [(74,vB (a0.Over==1))]) (aN)<|iC j0 (fun j0=>?_) (fun j0=>?_)
 ·obtain⟨i1,x1,j0⟩:=bS j0
  exact Rg [.a,.a,.a,(.c (vB i1)),.a] (sl 87 [(2,vB i1)] []) (aC (BM x1)<|aN)<|hR<|Tr<|bQ _ (kB j0)
 refine hK<|Tn ?_
 obtain⟨t0,y1,d1,p1,j0⟩:=Ex j0
 exact Rg [.a,.a,(.c (vB t0)),.a,.a,.a,.a,(.v (vB d1)),.a] (sl 87 [(2,vB d1)] []) (aC (BM y1)<|aG (t0==true)<|aG (t0==true)<|aT t0<|aB p1<|aN)<|hR<|bQ _ (kB j0)
def AJ:Option (Bool):=
 some true
def Ba (a0:List (AB)) (a1:List (AB)) (vt17_4:Int):Option ((Int)⊕(Unit⊕Unit)):=
 (if(decide (vt17_4<(a0.length:Int)))=true then
  (idx a0 vt17_4).bind fun e7=>
  (idx a1 vt17_4).bind fun e8=>
  (some (if(e7.Life==e8.Life)=true then e7.Venom==e8.Venom else false)).bind fun b9=>
  (some (if b9=true then e7.Lands==e8.Lands else false)).bind fun b10=>
  (some (if b10=true then e7.Pool==e8.Pool else false)).bind fun b11=>
  (some (if b11=true then e7.Failed==e8.Failed else false)).bind fun b12=>
  (some (if b12=true then e7.Lost==e8.Lost else false)).bind fun b13=>
  (gd (b13==true) (BO e7.Library e8.Library)).bind fun r14=>
  (some (if b13=true then r14 else false)).bind fun b15=>
  (gd (b15==true) (BO e7.Hand e8.Hand)).bind fun r16=>
  (some (if b15=true then r16 else false)).bind fun b17=>
  (gd (b17==true) (BO e7.Graveyard e8.Graveyard)).bind fun r18=>
  (some (if b17=true then r18 else false)).bind fun b19=>
  (if(!b19)=true then
   some (.inr (.inr ()))
  else
   some (.inl (Ab (vt17_4+1))))
 else
  some (.inr (.inl ())))
def Bd (a0:List (AB)) (a1:List (AB)):Option (Bool):=
 (if((a0.length:Int) != (a1.length:Int))=true then
  some false
 else
  (iter (fun(v:Int)=>Ba a0 a1 v) FU (0:Int)).bind (Sum.elim (fun o0=>AJ) (fun o1=>some false)))
def Cf (a0:List (AB)) (a1:List (AB)) (r:Bool):Prop:=Af Tryz.prog I0 58 [vL Ah a0,vL Ah a1, .c (.fn 28)] (· =vB r)
theorem Cd {a0:List (AB)} {a1:List (AB)} {r:Bool} (h:Bd a0 a1=some r):Cf a0 a1 r:=by
 refine Af.bo Ae Tryz.func58 rfl Tryz.ntmps58 [.tmp 6] fun _ _ _ _=>?_
 unfold Bd at h
 refine Gg [.a] (u [] []) (aN)<|hS<|Gg (nA 5) (u [] [(14,vB ((a0.length:Int) != (a1.length:Int)))]) (aN)<|iC h (fun h=>?_) (fun h=>?_)
 ·exact Rg [.a] (sl 32 [(6,vB false)] []) (aN)<|hR<|Tr<|bQ _ (kB h)
 refine hK<|Tn<|Sj (X:=Unit) (fun v=>(sl 32 [] [])) (fun v=>AJ=some r) ?_ ?_
 ·refine Gg (nA 3) (u [0,14] [(15,vL Ah a0),(16,vI (a0.length:Int)),(17,vI 0)]) (aN)<|hB ?_
  obtain⟨m2,q1,h⟩:=bS h
  refine Gi (fun(v:Int)=>(u [] [(17,vI v)])) q1 (wT) ?_
  rintro j0 k2 i0 y0
  replace i0:Ba a0 a1 j0=some k2:=i0
  unfold Ba at i0
  refine Gg [.a] (u [] [(18,vB (decide (j0<(a0.length:Int))))]) (aN)<|hS<|iC i0 (fun i0=>?_) (fun i0=>?_)
  ·refine hK<|Tn<|hS<|hB ?_
   obtain⟨e7,z0,i0⟩:=bS i0
   refine Gg [.a,.a,(.v (vA Ah e7)),.a,.a,.a] (uo [18] [(7,vI j0),(8,vP [8] (0))] [.e (bx [8] (Ah e7))]) (aC (AI z0)<|aC (DI z0 Cp 0 14 true (vA Ah e7))<|aC (Eq.refl (vA Ah e7))<|aN) ?_
   obtain⟨e8,d1,i0⟩:=bS i0
   refine Gg [.a,.a,.a,(.v (vA Ah e8)),.a,.a] (uo [7] [(9,vP [9] (0))] [.e (bx [9] (Ah e8)),.k 0]) (aC (AI d1)<|aC (DI d1 Cp 0 14 true (vA Ah e8))<|aC (Eq.refl (vA Ah e8))<|aN)<|hS<|hO<|Rp 3 (nA 3) (sl 32 [(1,vL Ah a1),(2,.c (.fn 28)),(8,vP [8] (0)),(9,vP [9] (0)),(15,vL Ah a0),(16,vI (a0.length:Int)),(17,vI j0),(26,.c (.fn 28)),(27,vA Ah e7),(28,vA Ah e8)] [bx [9] (Ah e8),bx [8] (Ah e7)]) (aN)<|rI rfl rfl<|Ei 29 [vA Ah e7,vA Ah e8] [] Tryz.func28 Tryz.ntmps28 [.tmp 4] rfl rfl rfl rfl fun _ _ _ _=>Gg (nA 3) (uo [0,1] [(2,vP [2,29] (0)),(3,vP [3,29] (0))] [.e (bx [3,29] (Ah e8)),.e (bx [2,29] (Ah e7)),.k 0,.k 1]) (aN) ?_
   obtain⟨b9,z1,k0,i1,m0,j1,n0,k1,i0⟩:=D2 i0
   obtain⟨o0,m1,d2,t1,p0,n1,i2,x1,i0⟩:=D2 i0
   obtain⟨q0,o1,j2,y1,t0,p1,i0⟩:=I8 i0
   refine Gg [.a,.a,.a,.a,.a,.a,.a,.a,.a,.a,.a,(.v (vB b9)),.a,.a,.a,.a,.a,.a,(.v (vB k0)),.a,.a,.a,.a,.a,(.v (vB (e7.Pool==e8.Pool))),(.v (vB m0)),.a,.a,.a,.a,.a,.a,(.v (vB n0)),.a,.a,.a,.a,.a,.a,(.v (vB o0)),.a,.a,.a,.a,.a,(.c (vB d2)),(.v (vB p0)),.a,.a,.a,.a,.a,(.c (vB i2)),(.v (vB q0)),.a,.a,.a,.a,.a,(.c (vB j2)),(.v (vB t0)),.a] (uo [2,3] [(4,vB t0)] [.k 2,.k 3]) (aG ((e7.Life==e8.Life)==true)<|aG ((e7.Life==e8.Life)==true)<|aH ((e7.Life==e8.Life)==true)<|aT (e7.Life==e8.Life)<|aB z1<|aG (b9==true)<|aG (b9==true)<|aH (b9==true)<|aT b9<|aB i1<|aG (k0==true)<|aG (k0==true)<|aC (fun hg:(k0==true)=true=>aC (gi (k0==true))<|aC (gi (k0==true))<|aC (congrArg (fun z=>V.c (.bool (z))) (Yu e7.Pool e8.Pool))<|aN)<|aT k0<|aB j1<|aG (m0==true)<|aG (m0==true)<|aC (fun hg:(m0==true)=true=>aC (gi (m0==true))<|aC (gi (m0==true))<|aC Wo<|aN)<|aT m0<|aB k1<|aG (n0==true)<|aG (n0==true)<|aC (fun hg:(n0==true)=true=>aC (gi (n0==true))<|aC (gi (n0==true))<|aC Wo<|aN)<|aT n0<|aB m1<|aG (o0==true)<|aG (o0==true)<|aC (c2 t1 BS)<|aT o0<|aB n1<|aG (p0==true)<|aG (p0==true)<|aC (c2 x1 BS)<|aT p0<|aB o1<|aG (q0==true)<|aG (q0==true)<|aC (c2 y1 BS)<|aT q0<|aB p1<|aN)<|hR<|nR (vB t0)<|Gw [.a] (u [] [(30,vB (!t0))]) (aN)<|Tn<|iC i0 (fun i0=>?_) (fun i0=>?_)
   ·refine Rg [.a] (sl 32 [(6,vB false)] []) (aN)<|hR<|qR<|Tr ?_
    obtain rfl:=y0 _ (sI i0).symm
    replace h:=Cy h
    exact Tr<|qR<|Tr<|bQ _ (kB h)
   refine hK<|qN<|Tn<|Ge [.a,.a] (u [] [(17,vI (Ab (j0+1))),(31,vI (Ab (j0+1)))]) (aN)<|Tn ⟨(Ab (j0+1)),(sI i0).symm,wT⟩
  refine hE<|Te ?_
  obtain rfl:=y0 _ (sI i0).symm
  replace h:=CZ h
  refine Te<|qX<|Tn ⟨(),h,wT⟩
 rintro _ x0
 replace x0:AJ=some r:=x0
 unfold AJ at x0
 exact Rg [.a] (sl 32 [(6,vB true)] []) (aN)<|hR<|bQ _ (kB x0)
def BW (a0:List (Al)) (a1:List (Al)):Option (Bool):=
 (A1 a0 a1).bind fun r1=>
 some r1
def FS (a0:List (Al)) (a1:List (Al)) (r:Bool):Prop:=Af Tryz.prog I0 29 [vL Ad a0,vL Ad a1, .c (.fn 30)] (· =vB r)
theorem FA {a0:List (Al)} {a1:List (Al)} {r:Bool} (h:BW a0 a1=some r):FS a0 a1 r:=by
 refine Af.bo Ae Tryz.func29 rfl Tryz.ntmps29 [.tmp 6] fun _ _ _ _=>?_
 unfold BW at h
 refine Gg [.a] (u [] []) (aN) ?_
 obtain⟨r1,i0,h⟩:=bS h
 exact Rg [.a,.a,.a,(.c (vB r1)),.a] (sl 11 [(6,vB r1)] []) (aC (BT i0)<|aN)<|hR<|bQ _ (kB h)
def BX (a0:List (DJ)) (a1:List (DJ)):Option (Bool):=
 (A7 a0 a1).bind fun r1=>
 some r1
def FT (a0:List (DJ)) (a1:List (DJ)) (r:Bool):Prop:=Af Tryz.prog I0 61 [vL Bl a0,vL Bl a1, .c (.fn 62)] (· =vB r)
theorem FB {a0:List (DJ)} {a1:List (DJ)} {r:Bool} (h:BX a0 a1=some r):FT a0 a1 r:=by
 refine Af.bo Ae Tryz.func61 rfl Tryz.ntmps61 [.tmp 6] fun _ _ _ _=>?_
 unfold BX at h
 refine Gg [.a] (u [] []) (aN) ?_
 obtain⟨r1,i0,h⟩:=bS h
 exact Rg [.a,.a,.a,(.c (vB r1)),.a] (sl 11 [(6,vB r1)] []) (aC (BU i0)<|aN)<|hR<|bQ _ (kB h)
def Mb (a0:AB):Option (AB):=
 (BG a0.Library).bind fun r1=>
 (BG (({a0 with Library:=r1}).Hand)).bind fun r2=>
 (BG (({{a0 with Library:=r1}with Hand:=r2}).Graveyard)).bind fun r3=>
 some ({{{a0 with Library:=r1}with Hand:=r2}with Graveyard:=r3})
def SZ (a0:AB) (r:AB):Prop:=Af Tryz.prog I0 70 [vA Ah a0] (· =vA Ah r)
theorem R3 {a0:AB} {r:AB} (h:Mb a0=some r):SZ a0 r:=by
 refine Af.bo Ae Tryz.func70 rfl Tryz.ntmps70 [.cell 2 73] fun _ _ _ _=>?_
 unfold Mb at h
 refine Rg [.a,.a] (sl 16 [(1,vP [1] (0)),(2,vP [2] (0))] [bx [2] [Aa 0,Aa 0,Aa 0,Aa (((⟨0,0,0,0,0,0⟩:A6 (Int))).x0),Aa (((⟨0,0,0,0,0,0⟩:A6 (Int))).x1),Aa (((⟨0,0,0,0,0,0⟩:A6 (Int))).x2),Aa (((⟨0,0,0,0,0,0⟩:A6 (Int))).x3),Aa (((⟨0,0,0,0,0,0⟩:A6 (Int))).x4),Aa (((⟨0,0,0,0,0,0⟩:A6 (Int))).x5),.bool false,.bool false,.nils,.nils,.nils],bx [1] (Ah a0)]) (aN) ?_
 obtain⟨r1,i0,h⟩:=bS h
 refine Gg [.a,.a,(.c (vL (eI .i64) r1)),.a,.a] (uo [] [] [.k 0,.e (bx [1] (Ah ({a0 with Library:=r1})))]) (aC (BV i0)<|aN) ?_
 obtain⟨r2,j0,h⟩:=bS h
 refine Gg [.a,.a,(.c (vL (eI .i64) r2)),.a,.a] (uo [] [] [.k 0,.e (bx [1] (Ah ({{a0 with Library:=r1}with Hand:=r2})))]) (aC (BV j0)<|aN) ?_
 obtain⟨r3,k0,h⟩:=bS h
 exact Gg [.a,.a,(.c (vL (eI .i64) r3)),.a,.a] (uo [] [] [.k 0,.e (bx [1] (Ah ({{{a0 with Library:=r1}with Hand:=r2}with Graveyard:=r3})))]) (aC (BV k0)<|aN)<|Gg [.a,.a] (uo [1] [] [.e (bx [2] (Ah ({{{a0 with Library:=r1}with Hand:=r2}with Graveyard:=r3})))]) (aN)<|hR<|bE (vA Ah ({{{a0 with Library:=r1}with Hand:=r2}with Graveyard:=r3})) (.agg (Ah ({{{a0 with Library:=r1}with Hand:=r2}with Graveyard:=r3}))) (congrArg (vA Ah) (sI h))
def Qv (a0:Ai) (a1:Int):Option (Al×Bool):=
 (Q7 a0 a1).bind fun r1=>
 (if(decide (r1<0))=true then
  some ((⟨0,0,0,0,0,false,false,false,false,0,(⟨0,0,0⟩:A3 (Int)),0,0,0,false,0,0⟩:Al),false)
 else
  (idx a0.Objects r1).bind fun e3=>
  some (e3,true))
def fC (a0:Ai) (a1:Int) (r:Al×Bool):Prop:=Af Tryz.prog I0 146 [vA Aj a0,vI a1] (· = .tup [vA Ad r.1,vB r.2])
theorem cz {a0:Ai} {a1:Int} {r:Al×Bool} (h:Qv a0 a1=some r):fC a0 a1 r:=by
 refine Af.bo Ae Tryz.func146 rfl Tryz.ntmps146 [.cell 4 63, .tmp 5] fun _ _ _ _=>?_
 unfold Qv at h
 refine Rg (nA 3) (sl 18 [(1,vI a1),(2,vP [2] (0)),(4,vP [4] (0))] [bx [4] [Aa 0,Aa 0,Aa 0,Aa 0,Aa 0,.bool false,.bool false,.bool false,.bool false,Aa 0,Aa (((⟨0,0,0⟩:A3 (Int))).x0),Aa (((⟨0,0,0⟩:A3 (Int))).x1),Aa (((⟨0,0,0⟩:A3 (Int))).x2),Aa 0,Aa 0,Aa 0,.bool false,Aa 0,Aa 0],bx [2] (Aj a0)]) (aN) ?_
 obtain⟨r1,j0,h⟩:=bS h
 refine Gg [.a,.a,(.c (vI r1)),.a] (u [1] [(6,vI r1)]) (aC (ZD j0)<|aN)<|hS<|Gg [.a,.a] (u [] [(11,vB (decide (r1<0)))]) (aN)<|iC h (fun h=>?_) (fun h=>?_)
 ·exact Gg (nA 3) (uo [2,6,11] [(5,vB false)] [.k 0]) (aC (And.intro trivial pM)<|aN)<|hR<|Tr<|bE (.tup [.agg [Aa 0,Aa 0,Aa 0,Aa 0,Aa 0,.bool false,.bool false,.bool false,.bool false,Aa 0,Aa (((⟨0,0,0⟩:A3 (Int))).x0),Aa (((⟨0,0,0⟩:A3 (Int))).x1),Aa (((⟨0,0,0⟩:A3 (Int))).x2),Aa 0,Aa 0,Aa 0,.bool false,Aa 0,Aa 0],vB false]) (.tup [.agg (Ad (⟨0,0,0,0,0,false,false,false,false,0,(⟨0,0,0⟩:A3 (Int)),0,0,0,false,0,0⟩:Al)),vB false]) (congrArg (fun(q:Al×Bool)=>(.tup [vA Ad q.1,vB q.2]:V)) (sI h))
 refine hK<|Tn ?_
 obtain⟨e3,i0,h⟩:=bS h
 exact Rg [.a,.a,.a,.a,(.v (vA Ad e3)),.a,.a] (sl 18 [(4,vP [4] (0)),(5,vB true)] [bx [4] (Ad e3)]) (aC (AI i0)<|aC (DI i0 Eh 0 19 true (vA Ad e3))<|aC (Eq.refl (vA Ad e3))<|aN)<|hR<|bE (.tup [vA Ad e3,vB true]) (.tup [.agg (Ad e3),vB true]) (congrArg (fun(q:Al×Bool)=>(.tup [vA Ad q.1,vB q.2]:V)) (sI h))
def Dd (a0:Ai) (a1:Int):Option (Bool):=
 (HD a1 (0:Int) (Ab ((a0.Players.length:Int) - (1:Int)))).bind fun r1=>
 some r1
def ZR (a0:Ai) (a1:Int) (r:Bool):Prop:=Af Tryz.prog I0 23 [vA Aj a0,vI a1] (· =vB r)
theorem FV {a0:Ai} {a1:Int} {r:Bool} (h:Dd a0 a1=some r):ZR a0 a1 r:=by
 refine Af.bo Ae Tryz.func23 rfl Tryz.ntmps23 [.tmp 4] fun _ _ _ _=>?_
 unfold Dd at h
 refine Gg [.a,.a] (uo [0] [(2,vP [2] (0))] [.e (bx [2] (Aj a0))]) (aN) ?_
 obtain⟨r1,i0,h⟩:=bS h
 exact Rg [.a,.a,.a,.a,.a,(.c (vB r1)),.a] (sl 11 [(4,vB r1)] []) (aC (Ee i0)<|aN)<|hR<|bQ _ (kB h)
def WK (a0:Al) (a1:Int) (a2:Int):Option (Bool):=
 (some (if(decide (a0.Id<1))=true then true else decide (a0.Card<0))).bind fun b1=>
 (some (if b1=true then true else decide (a1≤a0.Card))).bind fun b2=>
 (some (if b2=true then true else decide (a0.Owner<0))).bind fun b3=>
 (some (if b3=true then true else decide (a2≤a0.Owner))).bind fun b4=>
 (some (if b4=true then true else decide (a0.Control<0))).bind fun b5=>
 (some (if b5=true then true else decide (a2≤a0.Control))).bind fun b6=>
 (some (if b6=true then true else decide (a0.Zone<0))).bind fun b7=>
 (some (if b7=true then true else decide (5<a0.Zone))).bind fun b8=>
 (if b8=true then
  some false
 else
  (some (if(decide (a0.Damage<0))=true then true else decide (1000000<a0.Damage))).bind fun b10=>
  (some (if b10=true then true else decide (a0.Stamp<0))).bind fun b11=>
  (some (if b11=true then true else decide (1000000<a0.Stamp))).bind fun b12=>
  (some (if b12=true then true else decide (a0.Blocks<0))).bind fun b13=>
  (some (if b13=true then true else decide (1000000<a0.Blocks))).bind fun b14=>
  (some (if b14=true then true else decide (a0.Shield<0))).bind fun b15=>
  (some (if b15=true then true else decide (1000000<a0.Shield))).bind fun b16=>
  (if b16=true then
   some false
  else
   (WA a0.Counters).bind fun r18=>
   (some (if(!r18)=true then true else decide (a0.Copy<(-1:Int)))).bind fun b19=>
   (some (if b19=true then true else decide (a1≤a0.Copy))).bind fun b20=>
   (some (if b20=true then true else decide (a0.Attack<(-1:Int)))).bind fun b21=>
   (some (if b21=true then true else decide (a2≤a0.Attack))).bind fun b22=>
   (if b22=true then
    some false
   else
    (gd ((a0.Zone==0)==false) (SR a0)).bind fun r24=>
    (gd (((a0.Zone==0)==false)&&((a0==r24)==true)) (Q9 a0)).bind fun r25=>
    (some (if(a0==r24)=true then a0==r25 else false)).bind fun b26=>
    (some (if b26=true then !a0.Tapped else false)).bind fun b27=>
    (some (if b27=true then !a0.Sick else false)).bind fun b28=>
    (some (if b28=true then a0.Counters==(⟨0,0,0⟩:A3 (Int))else false)).bind fun b29=>
    (some (if(a0.Zone==0)=true then true else b29)).bind fun b30=>
    some b30)))
def lL (a0:Al) (a1:Int) (a2:Int) (r:Bool):Prop:=Af Tryz.prog I0 51 [vA Ad a0,vI a1,vI a2] (· =vB r)
theorem jG {a0:Al} {a1:Int} {a2:Int} {r:Bool} (h:WK a0 a1 a2=some r):lL a0 a1 a2 r:=by
 refine Af.bo Ae Tryz.func51 rfl Tryz.ntmps51 [.tmp 6] fun _ _ _ _=>?_
 unfold WK at h
 refine Gg [.a,.a] (uo [0] [(3,vP [3] (0))] [.e (bx [3] (Ad a0))]) (aN)<|hS ?_
 obtain⟨b1,d3,b2,i3,b3,j3,b4,k3,h⟩:=D2 h
 obtain⟨b5,m3,b6,n3,b7,o3,b8,p3,h⟩:=D2 h
 refine Gg [.a,.a,.a,.a,.a,.a,.a,(.v (vB b1)),.a,.a,.a,.a,.a,(.v (vB b2)),.a,.a,.a,.a,(.v (vB b3)),.a,.a,.a,.a,.a,(.v (vB b4)),.a,.a,.a,.a,(.v (vB b5)),.a,.a,.a,.a,.a,(.v (vB b6)),.a,.a,.a,.a,(.v (vB b7)),.a,.a,.a,.a,(.v (vB b8))] (u [] [(52,vB b8)]) (aG ((decide (a0.Id<1))==false)<|aG ((decide (a0.Id<1))==false)<|aF (decide (a0.Id<1))<|aB d3<|aG (b1==false)<|aH (b1==false)<|aF b1<|aB i3<|aG (b2==false)<|aG (b2==false)<|aF b2<|aB j3<|aG (b3==false)<|aH (b3==false)<|aF b3<|aB k3<|aG (b4==false)<|aG (b4==false)<|aF b4<|aB m3<|aG (b5==false)<|aH (b5==false)<|aF b5<|aB n3<|aG (b6==false)<|aG (b6==false)<|aF b6<|aB o3<|aG (b7==false)<|aG (b7==false)<|aF b7<|aB p3<|aN)<|iC h (fun h=>?_) (fun h=>?_)
 ·exact Rg [.a] (sl 148 [(6,vB false)] []) (aN)<|hR<|Tr<|bQ _ (kB h)
 refine hK<|Tn<|hS ?_
 obtain⟨k0,o1,m0,p1,n0,q1,o0,t1,h⟩:=D2 h
 obtain⟨p0,x1,q0,y1,k1,z1,h⟩:=I8 h
 refine Gg [.a,.a,.a,.a,.a,.a,.a,(.v (vB k0)),.a,.a,.a,.a,(.v (vB m0)),.a,.a,.a,.a,(.v (vB n0)),.a,.a,.a,.a,(.v (vB o0)),.a,.a,.a,.a,(.v (vB p0)),.a,.a,.a,.a,(.v (vB q0)),.a,.a,.a,.a,(.v (vB k1))] (u [52] [(90,vB k1)]) (aG ((decide (a0.Damage<0))==false)<|aG ((decide (a0.Damage<0))==false)<|aF (decide (a0.Damage<0))<|aB o1<|aG (k0==false)<|aG (k0==false)<|aF k0<|aB p1<|aG (m0==false)<|aG (m0==false)<|aF m0<|aB q1<|aG (n0==false)<|aG (n0==false)<|aF n0<|aB t1<|aG (o0==false)<|aG (o0==false)<|aF o0<|aB x1<|aG (p0==false)<|aG (p0==false)<|aF p0<|aB y1<|aG (q0==false)<|aG (q0==false)<|aF q0<|aB z1<|aN)<|iC h (fun h=>?_) (fun h=>?_)
 ·exact Rg [.a] (sl 148 [(6,vB false)] []) (aN)<|hR<|Tr<|bQ _ (kB h)
 refine hK<|Tn<|hS ?_
 obtain⟨i1,t2,t0,d2,x0,i2,y0,j2,h⟩:=D2 h
 obtain⟨m1,k2,h⟩:=bS h
 refine Gg [.a,.a,(.c (vB i1)),.a,.a,.a,.a,.a,(.v (vB t0)),.a,.a,.a,.a,.a,(.v (vB x0)),.a,.a,.a,.a,(.v (vB y0)),.a,.a,.a,.a,.a,(.v (vB m1))] (u [1,2,90] [(116,vB m1)]) (aC (jz t2)<|aG ((!i1)==false)<|aG ((!i1)==false)<|aF (!i1)<|aB d2<|aG (t0==false)<|aH (t0==false)<|aF t0<|aB i2<|aG (x0==false)<|aG (x0==false)<|aF x0<|aB j2<|aG (y0==false)<|aH (y0==false)<|aF y0<|aB k2<|aN)<|iC h (fun h=>?_) (fun h=>?_)
 ·exact Rg [.a] (sl 148 [(6,vB false)] []) (aN)<|hR<|Tr<|bQ _ (kB h)
 refine hK<|Tn ?_
 obtain⟨j0,x2,j1,y2,z0,m2,d1,n2,h⟩:=D2 h
 obtain⟨i0,o2,z2,p2,n1,q2,h⟩:=I8 h
 exact Rq BF [.a,.a,.a,.a,.a,.a,(.c (vA Ad j0)),(.v (vB (a0==j0))),.a,.a,.a,(.c (vA Ad j1)),(.v (vB (a0==j1))),(.v (vB z0)),.a,.a,.a,.a,(.v (vB d1)),.a,.a,.a,.a,(.v (vB i0)),.a,.a,.a,.a,(.v (vB (a0.Counters==(⟨0,0,0⟩:A3 (Int))))),(.v (vB z2)),(.v (vB n1)),.a] (sl 148 [(6,vB n1)] []) (aC (c1 x2 cg)<|aC (fun hg:((a0.Zone==0)==false)=true=>aC (gi ((a0.Zone==0)==false))<|aC (gi ((a0.Zone==0)==false))<|aC (congrArg (fun z=>V.c (.bool (z))) (gY a0 j0))<|aN)<|aG ((a0.Zone==0)==false)<|aC (c1 y2 ZE)<|aC (fun hg:(((a0.Zone==0)==false)&&((a0==j0)==true))=true=>aC (gi (((a0.Zone==0)==false)&&((a0==j0)==true)))<|aC (gi (((a0.Zone==0)==false)&&((a0==j0)==true)))<|aC (congrArg (fun z=>V.c (.bool (z))) (gY a0 j1))<|aN)<|aC (fun hg:((a0.Zone==0)==false)=true=>aC (gi ((a0.Zone==0)==false))<|aC (fun q:(a0==j0)=true=>(gA hg (gT q)))<|aB m2<|aN)<|aG ((a0.Zone==0)==false)<|aG (((a0.Zone==0)==false)&&(z0==true))<|aG (((a0.Zone==0)==false)&&(z0==true))<|aC (fun hg:((a0.Zone==0)==false)=true=>aC (gi ((a0.Zone==0)==false))<|aC (fun q:z0=true=>(gA hg (gT q)))<|aB n2<|aN)<|aG ((a0.Zone==0)==false)<|aG (((a0.Zone==0)==false)&&(d1==true))<|aG (((a0.Zone==0)==false)&&(d1==true))<|aC (fun hg:((a0.Zone==0)==false)=true=>aC (gi ((a0.Zone==0)==false))<|aC (fun q:d1=true=>(gA hg (gT q)))<|aB o2<|aN)<|aG ((a0.Zone==0)==false)<|aG (((a0.Zone==0)==false)&&(i0==true))<|aC (fun hg:(((a0.Zone==0)==false)&&(i0==true))=true=>aC (And.intro trivial pL)<|aN)<|aC (fun hg:(((a0.Zone==0)==false)&&(i0==true))=true=>aC (gi (((a0.Zone==0)==false)&&(i0==true)))<|aC (gi (((a0.Zone==0)==false)&&(i0==true)))<|aC (congrArg (fun z=>V.c (.bool (z))) (pD a0.Counters (⟨0,0,0⟩:A3 (Int))))<|aN)<|aC (fun hg:((a0.Zone==0)==false)=true=>aC (gi ((a0.Zone==0)==false))<|aC (fun q:i0=true=>(gA hg (gT q)))<|aB p2<|aN)<|aF (a0.Zone==0)<|aB q2<|aN)<|hR<|bQ _ (kB h)
def Qw (a0:Ai) (a1:Int) (a2:Int):Option ((List (Int))):=
 (if(a1==0)=true then
  (Kp a0.Battlefield).bind fun r2=>
  some r2
 else
  (if(a1==4)=true then
   (Kp a0.Exile).bind fun r4=>
   some r4
  else
   (some (if(decide (a2<0))=true then true else decide ((a0.Players.length:Int)≤a2))).bind fun b5=>
   (if b5=true then
    some ([]:List (Int))
   else
    (if(a1==1)=true then
     (idx a0.Players a2).bind fun e8=>
     (Kp e8.Hand).bind fun r9=>
     some r9
    else
     (if(a1==2)=true then
      (idx a0.Players a2).bind fun e11=>
      (Kp e11.Library).bind fun r12=>
      some r12
     else
      (if(a1==3)=true then
       (idx a0.Players a2).bind fun e14=>
       (Kp e14.Graveyard).bind fun r15=>
       some r15
      else
       some ([]:List (Int))))))))
def fD (a0:Ai) (a1:Int) (a2:Int) (r:(List (Int))):Prop:=Af Tryz.prog I0 105 [vA Aj a0,vI a1,vI a2] (· =vL (eI .i64) r)
theorem cA {a0:Ai} {a1:Int} {a2:Int} {r:(List (Int))} (h:Qw a0 a1 a2=some r):fD a0 a1 a2 r:=by
 refine Af.bo Ae Tryz.func105 rfl Tryz.ntmps105 [.tmp 6] fun _ _ _ _=>?_
 unfold Qw at h
 refine Gg [.a,.a] (uo [0] [(3,vP [3] (0))] [.e (bx [3] (Aj a0))]) (aN)<|hS<|Gg [.a] (u [] [(7,vI a1)]) (aN)<|hB<|Gg [.a,.a] (u [] [(8,vB (a1==0))]) (aN)<|iC h (fun h=>?_) (fun h=>?_)
 ·obtain⟨r2,y0,h⟩:=bS h
  exact Rg [.a,.a,(.c (vL (eI .i64) r2)),.a] (sl 55 [(6,vL (eI .i64) r2)] []) (aC (LN y0)<|aN)<|hR<|qR<|Tr<|bQ (vL (eI .i64) r2) (congrArg (vL (eI .i64)) (sI h))
 refine Gg [.a,.a] (u [7,8] [(13,vB (a1==4))]) (aN)<|iC h (fun h=>?_) (fun h=>?_)
 ·obtain⟨r4,z0,h⟩:=bS h
  exact Rg [.a,.a,(.c (vL (eI .i64) r4)),.a] (sl 55 [(6,vL (eI .i64) r4)] []) (aC (LN z0)<|aN)<|hR<|qR<|Tr<|bQ (vL (eI .i64) r4) (congrArg (vL (eI .i64)) (sI h))
 refine hK<|qN<|Tn<|hS ?_
 obtain⟨b5,x0,h⟩:=bS h
 refine Gg [.a,.a,.a,.a,.a,.a,.a,.a,(.v (vB b5))] (u [13] [(26,vB b5)]) (aG ((decide (a2<0))==false)<|aG ((decide (a2<0))==false)<|aH ((decide (a2<0))==false)<|aF (decide (a2<0))<|aB x0<|aN)<|iC h (fun h=>?_) (fun h=>?_)
 ·exact Rg [.a] (sl 55 [(6,vO [6])] [Bp [6] 3 1 (eI .i64) ([]:List (Int))]) (aN)<|hR<|Tr<|bE (vO [6]) (vL (eI .i64) ([]:List (Int))) (congrArg (vL (eI .i64)) (sI h))
 refine hK<|Tn<|hS<|Gg [.a] (u [1,26] [(27,vI a1)]) (aN)<|hB<|Gg [.a,.a] (u [] [(28,vB (a1==1))]) (aN)<|iC h (fun h=>?_) (fun h=>?_)
 ·obtain⟨e8,p0,r9,d1,h⟩:=Ex h
  exact Rg [.a,.a,.a,.a,.a,(.v (vL (eI .i64) e8.Hand)),(.c (vL (eI .i64) r9)),.a] (sl 55 [(6,vL (eI .i64) r9)] []) (aC (AI p0)<|aC (DI p0 Cp 12 1 false (vL (eI .i64) e8.Hand))<|aC (Eq.refl (vL (eI .i64) e8.Hand))<|aC (LN d1)<|aN)<|hR<|qR<|Tr<|bQ (vL (eI .i64) r9) (congrArg (vL (eI .i64)) (sI h))
 refine Rg [.a,.a] (sl 55 [(2,vI a2),(3,vP [3] (0)),(27,vI a1),(37,vB (a1==2))] [bx [3] (Aj a0)]) (aN)<|iC h (fun h=>?_) (fun h=>?_)
 ·obtain⟨i0,k0,n0,q0,h⟩:=Ex h
  exact Rg [.a,.a,.a,.a,.a,(.v (vL (eI .i64) i0.Library)),(.c (vL (eI .i64) n0)),.a] (sl 55 [(6,vL (eI .i64) n0)] []) (aC (AI k0)<|aC (DI k0 Cp 11 1 false (vL (eI .i64) i0.Library))<|aC (Eq.refl (vL (eI .i64) i0.Library))<|aC (LN q0)<|aN)<|hR<|qR<|Tr<|bQ (vL (eI .i64) n0) (congrArg (vL (eI .i64)) (sI h))
 refine Gg [.a,.a] (u [27,37] [(46,vB (a1==3))]) (aN)<|iC h (fun h=>?_) (fun h=>?_)
 ·obtain⟨j0,m0,o0,t0,h⟩:=Ex h
  exact Rg [.a,.a,.a,.a,.a,(.v (vL (eI .i64) j0.Graveyard)),(.c (vL (eI .i64) o0)),.a] (sl 55 [(6,vL (eI .i64) o0)] []) (aC (AI m0)<|aC (DI m0 Cp 13 1 false (vL (eI .i64) j0.Graveyard))<|aC (Eq.refl (vL (eI .i64) j0.Graveyard))<|aC (LN t0)<|aN)<|hR<|qR<|Tr<|bQ (vL (eI .i64) o0) (congrArg (vL (eI .i64)) (sI h))
 exact hK<|qN<|Tn<|Rg [.a] (sl 55 [(6,vO [6])] [Bp [6] 3 1 (eI .i64) ([]:List (Int))]) (aN)<|hR<|bE (vO [6]) (vL (eI .i64) ([]:List (Int))) (congrArg (vL (eI .i64)) (sI h))
def WL (a0:Ar) (a1:Ar):Option (Bool):=
 (some (if(a0.Op==a1.Op)=true then a0.Ref==a1.Ref else false)).bind fun b1=>
 (some (if b1=true then a0.Amount==a1.Amount else false)).bind fun b2=>
 (some (if b2=true then a0.Counter==a1.Counter else false)).bind fun b3=>
 (some (if b3=true then a0.Zone==a1.Zone else false)).bind fun b4=>
 (some (if b4=true then a0.Card==a1.Card else false)).bind fun b5=>
 (some (if b5=true then a0.Filter==a1.Filter else false)).bind fun b6=>
 (some (if b6=true then a0.Pool==a1.Pool else false)).bind fun b7=>
 (gd (b7==true) (Iq a0.Mods a1.Mods)).bind fun r8=>
 (some (if b7=true then r8 else false)).bind fun b9=>
 some b9
def fE (a0:Ar) (a1:Ar) (r:Bool):Prop:=Af Tryz.prog I0 194 [vA An a0,vA An a1] (· =vB r)
theorem cB {a0:Ar} {a1:Ar} {r:Bool} (h:WL a0 a1=some r):fE a0 a1 r:=by
 refine Af.bo Ae Tryz.func194 rfl Tryz.ntmps194 [.tmp 4] fun _ _ _ _=>?_
 unfold WL at h
 refine Rg (nA 3) (sl 66 [(2,vP [2] (0)),(3,vP [3] (0))] [bx [3] (An a1),bx [2] (An a0)]) (aN) ?_
 obtain⟨b1,i0,b2,j0,b3,k0,b4,m0,h⟩:=D2 h
 obtain⟨b5,n0,b6,o0,b7,p0,r8,t0,h⟩:=D2 h
 obtain⟨b9,q0,h⟩:=bS h
 exact Rg [.a,.a,.a,.a,.a,.a,.a,.a,.a,.a,(.v (vB (a0.Ref==a1.Ref))),(.v (vB b1)),.a,.a,.a,.a,.a,(.v (vB (a0.Amount==a1.Amount))),(.v (vB b2)),.a,.a,.a,.a,.a,.a,(.v (vB b3)),.a,.a,.a,.a,.a,.a,(.v (vB b4)),.a,.a,.a,.a,.a,.a,(.v (vB b5)),.a,.a,.a,.a,.a,(.v (vB (a0.Filter==a1.Filter))),(.v (vB b6)),.a,.a,.a,.a,.a,(.v (vB (a0.Pool==a1.Pool))),(.v (vB b7)),.a,.a,.a,.a,.a,(.c (vB r8)),(.v (vB b9)),.a] (sl 66 [(4,vB b9)] []) (aG ((a0.Op==a1.Op)==true)<|aG ((a0.Op==a1.Op)==true)<|aC (fun hg:((a0.Op==a1.Op)==true)=true=>aC (gi ((a0.Op==a1.Op)==true))<|aC (gi ((a0.Op==a1.Op)==true))<|aC (congrArg (fun z=>V.c (.bool (z))) (Zq a0.Ref a1.Ref))<|aN)<|aT (a0.Op==a1.Op)<|aB i0<|aG (b1==true)<|aG (b1==true)<|aC (fun hg:(b1==true)=true=>aC (gi (b1==true))<|aC (gi (b1==true))<|aC (congrArg (fun z=>V.c (.bool (z))) (Ty a0.Amount a1.Amount))<|aN)<|aT b1<|aB j0<|aG (b2==true)<|aG (b2==true)<|aH (b2==true)<|aT b2<|aB k0<|aG (b3==true)<|aG (b3==true)<|aH (b3==true)<|aT b3<|aB m0<|aG (b4==true)<|aG (b4==true)<|aH (b4==true)<|aT b4<|aB n0<|aG (b5==true)<|aG (b5==true)<|aC (fun hg:(b5==true)=true=>aC (gi (b5==true))<|aC (gi (b5==true))<|aC (congrArg (fun z=>V.c (.bool (z))) (Nb a0.Filter a1.Filter))<|aN)<|aT b5<|aB o0<|aG (b6==true)<|aG (b6==true)<|aC (fun hg:(b6==true)=true=>aC (gi (b6==true))<|aC (gi (b6==true))<|aC (congrArg (fun z=>V.c (.bool (z))) (Yu a0.Pool a1.Pool))<|aN)<|aT b6<|aB p0<|aG (b7==true)<|aG (b7==true)<|aC (c2 t0 PK)<|aT b7<|aB q0<|aN)<|hR<|bQ _ (kB h)
def Qx (a0:Int):Option ((List UInt8)):=
 (some (if(decide (a0<0))=true then true else decide (16<a0))).bind fun b1=>
 (if b1=true then
  some ([]:List UInt8)
 else
  (TJ).bind fun r3=>
  (idx r3 a0).bind fun e4=>
  some e4)
def fF (a0:Int) (r:(List UInt8)):Prop:=Af Tryz.prog I0 211 [vI a0] (· =vS r)
theorem Uz {a0:Int} {r:(List UInt8)} (h:Qx a0=some r):fF a0 r:=by
 refine Af.bo Ae Tryz.func211 rfl Tryz.ntmps211 [.tmp 2] fun _ _ _ _=>?_
 unfold Qx at h
 refine Gg [.a] (u [] []) (aN)<|hS ?_
 obtain⟨b1,j0,h⟩:=bS h
 refine Gg [.a,.a,.a,.a,.a,(.v (vB b1))] (u [] [(8,vB b1)]) (aG ((decide (a0<0))==false)<|aF (decide (a0<0))<|aB j0<|aN)<|iC h (fun h=>?_) (fun h=>?_)
 ·exact Rg [.a] (sl 13 [(2,vS ([]:List UInt8))] []) (aN)<|hR<|Tr<|bQ _ (congrArg vS (sI h))
 refine hK<|Tn ?_
 obtain⟨r3,k0,e4,i0,h⟩:=Ex h
 exact Rg [(.c (vL eS r3)),.a,.a,(.v (vS e4)),.a] (sl 13 [(2,vS e4)] []) (aC (ZI k0)<|aC (AI i0)<|aC (DI i0 OB 0 1 false (vS e4))<|aC (Eq.refl (vS e4))<|aN)<|hR<|bQ _ (congrArg vS (sI h))
def FC (a0:Int):Option ((List UInt8)):=
 (if(decide (a0<0))=true then
  (Px (IntKind.u64.wrap (0 - (IntKind.u64.wrap (a0))))).bind fun r2=>
  (cat nW r2).bind fun s3=>
  some s3
 else
  (Px (IntKind.u64.wrap (a0))).bind fun r4=>
  some r4)
def fG (a0:Int) (r:(List UInt8)):Prop:=Af Tryz.prog I0 168 [vI a0] (· =vS r)
theorem J3 {a0:Int} {r:(List UInt8)} (h:FC a0=some r):fG a0 r:=by
 refine Af.bo Ae Tryz.func168 rfl Tryz.ntmps168 [.tmp 2] fun _ _ _ _=>?_
 unfold FC at h
 refine Gg [.a] (u [] []) (aN)<|hS<|Gg [.a,.a] (u [] [(4,vB (decide (a0<0)))]) (aN)<|iC h (fun h=>?_) (fun h=>?_)
 ·obtain⟨r2,j0,s3,i0,h⟩:=Ex h
  exact Rg [.a,.a,.a,(.c (vS r2)),(.v (vS s3)),.a] (sl 13 [(2,vS s3)] []) (aC (Rv j0)<|aC (By i0)<|aC (congrArg (fun z=>V.c (.str z)) (Bz i0).symm)<|aN)<|hR<|Tr<|bQ _ (congrArg vS (sI h))
 refine hK<|Tn ?_
 obtain⟨r4,k0,h⟩:=bS h
 exact Rg [.a,.a,(.c (vS r4)),.a] (sl 13 [(2,vS r4)] []) (aC (Rv k0)<|aN)<|hR<|bQ _ (congrArg vS (sI h))
end Go.PL
