/- Functions of the program, as partial functions in Lean, with proofs. -/
import Derived.Test.YtelbpfkjhndccaaGreatDoorPlSbB
import Derived.Test.YtelbpfkjhndccaaGreatDoorPlSbF0
import Derived.Test.YtelbpfkjhndccaaGreatDoorPlSbF1
import Derived.Test.YtelbpfkjhndccaaGreatDoorPlSbF2
namespace Go.PL
open Go Go.RowKit Go.Proofs
set_option maxRecDepth 100000
set_option linter.all false
set_option maxHeartbeats 4000000
attribute [local irreducible] Ai B4 BL
def Hu (a0:List (Aw)):Option (Bool):=
 some (decide ((a0.length:Int)≤20))
def Ft (a0:List (Aw)) (i_t3_3:Int):Option ((Int)⊕(Unit⊕Unit)):=
 (if(decide (i_t3_3<(a0.length:Int)))=true then
  (idx a0 i_t3_3).bind fun e6=>
  (L1 e6).bind fun r7=>
  (if(!r7)=true then
   some (.inr (.inr ()))
  else
   some (.inl (Ab (i_t3_3+1))))
 else
  some (.inr (.inl ())))
def HZ (a0:List (Aw)):Option (Bool):=
 (iter (fun(v:Int)=>Ft a0 v) FU (0:Int)).bind (Sum.elim (fun o0=>Hu a0) (fun o1=>some false))
def Sf (a0:List (Aw)) (r:Bool):Prop:=Ah Tryz.prog I0 57 [vL Az a0] (· =vB r)
theorem Q1 {a0:List (Aw)} {r:Bool} (h:HZ a0=some r):Sf a0 r:=by
 refine Ah.bo Ag Tryz.func57 rfl Tryz.ntmps57 [.tmp 2] fun _ _ _ _=>?_
 unfold HZ at h
 refine Gg [.a] (u [] []) (aN)<|Gj (X:=Unit) (fun v=>(u [] [])) (fun v=>Hu a0=some r) ?_ ?_
 ·refine Gg [.a] (u [] [(3,vI 0)]) (aN)<|hB ?_
  obtain⟨t0,o0,h⟩:=bS h
  refine Gi (fun(v:Int)=>(u [] [(3,vI v)])) o0 (wT) ?_
  rintro j0 q0 i0 m0
  replace i0:Ft a0 j0=some q0:=i0
  unfold Ft at i0
  refine hS<|Gg (nA 4) (u [] [(7,vB (decide (j0<(a0.length:Int))))]) (aN)<|iC i0 (fun i0=>?_) (fun i0=>?_)
  ·refine hK<|Tn<|hS<|hB ?_
   obtain⟨e6,n0,r7,p0,i0⟩:=JX i0
   refine Gg [.a,.a,.a,(.v (vA Az e6)),(.c (vB r7)),.a] (u [7] [(15,vB (!r7))]) (aC (Bm n0)<|aC (GN n0 Mp 0 64 true (vA Az e6))<|aC (Eq.refl (vA Az e6))<|aC (Xn p0)<|aN)<|iC i0 (fun i0=>?_) (fun i0=>?_)
   ·refine Rg [.a] (sl 19 [(2,vB false)] []) (aN)<|hR<|qR<|Tr ?_
    obtain rfl:=m0 _ (sI i0).symm
    replace h:=EL h
    exact Tr<|qR<|Tr<|bQ _ (kB h)
   refine hK<|qN<|Tn<|Ge (nA 3) (u [] [(3,vI (Ab (j0+1))),(8,vI j0),(9,vI (Ab (j0+1)))]) (aN)<|Tn ⟨(Ab (j0+1)),(sI i0).symm,wT⟩
  refine hE<|Te ?_
  obtain rfl:=m0 _ (sI i0).symm
  replace h:=Fa h
  refine Te<|qX<|Tn ⟨(),h,wT⟩
 rintro _ k0
 replace k0:Hu a0=some r:=k0
 unfold Hu at k0
 exact Rg (nA 4) (sl 19 [(2,vB (decide ((a0.length:Int)≤20)))] []) (aN)<|hR<|bQ _ (kB k0)
def Fu (a0:Aj):Option (Bool):=
 (Cs (a0.Players.length:Int) (2:Int) (4:Int)).bind fun r2=>
 some r2
def C8 (a0:Aj) (vt8_4:Int):Option ((Int)⊕(Unit⊕Unit)):=
 (if(decide (vt8_4<(a0.Players.length:Int)))=true then
  (idx a0.Players vt8_4).bind fun e7=>
  (Cs e7.Life (-1000000:Int) (1000000:Int)).bind fun r8=>
  (gd ((!r8)==false) (Cs e7.Venom (0:Int) (1000000:Int))).bind fun r9=>
  (some (if(!r8)=true then true else !r9)).bind fun b10=>
  (gd (b10==false) (Cs e7.Lands (0:Int) (1000000:Int))).bind fun r11=>
  (some (if b10=true then true else !r11)).bind fun b12=>
  (gd (b12==false) (KS e7.Pool)).bind fun r13=>
  (some (if b12=true then true else !r13)).bind fun b14=>
  (if b14=true then
   some (.inr (.inr ()))
  else
   some (.inl (Ab (vt8_4+1))))
 else
  some (.inr (.inl ())))
def H0 (a0:Aj):Option (Bool):=
 (iter (fun(v:Int)=>C8 a0 v) FU (0:Int)).bind (Sum.elim (fun o0=>Fu a0) (fun o1=>some false))
def Sg (a0:Aj) (r:Bool):Prop:=Ah Tryz.prog I0 15 [vA Am a0] (· =vB r)
theorem Q3 {a0:Aj} {r:Bool} (h:H0 a0=some r):Sg a0 r:=by
 refine Ah.bo Ag Tryz.func15 rfl Tryz.ntmps15 [.tmp 2] fun _ _ _ _=>?_
 unfold H0 at h
 refine Rg [.a,.a] (sl 39 [(1,vP [1] (0))] [bx [1] (Am a0)]) (aN)<|Gj (X:=Unit) (fun v=>(u [] [])) (fun v=>Fu a0=some r) ?_ ?_
 ·refine Gg (nA 4) (u [] [(6,vL Ad a0.Players),(7,vI (a0.Players.length:Int)),(8,vI 0)]) (aN)<|hB ?_
  obtain⟨q1,z0,h⟩:=bS h
  refine Gi (fun(v:Int)=>(u [] [(8,vI v)])) z0 (wT) ?_
  rintro j0 p1 i0 o0
  replace i0:C8 a0 j0=some p1:=i0
  unfold C8 at i0
  refine Gg [.a] (u [] [(9,vB (decide (j0<(a0.Players.length:Int))))]) (aN)<|hS<|iC i0 (fun i0=>?_) (fun i0=>?_)
  ·refine hK<|Tn<|hS<|hB ?_
   obtain⟨e7,q0,i0⟩:=bS i0
   refine Gg [.a,(.v (vA Ad e7)),.a,.a] (uo [9] [(4,vP [4] (0))] [.e (bx [4] (Ad e7)),.k 0]) (aC (Bm q0)<|aC (GN q0 C1 0 14 true (vA Ad e7))<|aC (Eq.refl (vA Ad e7))<|aN) ?_
   obtain⟨r8,k1,r9,m1,m0,t0,n1,d1,i0⟩:=Ij i0
   obtain⟨n0,x0,o1,i1,p0,y0,i0⟩:=M9 i0
   refine Gg [.a,.a,(.c (vB r8)),.a,.a,.a,.a,(.c (vB r9)),.a,(.v (vB m0)),.a,.a,.a,(.c (vB n1)),.a,(.v (vB n0)),.a,.a,.a,(.c (vB o1)),.a,(.v (vB p0))] (uo [4] [(33,vB p0)] [.k 1]) (aC (BH k1)<|aG ((!r8)==false)<|aC (c1 m1 BH)<|aG ((!r8)==false)<|aF (!r8)<|aB t0<|aG (m0==false)<|aC (c1 d1 BH)<|aG (m0==false)<|aF m0<|aB x0<|aG (n0==false)<|aC (c1 i1 Vm)<|aG (n0==false)<|aF n0<|aB y0<|aN)<|iC i0 (fun i0=>?_) (fun i0=>?_)
   ·refine Rg [.a] (sl 39 [(2,vB false)] []) (aN)<|hR<|qR<|Tr ?_
    obtain rfl:=o0 _ (sI i0).symm
    replace h:=EL h
    exact Tr<|qR<|Tr<|bQ _ (kB h)
   refine hK<|qN<|Tn<|Ge [.a,.a] (u [] [(8,vI (Ab (j0+1))),(34,vI (Ab (j0+1)))]) (aN)<|Tn ⟨(Ab (j0+1)),(sI i0).symm,wT⟩
  refine hE<|Te ?_
  obtain rfl:=o0 _ (sI i0).symm
  replace h:=Fa h
  refine Te<|qX<|Tn ⟨(),h,wT⟩
 rintro _ k0
 replace k0:Fu a0=some r:=k0
 unfold Fu at k0
 obtain⟨r2,j1,k0⟩:=bS k0
 exact Rg [.a,.a,.a,(.c (vB r2)),.a] (sl 39 [(2,vB r2)] []) (aC (BH j1)<|aN)<|hR<|bQ _ (kB k0)
def IG (a0:Ao) (a1:Int) (a2:Int):Option (Bool):=
 (some (if(decide (a0.Id<1))=true then true else decide (a0.Card<0))).bind fun b1=>
 (some (if b1=true then true else decide (a1≤a0.Card))).bind fun b2=>
 (some (if b2=true then true else decide (a0.Owner<0))).bind fun b3=>
 (some (if b3=true then true else decide (a2≤a0.Owner))).bind fun b4=>
 (some (if b4=true then true else decide (a0.Control<0))).bind fun b5=>
 (some (if b5=true then true else decide (a2≤a0.Control))).bind fun b6=>
 (gd (b6==false) (Hj a0.Zone (0:Int) (5:Int))).bind fun r7=>
 (some (if b6=true then true else !r7)).bind fun b8=>
 (if b8=true then
  some false
 else
  (Hj a0.Damage (0:Int) (1000000:Int)).bind fun r10=>
  (gd ((!r10)==false) (Hj a0.Stamp (0:Int) (1000000:Int))).bind fun r11=>
  (some (if(!r10)=true then true else !r11)).bind fun b12=>
  (gd (b12==false) (Hj a0.Blocks (0:Int) (1000000:Int))).bind fun r13=>
  (some (if b12=true then true else !r13)).bind fun b14=>
  (gd (b14==false) (Hj a0.Shield (0:Int) (1000000:Int))).bind fun r15=>
  (some (if b14=true then true else !r15)).bind fun b16=>
  (gd (b16==false) (KT a0.Counters)).bind fun r17=>
  (some (if b16=true then true else !r17)).bind fun b18=>
  (if b18=true then
   some false
  else
   (some (if(decide (a0.Copy<(-1:Int)))=true then true else decide (a1≤a0.Copy))).bind fun b20=>
   (some (if b20=true then true else decide (a0.Attack<(-1:Int)))).bind fun b21=>
   (some (if b21=true then true else decide (a2≤a0.Attack))).bind fun b22=>
   (if b22=true then
    some false
   else
    (if(a0.Zone==0)=true then
     some true
    else
     (IT a0).bind fun r25=>
     (JG r25).bind fun r26=>
     (some (if(a0==r26)=true then !a0.Tapped else false)).bind fun b27=>
     (some (if b27=true then !a0.Sick else false)).bind fun b28=>
     (some (if b28=true then a0.Counters==(⟨0,0,0⟩:A3 (Int))else false)).bind fun b29=>
     some b29))))
def Y6 (a0:Ao) (a1:Int) (a2:Int) (r:Bool):Prop:=Ah Tryz.prog I0 42 [vA Ac a0,vI a1,vI a2] (· =vB r)
theorem Xz {a0:Ao} {a1:Int} {a2:Int} {r:Bool} (h:IG a0 a1 a2=some r):Y6 a0 a1 a2 r:=by
 refine Ah.bo Ag Tryz.func42 rfl Tryz.ntmps42 [.tmp 6] fun _ _ _ _=>?_
 unfold IG at h
 refine Gg [.a,.a] (uo [0] [(3,vP [3] (0))] [.e (bx [3] (Ac a0))]) (aN)<|hS ?_
 obtain⟨b1,m2,b2,n2,b3,o2,b4,p2,h⟩:=Ij h
 obtain⟨b5,q2,b6,t2,r7,y2,b8,x2,h⟩:=Ij h
 refine Gg [.a,.a,.a,.a,.a,.a,.a,(.v (vB b1)),.a,.a,.a,.a,.a,(.v (vB b2)),.a,.a,.a,.a,(.v (vB b3)),.a,.a,.a,.a,.a,(.v (vB b4)),.a,.a,.a,.a,(.v (vB b5)),.a,.a,.a,.a,.a,(.v (vB b6)),.a,.a,.a,(.c (vB r7)),.a,(.v (vB b8))] (u [] [(48,vB b8)]) (aG ((decide (a0.Id<1))==false)<|aG ((decide (a0.Id<1))==false)<|aF (decide (a0.Id<1))<|aB m2<|aG (b1==false)<|aH (b1==false)<|aF b1<|aB n2<|aG (b2==false)<|aG (b2==false)<|aF b2<|aB o2<|aG (b3==false)<|aH (b3==false)<|aF b3<|aB p2<|aG (b4==false)<|aG (b4==false)<|aF b4<|aB q2<|aG (b5==false)<|aH (b5==false)<|aF b5<|aB t2<|aG (b6==false)<|aC (c1 y2 IS)<|aG (b6==false)<|aF b6<|aB x2<|aN)<|iC h (fun h=>?_) (fun h=>?_)
 ·exact Rg [.a] (sl 121 [(6,vB false)] []) (aN)<|hR<|Tr<|bQ _ (kB h)
 refine hK<|Tn<|hS ?_
 obtain⟨t0,x1,z2,y1,k0,d1,d3,z1,h⟩:=Ij h
 obtain⟨m0,i1,i3,d2,n0,j1,j3,i2,h⟩:=Ij h
 obtain⟨x0,k1,h⟩:=bS h
 refine Gg [.a,.a,(.c (vB t0)),.a,.a,.a,.a,(.c (vB z2)),.a,(.v (vB k0)),.a,.a,.a,(.c (vB d3)),.a,(.v (vB m0)),.a,.a,.a,(.c (vB i3)),.a,(.v (vB n0)),.a,.a,.a,(.c (vB j3)),.a,(.v (vB x0))] (u [48] [(76,vB x0)]) (aC (IS x1)<|aG ((!t0)==false)<|aC (c1 y1 IS)<|aG ((!t0)==false)<|aF (!t0)<|aB d1<|aG (k0==false)<|aC (c1 z1 IS)<|aG (k0==false)<|aF k0<|aB i1<|aG (m0==false)<|aC (c1 d2 IS)<|aG (m0==false)<|aF m0<|aB j1<|aG (n0==false)<|aC (c1 i2 Vn)<|aG (n0==false)<|aF n0<|aB k1<|aN)<|iC h (fun h=>?_) (fun h=>?_)
 ·exact Rg [.a] (sl 121 [(6,vB false)] []) (aN)<|hR<|Tr<|bQ _ (kB h)
 refine hK<|Tn<|hS ?_
 obtain⟨o0,m1,p0,n1,y0,o1,h⟩:=M9 h
 refine Gg [.a,.a,.a,.a,.a,.a,.a,.a,(.v (vB o0)),.a,.a,.a,.a,(.v (vB p0)),.a,.a,.a,.a,.a,(.v (vB y0))] (u [1,2,76] [(96,vB y0)]) (aG ((decide (a0.Copy<(-1:Int)))==false)<|aH ((decide (a0.Copy<(-1:Int)))==false)<|aF (decide (a0.Copy<(-1:Int)))<|aB m1<|aG (o0==false)<|aG (o0==false)<|aF o0<|aB n1<|aG (p0==false)<|aH (p0==false)<|aF p0<|aB o1<|aN)<|iC h (fun h=>?_) (fun h=>?_)
 ·exact Rg [.a] (sl 121 [(6,vB false)] []) (aN)<|hR<|Tr<|bQ _ (kB h)
 refine hK<|Tn<|hS<|Gg (nA 3) (u [96] [(99,vB (a0.Zone==0))]) (aN)<|iC h (fun h=>?_) (fun h=>?_)
 ·exact Rg [.a] (sl 121 [(6,vB true)] []) (aN)<|hR<|Tr<|bQ _ (kB h)
 refine hK<|Tn ?_
 obtain⟨k3,j2,j0,k2,q0,p1,i0,q1,h⟩:=Ij h
 obtain⟨z0,t1,h⟩:=bS h
 exact Rq DV [.a,.a,(.c (vA Ac k3)),(.c (vA Ac j0)),(.v (vB (a0==j0))),.a,.a,.a,.a,(.v (vB q0)),.a,.a,.a,.a,(.v (vB i0)),.a,.a,.a,.a,(.v (vB (a0.Counters==(⟨0,0,0⟩:A3 (Int))))),(.v (vB z0)),.a] (sl 121 [(6,vB z0)] []) (aC (R9 j2)<|aC (Uf k2)<|aC (congrArg (fun z=>V.c (.bool (z))) (jt a0 j0))<|aG ((a0==j0)==true)<|aG ((a0==j0)==true)<|aT (a0==j0)<|aB p1<|aG (q0==true)<|aG (q0==true)<|aT q0<|aB q1<|aG (i0==true)<|aC (fun hg:(i0==true)=true=>aC (And.intro trivial mX)<|aN)<|aC (fun hg:(i0==true)=true=>aC (gi (i0==true))<|aC (gi (i0==true))<|aC (congrArg (fun z=>V.c (.bool (z))) (mJ a0.Counters (⟨0,0,0⟩:A3 (Int))))<|aN)<|aT i0<|aB t1<|aN)<|hR<|bQ _ (kB h)
def D5 (a0:Int) (a1:Int):Option (Int):=
 (HY a0).bind fun r1=>
 (HY a1).bind fun r2=>
 (if r1=true then
  (if r2=true then
   some (0:Int)
  else
   some (-1:Int))
 else
  (if r2=true then
   some (1:Int)
  else
   (if(decide (a0<a1))=true then
    some (-1:Int)
   else
    (if(decide (a1<a0))=true then
     some (1:Int)
    else
     some (0:Int)))))
def P9 (a0:Int) (a1:Int) (r:Int):Prop:=Ah Tryz.prog I0 68 [vI a0,vI a1] (· =vI r)
theorem Iu {a0:Int} {a1:Int} {r:Int} (h:D5 a0 a1=some r):P9 a0 a1 r:=by
 refine Ah.bo Ag Tryz.func68 rfl Tryz.ntmps68 [.tmp 4] fun _ _ _ _=>?_
 unfold D5 at h
 refine Gg [.a] (u [] []) (aN) ?_
 obtain⟨r1,i0,h⟩:=bS h
 refine Gg [.a,(.c (vB r1)),.a] (u [] [(5,vB r1)]) (aC (L2 i0)<|aN) ?_
 obtain⟨r2,j0,h⟩:=bS h
 refine Gg [.a,(.c (vB r2)),.a] (u [] [(6,vB r2)]) (aC (L2 j0)<|aN)<|hS<|Gg [.a] (u [5] [(11,vB r1)]) (aN)<|iC h (fun h=>?_) (fun h=>?_)
 ·refine hS<|Rg [.a] (sl 20 [(12,vB r2)] []) (aN)<|iC h (fun h=>?_) (fun h=>?_)
  ·exact Rg [.a] (sl 20 [(4,vI 0)] []) (aN)<|hR<|Tr<|Tr<|bQ _ (congrArg vI (sI h))
  exact hK<|Tn<|Rg [.a] (sl 20 [(4,vI (-1:Int))] []) (aN)<|hR<|Tr<|bQ _ (congrArg vI (sI h))
 refine hK<|Tn<|hS<|Gg [.a] (u [6,11] [(13,vB r2)]) (aN)<|iC h (fun h=>?_) (fun h=>?_)
 ·exact Rg [.a] (sl 20 [(4,vI 1)] []) (aN)<|hR<|Tr<|bQ _ (congrArg vI (sI h))
 refine hK<|Tn<|hS<|Gg (nA 3) (u [13] [(16,vB (decide (a0<a1)))]) (aN)<|iC h (fun h=>?_) (fun h=>?_)
 ·exact Rg [.a] (sl 20 [(4,vI (-1:Int))] []) (aN)<|hR<|Tr<|bQ _ (congrArg vI (sI h))
 refine hK<|Tn<|hS<|Rg (nA 3) (sl 20 [(19,vB (decide (a1<a0)))] []) (aN)<|iC h (fun h=>?_) (fun h=>?_)
 ·exact Rg [.a] (sl 20 [(4,vI 1)] []) (aN)<|hR<|Tr<|bQ _ (congrArg vI (sI h))
 exact hK<|Tn<|Rg [.a] (sl 20 [(4,vI 0)] []) (aN)<|hR<|bQ _ (congrArg vI (sI h))
def Bd (a0:List (Bx)) (a1:List (Bx)):Option (Bool):=
 (AV a0 a1).bind fun r1=>
 some r1
def GG (a0:List (Bx)) (a1:List (Bx)) (r:Bool):Prop:=Ah Tryz.prog I0 65 [vL AM a0,vL AM a1, .c (.fn 66)] (· =vB r)
theorem B5 {a0:List (Bx)} {a1:List (Bx)} {r:Bool} (h:Bd a0 a1=some r):GG a0 a1 r:=by
 refine Ah.bo Ag Tryz.func65 rfl Tryz.ntmps65 [.tmp 6] fun _ _ _ _=>?_
 unfold Bd at h
 refine Gg [.a] (u [] []) (aN) ?_
 obtain⟨r1,i0,h⟩:=bS h
 exact Rg [.a,.a,.a,(.c (vB r1)),.a] (sl 11 [(6,vB r1)] []) (aC (CE i0)<|aN)<|hR<|bQ _ (kB h)
def Br (a0:List (C0)) (a1:List (C0)):Option (Bool):=
 (AK a0 a1).bind fun r1=>
 some r1
def F1 (a0:List (C0)) (a1:List (C0)) (r:Bool):Prop:=Ah Tryz.prog I0 85 [vL Bj a0,vL Bj a1, .c (.fn 86)] (· =vB r)
theorem FM {a0:List (C0)} {a1:List (C0)} {r:Bool} (h:Br a0 a1=some r):F1 a0 a1 r:=by
 refine Ah.bo Ag Tryz.func85 rfl Tryz.ntmps85 [.tmp 6] fun _ _ _ _=>?_
 unfold Br at h
 refine Gg [.a] (u [] []) (aN) ?_
 obtain⟨r1,i0,h⟩:=bS h
 exact Rg [.a,.a,.a,(.c (vB r1)),.a] (sl 11 [(6,vB r1)] []) (aC (Cp i0)<|aN)<|hR<|bQ _ (kB h)
def Ji (a0:List UInt8):Option (Bool):=
 (Oc a0).bind fun r1=>
 (gd (r1==true) (C6 a0 (2:Int))).bind fun r2=>
 (some (if r1=true then r2==0 else false)).bind fun b3=>
 (gd (b3==true) (Dh a0 (6:Int))).bind fun r4=>
 (some (if b3=true then r4==0 else false)).bind fun b5=>
 some b5
def XA (a0:List UInt8) (r:Bool):Prop:=Ah Tryz.prog I0 126 [vS a0] (· =vB r)
theorem OF {a0:List UInt8} {r:Bool} (h:Ji a0=some r):XA a0 r:=by
 refine Ah.bo Ag Tryz.func126 rfl Tryz.ntmps126 [.tmp 2] fun _ _ _ _=>?_
 unfold Ji at h
 refine Gg [.a] (u [] []) (aN) ?_
 obtain⟨r1,k0,r2,m0,b3,i0,r4,n0,h⟩:=Ij h
 obtain⟨b5,j0,h⟩:=bS h
 exact Rg [.a,(.c (vB r1)),.a,.a,(.c (vI r2)),.a,(.v (vB b3)),.a,.a,(.c (vI r4)),.a,(.v (vB b5)),.a] (sl 15 [(2,vB b5)] []) (aC (Uh k0)<|aC (c1 m0 KV)<|aG (r1==true)<|aT r1<|aB i0<|aC (c1 n0 K9)<|aG (b3==true)<|aT b3<|aB j0<|aN)<|hR<|bQ _ (kB h)
def EG (a0:Ae):Option (Bool):=
 (BE a0.Kind (3:Int)).bind fun r1=>
 (gd (r1==true) (BE a0.N (1000000:Int))).bind fun r2=>
 (some (if r1=true then r2 else false)).bind fun b3=>
 (some (if(a0.Kind != 0)=true then true else a0.N==0)).bind fun b4=>
 (some (if b3=true then b4 else false)).bind fun b5=>
 some b5
def Q4 (a0:Ae) (r:Bool):Prop:=Ah Tryz.prog I0 127 [vA Hh a0] (· =vB r)
theorem IV {a0:Ae} {r:Bool} (h:EG a0=some r):Q4 a0 r:=by
 refine Ah.bo Ag Tryz.func127 rfl Tryz.ntmps127 [.tmp 2] fun _ _ _ _=>?_
 unfold EG at h
 refine Rg [.a,.a] (sl 21 [(1,vP [1] (0))] [bx [1] (Hh a0)]) (aN) ?_
 obtain⟨r1,m0,r2,n0,b3,i0,b4,j0,h⟩:=Ij h
 obtain⟨b5,k0,h⟩:=bS h
 exact Rg [.a,.a,(.c (vB r1)),.a,.a,.a,(.c (vB r2)),(.v (vB b3)),.a,.a,.a,.a,.a,.a,.a,.a,(.v (vB b4)),(.v (vB b5)),.a] (sl 21 [(2,vB b5)] []) (aC (BI m0)<|aG (r1==true)<|aC (c1 n0 BI)<|aT r1<|aB i0<|aG (b3==true)<|aG (b3==true)<|aG (b3==true)<|aG ((b3==true)&&((a0.Kind != 0)==false))<|aG ((b3==true)&&((a0.Kind != 0)==false))<|aC (fun hg:(b3==true)=true=>aC (gi (b3==true))<|aC (fun q:(a0.Kind != 0)=false=>(gA hg (gF q)))<|aB j0<|aN)<|aT b3<|aB k0<|aN)<|hR<|bQ _ (kB h)
def Dd (l5_1:List (List UInt8)):Option ((List (List UInt8))):=
 some l5_1
def El (r3:(List (Int))) (vt11_6:Int) (l5_7:List (List UInt8)):Option ((Int×(List (List UInt8)))⊕((List (List UInt8)))):=
 (if(decide (vt11_6<(r3.length:Int)))=true then
  (idx r3 vt11_6).bind fun e11=>
  (idx (⟨Df,DW,ED,Fk,Fl,GY⟩:A6 (List UInt8)).l e11).bind fun e12=>
  (app 16 l5_7 ([e12]:List (List UInt8))).bind fun l13=>
  some (.inl ((Ab (vt11_6+1)),l13))
 else
  some (.inr l5_7))
def Fd (a0:Int):Option ((List (List UInt8))):=
 (G3 a0).bind fun r3=>
 (iter (fun(v:Int×(List (List UInt8)))=>El r3 v.1 v.2) FU ((0:Int),([]:List (List UInt8)))).bind (fun o0=>Dd o0)
def K1 (a0:Int) (r:(List (List UInt8))):Prop:=Ah Tryz.prog I0 186 [vI a0, .c (.fn 173)] (· =vL eS r)
theorem Ke {a0:Int} {r:(List (List UInt8))} (h:Fd a0=some r):K1 a0 r:=by
 refine Ah.bo Ag Tryz.func186 rfl Tryz.ntmps186 [.tmp 4] fun _ _ _ _=>?_
 unfold Fd at h
 refine Gg [.a] (u [] []) (aN)<|Gg [.a] (uo [] [(5,vO [5])] [.e (Bl [5] 9 1 eS ([]:List (List UInt8)))]) (aN)<|Sj (X:=(List (List UInt8))) (fun v=>(sl 23 [(5,vO [5])] [Bl [5] 9 1 eS v])) (fun v=>Dd v=some r) ?_ ?_
 ·obtain⟨r3,i1,h⟩:=bS h
  refine Gg [.a,(.c (vL (eI .i64) r3)),.a,.a] (u [0] [(9,vL (eI .i64) r3),(10,vI (r3.length:Int)),(11,vI 0)]) (aC (G4 i1)<|aN)<|hB ?_
  obtain⟨k1,z0,h⟩:=bS h
  refine Gi (fun(v:Int×(List (List UInt8)))=>(uo [] [(11,vI v.1)] [.e (Bl [5] 9 1 eS v.2)])) z0 (wT) ?_
  rintro⟨k0,n0⟩ j1 i0 d1
  replace i0:El r3 k0 n0=some j1:=i0
  unfold El at i0
  refine Gg [.a] (u [] [(12,vB (decide (k0<(r3.length:Int))))]) (aN)<|hS<|iC i0 (fun i0=>?_) (fun i0=>?_)
  ·refine hK<|Tn<|hS<|hB ?_
   obtain⟨j0,q0,i0⟩:=bS i0
   refine Gg [.a,(.v (vI j0)),.a] (u [12] [(7,vI j0)]) (aC (Bm q0)<|aC (GN q0 (I1 .i64) 0 1 false (vI j0))<|aC (Eq.refl (vI j0))<|aN)<|hO<|Gp 3 (nA 3) (u [] [(15,vO [5]),(16,.c (.fn 173)),(17,vI j0)]) (aN)<|rI rfl rfl<|Ei 18 [vI j0] [] Tryz.func173 Tryz.ntmps173 [.tmp 2] rfl rfl rfl rfl fun _ _ _ _=>Rg [.a] (sg 6 [(0,vI j0)] [Bl [5] 9 1 eS n0] 23 [(1,.c (.fn 173)),(5,vO [5]),(7,vI j0),(9,vL (eI .i64) r3),(10,vI (r3.length:Int)),(11,vI k0),(15,vO [5]),(16,.c (.fn 173)),(17,vI j0)] [18]) (aN) ?_
   obtain⟨m0,t0,i0⟩:=bS i0
   refine Gg [.a,.a,(.v (vS m0)),.a] (u [0] [(2,vS m0)]) (aC (And.intro (show True∧(True∧(True∧(True∧(True∧(True∧True)))))from⟨trivial,⟨trivial,⟨trivial,⟨trivial,⟨trivial,⟨trivial,trivial⟩⟩⟩⟩⟩⟩) fh)<|aC (show (0≤j0∧j0<((6:Nat):Int))∧(j0).toNat *1+1≤(T6 (eS) (⟨Df,DW,ED,Fk,Fl,GY⟩:A6 (List UInt8))).length ∧Me false ((j0).toNat *1) 1 (T6 (eS) (⟨Df,DW,ED,Fk,Fl,GY⟩:A6 (List UInt8)))=vS m0 from⟨Bm t0,I5 (e:=eS) (N:=1) (l:=(⟨Df,DW,ED,Fk,Fl,GY⟩:A6 (List UInt8)).l) (base:=0) (pre:=[]) (post:=[]) (by kernel_rfl) rfl t0 Vi (o:=0) (by simp) (by decide) (by decide) (by kernel_rfl)⟩)<|aC (Eq.refl (vS m0))<|aN)<|hR<|nR (vS m0) ?_
   obtain⟨p0,x0,i0⟩:=bS i0
   refine Gw [.a,(.e p0.length (p0.flatMap (eS))),.a] (uo [15] [(19,vO [19]),(20,vO [5])] [.e (Bl [5] 9 1 eS p0),.e (Bl [19] 9 1 eS ([m0]:List (List UInt8)))]) (aC (M4 x0 eS)<|aC (Du x0)<|aN)<|qN<|Tn<|Ge [.a,.a] (u [] [(11,vI (Ab (k0+1))),(21,vI (Ab (k0+1)))]) (aN)<|Tn ⟨((Ab (k0+1)),p0),(sI i0).symm,wT⟩
  refine hE<|Te ?_
  obtain rfl:=d1 _ (sI i0).symm
  refine Te<|qX<|Tn ⟨n0,h,wT⟩
 rintro y0 o0
 replace o0:Dd y0=some r:=o0
 unfold Dd at o0
 exact Gg [.a,.a] (u [5] [(4,vO [5])]) (aN)<|hR<|bE (vO [5]) (vL eS y0) (congrArg (vL eS) (sI o0))
def Ju (l3_4:List (List UInt8)):Option ((List UInt8)):=
 (PK l3_4 Lg).bind fun r6=>
 some r6
def Hb (vt12_9:Int) (l3_14:List (List UInt8)):Option ((Int×(List (List UInt8)))⊕((List (List UInt8)))):=
 some (.inl ((Ab (vt12_9+1)),l3_14))
def K2 (a0:Int) (vt12_9:Int) (l3_10:List (List UInt8)):Option ((Int×(List (List UInt8)))⊕((List (List UInt8)))):=
 (if(decide (vt12_9<5))=true then
  (idx (⟨KL,KM,KN,KO,KP⟩:A5 (List UInt8)).l vt12_9).bind fun e16=>
  (need (0≤vt12_9)).bind fun u17=>
  (if((Nc .i64 (Int.fdiv a0 (2 ^ (min (vt12_9).toNat (IntKind.i64).bits))) (1:Int))==(1:Int))=true then
   (app 16 l3_10 ([e16]:List (List UInt8))).bind fun l19=>
   Hb vt12_9 l19
  else
   Hb vt12_9 l3_10)
 else
  some (.inr l3_10))
def Iv (a0:Int):Option ((List UInt8)):=
 (ND a0).bind fun r1=>
 (if(!r1)=true then
  some ([]:List UInt8)
 else
  (if(a0==0)=true then
   some LY
  else
   (iter (fun(v:Int×(List (List UInt8)))=>K2 a0 v.1 v.2) FU ((0:Int),([]:List (List UInt8)))).bind (fun o0=>Ju o0)))
def XB (a0:Int) (r:(List UInt8)):Prop:=Ah Tryz.prog I0 143 [vI a0] (· =vS r)
theorem OG {a0:Int} {r:(List UInt8)} (h:Iv a0=some r):XB a0 r:=by
 refine Ah.bo Ag Tryz.func143 rfl Tryz.ntmps143 [.tmp 2] fun _ _ _ _=>?_
 unfold Iv at h
 refine Gg [.a] (u [] []) (aN)<|hS ?_
 obtain⟨r1,k1,h⟩:=bS h
 refine Gg [.a,(.c (vB r1)),.a] (u [] [(8,vB (!r1))]) (aC (YX k1)<|aN)<|iC h (fun h=>?_) (fun h=>?_)
 ·exact Rg [.a] (sl 28 [(2,vS ([]:List UInt8))] []) (aN)<|hR<|Tr<|bQ _ (congrArg vS (sI h))
 refine hK<|Tn<|hS<|Gg [.a,.a] (u [8] [(10,vB (a0==0))]) (aN)<|iC h (fun h=>?_) (fun h=>?_)
 ·exact Rg [.a] (sl 28 [(2,vS LY)] []) (aN)<|hR<|Tr<|bQ _ (congrArg vS (sI h))
 refine hK<|Tn<|Rg [.a] (sl 28 [(0,vI a0),(3,vO [3])] [Bl [3] 9 1 eS ([]:List (List UInt8))]) (aN)<|Sj (X:=(List (List UInt8))) (fun v=>(sl 28 [(3,vO [3])] [Bl [3] 9 1 eS v])) (fun v=>Ju v=some r) ?_ ?_
 ·refine hS<|hO<|Gp 0 [] (u [] []) (aN)<|Run.inl rfl rfl (EB.gAll (g:=1) (tab:=Ee) rfl QT ?_)
  refine Gw [.a] (u [] [(12,vI 0)]) (aN)<|Tn<|hB ?_
  obtain⟨n1,z0,h⟩:=bS h
  refine Gi (fun(v:Int×(List (List UInt8)))=>(uo [] [(12,vI v.1)] [.e (Bl [3] 9 1 eS v.2)])) z0 (wT) ?_
  rintro⟨j0,o0⟩ p0 i0 d1
  replace i0:K2 a0 j0 o0=some p0:=i0
  unfold K2 at i0
  refine Gg [.a] (u [] [(13,vB (decide (j0<5)))]) (aN)<|hS<|iC i0 (fun i0=>?_) (fun i0=>?_)
  ·refine hK<|Tn<|Gj (X:=(List (List UInt8))) (fun v=>(uo [13] [] [.e (Bl [3] 9 1 eS v)])) (fun v=>Hb j0 v=some p0) ?_ ?_
   ·refine hB ?_
    obtain⟨k0,x0,i0⟩:=bS i0
    refine Gg [.a,(.v (vS k0)),.a,.a] (u [13] [(4,vI j0),(5,vS k0)]) (aC (show (0≤j0∧j0<((5:Nat):Int))∧(j0).toNat *1+1≤(dW (eS) (⟨KL,KM,KN,KO,KP⟩:A5 (List UInt8))).length ∧Me false ((j0).toNat *1) 1 (dW (eS) (⟨KL,KM,KN,KO,KP⟩:A5 (List UInt8)))=vS k0 from⟨Bm x0,I5 (e:=eS) (N:=1) (l:=(⟨KL,KM,KN,KO,KP⟩:A5 (List UInt8)).l) (base:=0) (pre:=[]) (post:=[]) (by kernel_rfl) rfl x0 Vi (o:=0) (by simp) (by decide) (by decide) (by kernel_rfl)⟩)<|aC (Eq.refl (vS k0))<|aN) ?_
    obtain⟨o1,i1,i0⟩:=bS i0
    refine Gg (nA 5) (u [4] [(20,vB ((Nc .i64 (Int.fdiv a0 (2 ^ (min (j0).toNat (IntKind.i64).bits))) (1:Int))==(1:Int)))]) (aC (GU i1)<|aN)<|iC i0 (fun i0=>?_) (fun i0=>?_)
    ·obtain⟨q0,y0,i0⟩:=bS i0
     refine Ge [.a,.a,.a,(.e q0.length (q0.flatMap (eS))),.a] (uo [] [(22,vS k0),(23,vO [23]),(24,vO [3])] [.e (Bl [3] 9 1 eS q0),.e (Bl [23] 9 1 eS ([k0]:List (List UInt8)))]) (aC (M4 y0 eS)<|aC (Du y0)<|aN)<|qN<|Tn ⟨q0,i0,wT⟩
    refine hK<|qN<|Tn ⟨o0,i0,wT⟩
   rintro t0 n0
   replace n0:Hb j0 t0=some p0:=n0
   unfold Hb at n0
   refine Ge [.a,.a] (u [] [(12,vI (Ab (j0+1))),(25,vI (Ab (j0+1)))]) (aN)<|Tn ⟨((Ab (j0+1)),t0),(sI n0).symm,wT⟩
  refine hE<|Te ?_
  obtain rfl:=d1 _ (sI i0).symm
  refine Te<|qX<|Tn ⟨o0,h,wT⟩
 rintro j1 m0
 replace m0:Ju j1=some r:=m0
 unfold Ju at m0
 obtain⟨r6,m1,m0⟩:=bS m0
 exact Rg [.a,(.c (vS r6)),.a] (sl 28 [(2,vS r6)] []) (aC (Xj m1)<|aN)<|hR<|bQ _ (congrArg vS (sI m0))
def F7 (kind_t3_4:List UInt8):Option ((List UInt8)):=
 (Cw ([kind_t3_4,LZ]:List (List UInt8))).bind fun r6=>
 (cat r6 NC).bind fun s7=>
 some s7
def F8 (kind_t3_8:List UInt8):Option ((List UInt8)):=
 (Cw ([kind_t3_8,Jc]:List (List UInt8))).bind fun r10=>
 (cat r10 NA).bind fun s11=>
 some s11
def Kf (a0:Int):Option ((List UInt8)):=
 (some (if(decide (a0<0))=true then true else decide (17≤a0))).bind fun b1=>
 (if b1=true then
  some ([]:List UInt8)
 else
  (need (0≤a0)).bind fun u3=>
  (if((Ab ((1:Int)*2 ^ (min (a0).toNat (IntKind.i64).bits)))==(1:Int))=true then
   some Il
  else
   (if((Ab ((1:Int)*2 ^ (min (a0).toNat (IntKind.i64).bits)))==(2:Int))=true then
    some Ja
   else
    (if((Ab ((1:Int)*2 ^ (min (a0).toNat (IntKind.i64).bits)))==(4:Int))=true then
     some Jb
    else
     (if((Ab ((1:Int)*2 ^ (min (a0).toNat (IntKind.i64).bits)))==(8:Int))=true then
      some FT
     else
      (if((Ab ((1:Int)*2 ^ (min (a0).toNat (IntKind.i64).bits)))==(16:Int))=true then
       some GZ
      else
       (if((Ab ((1:Int)*2 ^ (min (a0).toNat (IntKind.i64).bits)))==(32:Int))=true then
        F8 IC
       else
        (if((Ab ((1:Int)*2 ^ (min (a0).toNat (IntKind.i64).bits)))==(64:Int))=true then
         F8 ([]:List UInt8)
        else
         (if((Ab ((1:Int)*2 ^ (min (a0).toNat (IntKind.i64).bits)))==(128:Int))=true then
          some Im
         else
          (if((Ab ((1:Int)*2 ^ (min (a0).toNat (IntKind.i64).bits)))==(256:Int))=true then
           some FV
          else
           (if((Ab ((1:Int)*2 ^ (min (a0).toNat (IntKind.i64).bits)))==(512:Int))=true then
            some In
           else
            (if((Ab ((1:Int)*2 ^ (min (a0).toNat (IntKind.i64).bits)))==(1024:Int))=true then
             some FW
            else
             (if((Ab ((1:Int)*2 ^ (min (a0).toNat (IntKind.i64).bits)))==(2048:Int))=true then
              some Io
             else
              (if((Ab ((1:Int)*2 ^ (min (a0).toNat (IntKind.i64).bits)))==(4096:Int))=true then
               some Ip
              else
               (if((Ab ((1:Int)*2 ^ (min (a0).toNat (IntKind.i64).bits)))==(8192:Int))=true then
                some G0
               else
                (if((Ab ((1:Int)*2 ^ (min (a0).toNat (IntKind.i64).bits)))==(16384:Int))=true then
                 F7 NB
                else
                 (if((Ab ((1:Int)*2 ^ (min (a0).toNat (IntKind.i64).bits)))==(65536:Int))=true then
                  F7 ([]:List UInt8)
                 else
                  some FX)))))))))))))))))
def Ut (a0:Int) (r:(List UInt8)):Prop:=Ah Tryz.prog I0 179 [vI a0] (· =vS r)
theorem Sh {a0:Int} {r:(List UInt8)} (h:Kf a0=some r):Ut a0 r:=by
 refine Ah.bo Ag Tryz.func179 rfl Tryz.ntmps179 [.tmp 2] fun _ _ _ _=>?_
 unfold Kf at h
 refine Gg [.a] (u [] []) (aN)<|hS ?_
 obtain⟨b1,t0,h⟩:=bS h
 refine Gg [.a,.a,.a,.a,.a,(.v (vB b1))] (u [] [(9,vB b1)]) (aG ((decide (a0<0))==false)<|aF (decide (a0<0))<|aB t0<|aN)<|iC h (fun h=>?_) (fun h=>?_)
 ·exact Rg [.a] (sl 52 [(2,vS ([]:List UInt8))] []) (aN)<|hR<|Tr<|bQ _ (congrArg vS (sI h))
 refine hK<|Tn<|Gg [.a] (u [9] [(3,vS ([]:List UInt8))]) (aN)<|hS ?_
 obtain⟨u3,y0,h⟩:=bS h
 refine Gg [.a,.a] (u [0] [(11,vI (Ab ((1:Int)*2 ^ (min (a0).toNat (IntKind.i64).bits))))]) (aC (GU y0)<|aN)<|hB<|Sj (X:=(List UInt8)) (fun v=>(sl 52 [(3,vS v)] [])) (fun v=>F7 v=some r) ?_ ?_
 ·refine hB<|hS<|hB<|hS<|hB<|hS<|hB<|hS<|hB<|hS<|hB<|hS<|hB<|hS<|hB<|hS<|hB<|Sj (X:=(List UInt8)) (fun v=>(sl 52 [(3,vS v)] [])) (fun v=>F8 v=some r) ?_ ?_
  ·refine hB<|hS<|hB<|hS<|hB<|hS<|hB<|hS<|hB<|hS<|hB<|hS<|hB<|hS<|hS<|Gg [.a,.a] (u [] [(12,vB ((Ab ((1:Int)*2 ^ (min (a0).toNat (IntKind.i64).bits)))==(1:Int)))]) (aN)<|iC h (fun h=>?_) (fun h=>?_)
   ·exact hE<|Te<|Te<|qX<|Tn<|hS<|Rg [.a] (sl 52 [(2,vS Il)] []) (aN)<|hR<|Tr<|qR<|Tr<|qR<|Tr<|qR<|Tr<|qR<|Tr<|qR<|Tr<|qR<|Tr<|qR<|Tr<|qR<|Tr<|qR<|Tr<|qR<|Tr<|qR<|Tr<|qR<|Tr<|qR<|Tr<|qR<|Tr<|qR<|Tr<|qR<|Tr<|bQ _ (congrArg vS (sI h))
   refine hK<|Tn<|hS<|Gg [.a,.a] (u [12] [(14,vB ((Ab ((1:Int)*2 ^ (min (a0).toNat (IntKind.i64).bits)))==(2:Int)))]) (aN)<|iC h (fun h=>?_) (fun h=>?_)
   ·exact hE<|Te<|Te<|qY<|Te<|qX<|Tn<|hS<|Rg [.a] (sl 52 [(2,vS Ja)] []) (aN)<|hR<|Tr<|qR<|Tr<|qR<|Tr<|qR<|Tr<|qR<|Tr<|qR<|Tr<|qR<|Tr<|qR<|Tr<|qR<|Tr<|qR<|Tr<|qR<|Tr<|qR<|Tr<|qR<|Tr<|qR<|Tr<|qR<|Tr<|qR<|Tr<|bQ _ (congrArg vS (sI h))
   refine hK<|Tn<|hS<|Gg [.a,.a] (u [14] [(16,vB ((Ab ((1:Int)*2 ^ (min (a0).toNat (IntKind.i64).bits)))==(4:Int)))]) (aN)<|iC h (fun h=>?_) (fun h=>?_)
   ·exact hE<|Te<|Te<|qY<|Te<|qY<|Te<|qX<|Tn<|hS<|Rg [.a] (sl 52 [(2,vS Jb)] []) (aN)<|hR<|Tr<|qR<|Tr<|qR<|Tr<|qR<|Tr<|qR<|Tr<|qR<|Tr<|qR<|Tr<|qR<|Tr<|qR<|Tr<|qR<|Tr<|qR<|Tr<|qR<|Tr<|qR<|Tr<|qR<|Tr<|qR<|Tr<|bQ _ (congrArg vS (sI h))
   refine hK<|Tn<|hS<|Rg [.a,.a] (sl 52 [(3,vS ([]:List UInt8)),(11,vI (Ab ((1:Int)*2 ^ (min (a0).toNat (IntKind.i64).bits)))),(18,vB ((Ab ((1:Int)*2 ^ (min (a0).toNat (IntKind.i64).bits)))==(8:Int)))] []) (aN)<|iC h (fun h=>?_) (fun h=>?_)
   ·exact hE<|Te<|Te<|qY<|Te<|qY<|Te<|qY<|Te<|qX<|Tn<|hS<|Rg [.a] (sl 52 [(2,vS FT)] []) (aN)<|hR<|Tr<|qR<|Tr<|qR<|Tr<|qR<|Tr<|qR<|Tr<|qR<|Tr<|qR<|Tr<|qR<|Tr<|qR<|Tr<|qR<|Tr<|qR<|Tr<|qR<|Tr<|qR<|Tr<|qR<|Tr<|bQ _ (congrArg vS (sI h))
   refine hK<|Tn<|hS<|Gg [.a,.a] (u [18] [(20,vB ((Ab ((1:Int)*2 ^ (min (a0).toNat (IntKind.i64).bits)))==(16:Int)))]) (aN)<|iC h (fun h=>?_) (fun h=>?_)
   ·exact hE<|Te<|Te<|qY<|Te<|qY<|Te<|qY<|Te<|qY<|Te<|qX<|Tn<|hS<|Rg [.a] (sl 52 [(2,vS GZ)] []) (aN)<|hR<|Tr<|qR<|Tr<|qR<|Tr<|qR<|Tr<|qR<|Tr<|qR<|Tr<|qR<|Tr<|qR<|Tr<|qR<|Tr<|qR<|Tr<|qR<|Tr<|qR<|Tr<|qR<|Tr<|bQ _ (congrArg vS (sI h))
   refine hK<|Tn<|hS<|Gg [.a,.a] (u [20] [(22,vB ((Ab ((1:Int)*2 ^ (min (a0).toNat (IntKind.i64).bits)))==(32:Int)))]) (aN)<|iC h (fun h=>?_) (fun h=>?_)
   ·refine hE<|Te<|Te<|qY<|Te<|qY<|Te<|qY<|Te<|qY<|Te<|qY<|Te<|qX<|Tn<|Ge [.a] (u [] [(3,vS IC)]) (aN)<|qN<|Tn ⟨IC,h,wT⟩
   refine hK<|Tn<|hS<|Gg [.a,.a] (u [22] [(24,vB ((Ab ((1:Int)*2 ^ (min (a0).toNat (IntKind.i64).bits)))==(64:Int)))]) (aN)<|iC h (fun h=>?_) (fun h=>?_)
   ·refine hE<|Te<|Te<|qY<|Te<|qY<|Te<|qY<|Te<|qY<|Te<|qY<|Te<|qY<|Te<|qX<|Tn ⟨([]:List UInt8),h,wT⟩
   refine hK<|Tn<|hS<|Gg [.a,.a] (u [24] [(26,vB ((Ab ((1:Int)*2 ^ (min (a0).toNat (IntKind.i64).bits)))==(128:Int)))]) (aN)<|iC h (fun h=>?_) (fun h=>?_)
   ·exact hE<|Te<|Te<|qY<|Te<|qY<|Te<|qY<|Te<|qY<|Te<|qY<|Te<|qY<|Te<|qY<|Te<|qX<|Tn<|hS<|Rg [.a] (sl 52 [(2,vS Im)] []) (aN)<|hR<|Tr<|qR<|Tr<|qR<|Tr<|qR<|Tr<|qR<|Tr<|qR<|Tr<|qR<|Tr<|qR<|Tr<|qR<|Tr<|qR<|Tr<|bQ _ (congrArg vS (sI h))
   refine hK<|Tn<|hS<|Gg [.a,.a] (u [26] [(28,vB ((Ab ((1:Int)*2 ^ (min (a0).toNat (IntKind.i64).bits)))==(256:Int)))]) (aN)<|iC h (fun h=>?_) (fun h=>?_)
   ·exact hE<|Te<|Te<|qY<|Te<|qY<|Te<|qY<|Te<|qY<|Te<|qY<|Te<|qY<|Te<|qY<|Te<|qY<|Te<|qX<|Tn<|hS<|Rg [.a] (sl 52 [(2,vS FV)] []) (aN)<|hR<|Tr<|qR<|Tr<|qR<|Tr<|qR<|Tr<|qR<|Tr<|qR<|Tr<|qR<|Tr<|qR<|Tr<|qR<|Tr<|bQ _ (congrArg vS (sI h))
   refine hK<|Tn<|hS<|Gg [.a,.a] (u [28] [(30,vB ((Ab ((1:Int)*2 ^ (min (a0).toNat (IntKind.i64).bits)))==(512:Int)))]) (aN)<|iC h (fun h=>?_) (fun h=>?_)
   ·exact hE<|Te<|Te<|qY<|Te<|qY<|Te<|qY<|Te<|qY<|Te<|qY<|Te<|qY<|Te<|qY<|Te<|qY<|Te<|qY<|Te<|qX<|Tn<|hS<|Rg [.a] (sl 52 [(2,vS In)] []) (aN)<|hR<|Tr<|qR<|Tr<|qR<|Tr<|qR<|Tr<|qR<|Tr<|qR<|Tr<|qR<|Tr<|qR<|Tr<|bQ _ (congrArg vS (sI h))
   refine hK<|Tn<|hS<|Gg [.a,.a] (u [30] [(32,vB ((Ab ((1:Int)*2 ^ (min (a0).toNat (IntKind.i64).bits)))==(1024:Int)))]) (aN)<|iC h (fun h=>?_) (fun h=>?_)
   ·exact hE<|Te<|Te<|qY<|Te<|qY<|Te<|qY<|Te<|qY<|Te<|qY<|Te<|qY<|Te<|qY<|Te<|qY<|Te<|qY<|Te<|qY<|Te<|qX<|Tn<|hS<|Rg [.a] (sl 52 [(2,vS FW)] []) (aN)<|hR<|Tr<|qR<|Tr<|qR<|Tr<|qR<|Tr<|qR<|Tr<|qR<|Tr<|qR<|Tr<|bQ _ (congrArg vS (sI h))
   refine hK<|Tn<|hS<|Rg [.a,.a] (sl 52 [(3,vS ([]:List UInt8)),(11,vI (Ab ((1:Int)*2 ^ (min (a0).toNat (IntKind.i64).bits)))),(34,vB ((Ab ((1:Int)*2 ^ (min (a0).toNat (IntKind.i64).bits)))==(2048:Int)))] []) (aN)<|iC h (fun h=>?_) (fun h=>?_)
   ·exact hE<|Te<|Te<|qY<|Te<|qY<|Te<|qY<|Te<|qY<|Te<|qY<|Te<|qY<|Te<|qY<|Te<|qY<|Te<|qY<|Te<|qY<|Te<|qY<|Te<|qX<|Tn<|hS<|Rg [.a] (sl 52 [(2,vS Io)] []) (aN)<|hR<|Tr<|qR<|Tr<|qR<|Tr<|qR<|Tr<|qR<|Tr<|qR<|Tr<|bQ _ (congrArg vS (sI h))
   refine hK<|Tn<|hS<|Gg [.a,.a] (u [34] [(36,vB ((Ab ((1:Int)*2 ^ (min (a0).toNat (IntKind.i64).bits)))==(4096:Int)))]) (aN)<|iC h (fun h=>?_) (fun h=>?_)
   ·exact hE<|Te<|Te<|qY<|Te<|qY<|Te<|qY<|Te<|qY<|Te<|qY<|Te<|qY<|Te<|qY<|Te<|qY<|Te<|qY<|Te<|qY<|Te<|qY<|Te<|qY<|Te<|qX<|Tn<|hS<|Rg [.a] (sl 52 [(2,vS Ip)] []) (aN)<|hR<|Tr<|qR<|Tr<|qR<|Tr<|qR<|Tr<|qR<|Tr<|bQ _ (congrArg vS (sI h))
   refine hK<|Tn<|hS<|Gg [.a,.a] (u [36] [(38,vB ((Ab ((1:Int)*2 ^ (min (a0).toNat (IntKind.i64).bits)))==(8192:Int)))]) (aN)<|iC h (fun h=>?_) (fun h=>?_)
   ·exact hE<|Te<|Te<|qY<|Te<|qY<|Te<|qY<|Te<|qY<|Te<|qY<|Te<|qY<|Te<|qY<|Te<|qY<|Te<|qY<|Te<|qY<|Te<|qY<|Te<|qY<|Te<|qY<|Te<|qX<|Tn<|hS<|Rg [.a] (sl 52 [(2,vS G0)] []) (aN)<|hR<|Tr<|qR<|Tr<|qR<|Tr<|qR<|Tr<|bQ _ (congrArg vS (sI h))
   refine hK<|Tn<|hS<|Gg [.a,.a] (u [38] [(40,vB ((Ab ((1:Int)*2 ^ (min (a0).toNat (IntKind.i64).bits)))==(16384:Int)))]) (aN)<|iC h (fun h=>?_) (fun h=>?_)
   ·refine hE<|Te<|Te<|qY<|Te<|qY<|Te<|qY<|Te<|qY<|Te<|qY<|Te<|qY<|Te<|qY<|Te<|qY<|Te<|qY<|Te<|qY<|Te<|qY<|Te<|qY<|Te<|qY<|Te<|qY<|Te<|qX<|Tn<|Ge [.a] (u [] [(3,vS NB)]) (aN)<|qN<|Tn ⟨NB,h,wT⟩
   refine hK<|Tn<|Gg [.a,.a] (u [11,40] [(42,vB ((Ab ((1:Int)*2 ^ (min (a0).toNat (IntKind.i64).bits)))==(65536:Int)))]) (aN)<|iC h (fun h=>?_) (fun h=>?_)
   ·refine hE<|Te<|qY<|Te<|qY<|Te<|qY<|Te<|qY<|Te<|qY<|Te<|qY<|Te<|qY<|Te<|qY<|Te<|qY<|Te<|qY<|Te<|qY<|Te<|qY<|Te<|qY<|Te<|qY<|Te<|qY<|Te<|qX<|Tn ⟨([]:List UInt8),h,wT⟩
   exact hK<|Tn<|hE<|qY<|Te<|qY<|Te<|qY<|Te<|qY<|Te<|qY<|Te<|qY<|Te<|qY<|Te<|qY<|Te<|qY<|Te<|qY<|Te<|qY<|Te<|qY<|Te<|qY<|Te<|qY<|Te<|qY<|Te<|qY<|Te<|qX<|Tn<|Rg [.a] (sl 52 [(2,vS FX)] []) (aN)<|hR<|bQ _ (congrArg vS (sI h))
  rintro m0 j0
  replace j0:F8 m0=some r:=j0
  unfold F8 at j0
  refine hS ?_
  obtain⟨z0,q0,p0,n0,j0⟩:=JX j0
  exact Rg [.a,.a,(.c (vS z0)),(.v (vS p0)),.a] (sl 52 [(2,vS p0)] []) (aC (Hm q0)<|aC (DB n0)<|aC (congrArg (fun z=>V.c (.str z)) (DC n0).symm)<|aN)<|hR<|Tr<|qR<|Tr<|qR<|Tr<|qR<|Tr<|qR<|Tr<|qR<|Tr<|qR<|Tr<|qR<|Tr<|qR<|Tr<|qR<|Tr<|qR<|Tr<|bQ _ (congrArg vS (sI j0))
 rintro k0 i0
 replace i0:F7 k0=some r:=i0
 unfold F7 at i0
 refine hS ?_
 obtain⟨r6,x0,s7,o0,i0⟩:=JX i0
 exact Rg [.a,.a,(.c (vS r6)),(.v (vS s7)),.a] (sl 52 [(2,vS s7)] []) (aC (Hm x0)<|aC (DB o0)<|aC (congrArg (fun z=>V.c (.str z)) (DC o0).symm)<|aN)<|hR<|Tr<|qR<|Tr<|bQ _ (congrArg vS (sI i0))
def DH (a0:List UInt8) (a1:Ae):Option ((List UInt8)):=
 (idx (⟨([]:List UInt8),Kt,Ku,N7⟩:A4 (List UInt8)).l a1.Kind).bind fun e1=>
 (if(e1==([]:List UInt8))=true then
  some ([]:List UInt8)
 else
  (cat a0 e1).bind fun s3=>
  (EE a1.N).bind fun r4=>
  (cat s3 r4).bind fun s5=>
  some s5)
def O6 (a0:List UInt8) (a1:Ae) (r:(List UInt8)):Prop:=Ah Tryz.prog I0 180 [vS a0,vA Hh a1] (· =vS r)
theorem HS {a0:List UInt8} {a1:Ae} {r:(List UInt8)} (h:DH a0 a1=some r):O6 a0 a1 r:=by
 refine Ah.bo Ag Tryz.func180 rfl Tryz.ntmps180 [.tmp 4] fun _ _ _ _=>?_
 unfold DH at h
 refine Gg [.a,.a] (uo [1] [(3,vP [3] (0))] [.e (bx [3] (Hh a1))]) (aN) ?_
 obtain⟨e1,i0,h⟩:=bS h
 refine Gg [.a,.a,.a,(.v (vS e1)),.a] (u [] [(5,vS e1)]) (aC (And.intro (show True∧(True∧(True∧(True∧True)))from⟨trivial,⟨trivial,⟨trivial,⟨trivial,trivial⟩⟩⟩⟩) kV)<|aC (show (0≤a1.Kind∧a1.Kind<((4:Nat):Int))∧(a1.Kind).toNat *1+1≤(pw (eS) (⟨([]:List UInt8),Kt,Ku,N7⟩:A4 (List UInt8))).length ∧Me false ((a1.Kind).toNat *1) 1 (pw (eS) (⟨([]:List UInt8),Kt,Ku,N7⟩:A4 (List UInt8)))=vS e1 from⟨Bm i0,I5 (e:=eS) (N:=1) (l:=(⟨([]:List UInt8),Kt,Ku,N7⟩:A4 (List UInt8)).l) (base:=0) (pre:=[]) (post:=[]) (by kernel_rfl) rfl i0 Vi (o:=0) (by simp) (by decide) (by decide) (by kernel_rfl)⟩)<|aC (Eq.refl (vS e1))<|aN)<|hS<|Gg [.a,.a] (u [] [(11,vB (e1==([]:List UInt8)))]) (aN)<|iC h (fun h=>?_) (fun h=>?_)
 ·exact Rg [.a] (sl 19 [(4,vS ([]:List UInt8))] []) (aN)<|hR<|Tr<|bQ _ (congrArg vS (sI h))
 refine hK<|Tn ?_
 obtain⟨s3,j0,r4,m0,s5,k0,h⟩:=M9 h
 exact Rg [.a,.a,(.v (vS s3)),.a,.a,(.c (vS r4)),(.v (vS s5)),.a] (sl 19 [(4,vS s5)] []) (aC (DB j0)<|aC (congrArg (fun z=>V.c (.str z)) (DC j0).symm)<|aC (G5 m0)<|aC (DB k0)<|aC (congrArg (fun z=>V.c (.str z)) (DC k0).symm)<|aN)<|hR<|bQ _ (congrArg vS (sI h))
def Hv (s_t3_7:List UInt8):Option ((List UInt8)):=
 some s_t3_7
def Gz (a0:A1) (s_t3_11:List UInt8) (vt25_12:Int):Option (((List UInt8)×Int)⊕((List UInt8))):=
 (if(decide (vt25_12<5))=true then
  (idx a0.Color.l vt25_12).bind fun e16=>
  (ssub L0 vt25_12 (Ab (vt25_12+1))).bind fun s17=>
  (Mn s17 e16).bind fun r18=>
  (cat s_t3_11 r18).bind fun s19=>
  some (.inl (s19,(Ab (vt25_12+1))))
 else
  some (.inr s_t3_11))
def F2 (a0:A1) (s_t3_5:List UInt8):Option ((List UInt8)):=
 (iter (fun(v:(List UInt8)×Int)=>Gz a0 v.1 v.2) FU (s_t3_5,(0:Int))).bind (fun o0=>Hv o0)
def Kv (a0:A1):Option ((List UInt8)):=
 (Oe a0).bind fun r1=>
 (if(!r1)=true then
  some ([]:List UInt8)
 else
  (if(a0==(⟨0,0,(⟨0,0,0,0,0⟩:A5 (Int))⟩:A1))=true then
   some P0
  else
   (Mn bW a0.X).bind fun r4=>
   (if(decide (0<a0.Generic))=true then
    (EE a0.Generic).bind fun r21=>
    (cat r4 r21).bind fun s22=>
    F2 a0 s22
   else
    F2 a0 r4)))
def Y7 (a0:A1) (r:(List UInt8)):Prop:=Ah Tryz.prog I0 136 [vA Fj a0] (· =vS r)
theorem Qa {a0:A1} {r:(List UInt8)} (h:Kv a0=some r):Y7 a0 r:=by
 refine Ah.bo Ag Tryz.func136 rfl Tryz.ntmps136 [.tmp 2] fun _ _ _ _=>?_
 unfold Kv at h
 refine Rg [.a,.a] (sl 39 [(1,vP [1] (0))] [bx [1] (Fj a0)]) (aN)<|hS ?_
 obtain⟨r1,x1,h⟩:=bS h
 refine Gg [.a,(.c (vB r1)),.a] (u [] [(8,vB (!r1))]) (aC (Um x1)<|aN)<|iC h (fun h=>?_) (fun h=>?_)
 ·exact Rg [.a] (sl 39 [(2,vS ([]:List UInt8))] []) (aN)<|hR<|Tr<|bQ _ (congrArg vS (sI h))
 refine hK<|Tn<|hS<|Gg [.a,.a,(.v (vB (a0==(⟨0,0,(⟨0,0,0,0,0⟩:A5 (Int))⟩:A1))))] (u [8] [(11,vB (a0==(⟨0,0,(⟨0,0,0,0,0⟩:A5 (Int))⟩:A1)))]) (aC (And.intro trivial fi)<|aC (congrArg (fun z=>V.c (.bool (z))) (jw a0 (⟨0,0,(⟨0,0,0,0,0⟩:A5 (Int))⟩:A1)))<|aN)<|iC h (fun h=>?_) (fun h=>?_)
 ·exact Rg [.a] (sl 39 [(2,vS P0)] []) (aN)<|hR<|Tr<|bQ _ (congrArg vS (sI h))
 refine hK<|Tn ?_
 obtain⟨r4,y1,h⟩:=bS h
 refine Gg [.a,.a,(.c (vS r4)),.a] (u [11] [(3,vS r4)]) (aC (YP y1)<|aN)<|Gj (X:=(List UInt8)) (fun v=>(u [] [(3,vS v)])) (fun v=>F2 a0 v=some r) ?_ ?_
 ·refine Gg (nA 3) (u [] [(17,vB (decide (0<a0.Generic)))]) (aN)<|iC h (fun h=>?_) (fun h=>?_)
  ·obtain⟨n1,q1,t0,d1,h⟩:=JX h
   refine Ge [.a,.a,.a,(.c (vS n1)),(.v (vS t0)),.a] (u [] [(3,vS t0),(18,vS r4),(19,vP [1] (0)),(20,vI a0.Generic),(21,vS n1),(22,vS t0)]) (aC (G5 q1)<|aC (DB d1)<|aC (congrArg (fun z=>V.c (.str z)) (DC d1).symm)<|aN)<|Tn ⟨t0,h,wT⟩
  refine hK<|Tn ⟨r4,h,wT⟩
 rintro i1 m0
 replace m0:F2 a0 i1=some r:=m0
 unfold F2 at m0
 refine Sj (X:=(List UInt8)) (fun v=>(sl 39 [(3,vS v)] [])) (fun v=>Hv v=some r) ?_ ?_
 ·refine Gg (nA 3) (uo [1] [(24,vA (dW (eI .i64)) a0.Color),(25,vI 0)] []) (aN)<|hB ?_
  obtain⟨z1,j1,m0⟩:=bS m0
  refine Gi (fun(v:(List UInt8)×Int)=>(u [] [(3,vS v.1),(25,vI v.2)])) j1 (wT) ?_
  rintro⟨k0,i0⟩ t1 j0 k1
  replace j0:Gz a0 k0 i0=some t1:=j0
  unfold Gz at j0
  refine Gg [.a] (u [] [(26,vB (decide (i0<5)))]) (aN)<|hS<|iC j0 (fun j0=>?_) (fun j0=>?_)
  ·refine hK<|Tn<|hS<|hB ?_
   obtain⟨n0,x0,j0⟩:=bS j0
   refine Rg [.a,(.v (vI n0)),.a,.a] (sl 39 [(3,vS k0),(4,vI i0),(5,vI n0),(24,vA (dW (eI .i64)) a0.Color),(25,vI i0)] []) (aC (show (0≤i0∧i0<((5:Nat):Int))∧(i0).toNat *1+1≤(dW (eI .i64) a0.Color).length ∧Me false ((i0).toNat *1) 1 (dW (eI .i64) a0.Color)=vI n0 from⟨Bm x0,I5 (e:=eI .i64) (N:=1) (l:=a0.Color.l) (base:=0) (pre:=[]) (post:=[]) (by kernel_rfl) rfl x0 (I1 .i64) (o:=0) (by simp) (by decide) (by decide) (by kernel_rfl)⟩)<|aC (Eq.refl (vI n0))<|aN) ?_
   obtain⟨o1,y0,m1,p1,q0,z0,j0⟩:=M9 j0
   refine Ge [.a,.a,.a,.a,(.v (vS o1)),.a,(.c (vS m1)),(.v (vS q0)),.a] (u [] [(3,vS q0),(29,vS k0),(30,vI i0),(31,vI i0),(32,vI (Ab (i0+1))),(33,vS o1),(34,vI n0),(35,vS m1),(36,vS q0)]) (aC (kn y0)<|aC (congrArg (fun z=>V.c (.str z)) (ko y0).symm)<|aC (YP p1)<|aC (DB z0)<|aC (congrArg (fun z=>V.c (.str z)) (DC z0).symm)<|aN)<|qN<|Tn<|Ge [.a,.a] (u [] [(25,vI (Ab (i0+1))),(37,vI (Ab (i0+1)))]) (aN)<|Tn ⟨(q0,(Ab (i0+1))),(sI j0).symm,wT⟩
  refine hE<|Te ?_
  obtain rfl:=k1 _ (sI j0).symm
  refine Te<|qX<|Tn ⟨k0,m0,wT⟩
 rintro o0 p0
 replace p0:Hv o0=some r:=p0
 unfold Hv at p0
 exact Rg [.a,.a] (sl 39 [(2,vS o0)] []) (aN)<|hR<|bQ _ (congrArg vS (sI p0))
def Fv (a0:Aj):Option (Bool):=
 (Cs a0.Turn (0:Int) (500:Int)).bind fun r2=>
 (gd ((!r2)==false) (Cs a0.Active (0:Int) (Ab ((a0.Players.length:Int) - (1:Int))))).bind fun r3=>
 (some (if(!r2)=true then true else !r3)).bind fun b4=>
 (gd (b4==false) (Cs a0.Priority (0:Int) (Ab ((a0.Players.length:Int) - (1:Int))))).bind fun r5=>
 (some (if b4=true then true else !r5)).bind fun b6=>
 (gd (b6==false) (Cs a0.Step (0:Int) (10:Int))).bind fun r7=>
 (some (if b6=true then true else !r7)).bind fun b8=>
 (gd (b8==false) (Cs a0.Passes (0:Int) (Ab ((Ab ((a0.Players.length:Int) - (1:Int)))+(1:Int))))).bind fun r9=>
 (some (if b8=true then true else !r9)).bind fun b10=>
 (gd (b10==false) (Cs a0.NextId (1:Int) (1000000:Int))).bind fun r11=>
 (some (if b10=true then true else !r11)).bind fun b12=>
 (gd (b12==false) (Cs a0.NextStamp (1:Int) (1000000:Int))).bind fun r13=>
 (some (if b12=true then true else !r13)).bind fun b14=>
 (some (if b14=true then true else decide (500<(a0.Extra.length:Int)))).bind fun b15=>
 (if b15=true then
  some false
 else
  (if(a0.Over==1)=true then
   (Cs a0.Winner (0:Int) (Ab ((a0.Players.length:Int) - (1:Int)))).bind fun r18=>
   some r18
  else
   (Cs a0.Over (0:Int) (2:Int)).bind fun r19=>
   (some (if r19=true then a0.Winner==(-1:Int)else false)).bind fun b20=>
   some b20))
def CM (a0:Aj) (vt13_22:Int):Option ((Int)⊕(Unit⊕Unit)):=
 (if(decide (vt13_22<(a0.Extra.length:Int)))=true then
  (idx a0.Extra vt13_22).bind fun e25=>
  (Cs e25 (0:Int) (Ab ((a0.Players.length:Int) - (1:Int)))).bind fun r26=>
  (if(!r26)=true then
   some (.inr (.inr ()))
  else
   some (.inl (Ab (vt13_22+1))))
 else
  some (.inr (.inl ())))
def H1 (a0:Aj):Option (Bool):=
 (iter (fun(v:Int)=>CM a0 v) FU (0:Int)).bind (Sum.elim (fun o0=>Fv a0) (fun o1=>some false))
def Si (a0:Aj) (r:Bool):Prop:=Ah Tryz.prog I0 20 [vA Am a0] (· =vB r)
theorem Q5 {a0:Aj} {r:Bool} (h:H1 a0=some r):Si a0 r:=by
 refine Ah.bo Ag Tryz.func20 rfl Tryz.ntmps20 [.tmp 2] fun _ _ _ _=>?_
 unfold H1 at h
 refine Rg [.a,.a] (sl 87 [(1,vP [1] (0))] [bx [1] (Am a0)]) (aN)<|Gg (nA 5) (u [] [(3,vI (Ab ((a0.Players.length:Int) - (1:Int))))]) (aN)<|Gj (X:=Unit) (fun v=>(u [] [])) (fun v=>Fv a0=some r) ?_ ?_
 ·refine Gg (nA 4) (u [] [(11,vL (eI .i64) a0.Extra),(12,vI (a0.Extra.length:Int)),(13,vI 0)]) (aN)<|hB ?_
  obtain⟨y2,y0,h⟩:=bS h
  refine Gi (fun(v:Int)=>(u [] [(13,vI v)])) y0 (wT) ?_
  rintro k0 d2 i0 q0
  replace i0:CM a0 k0=some d2:=i0
  unfold CM at i0
  refine Gg [.a] (u [] [(14,vB (decide (k0<(a0.Extra.length:Int))))]) (aN)<|hS<|iC i0 (fun i0=>?_) (fun i0=>?_)
  ·refine hK<|Tn<|hS<|hB ?_
   obtain⟨p0,x0,i0⟩:=bS i0
   refine Gg [.a,(.v (vI p0)),.a] (u [14] [(5,vI p0)]) (aC (Bm x0)<|aC (GN x0 (I1 .i64) 0 1 false (vI p0))<|aC (Eq.refl (vI p0))<|aN) ?_
   obtain⟨j1,z1,i0⟩:=bS i0
   refine Gg [.a,.a,(.c (vB j1)),.a] (u [5] [(20,vB (!j1))]) (aC (BH z1)<|aN)<|iC i0 (fun i0=>?_) (fun i0=>?_)
   ·refine Rg [.a] (sl 87 [(2,vB false)] []) (aN)<|hR<|qR<|Tr ?_
    obtain rfl:=q0 _ (sI i0).symm
    replace h:=EL h
    exact Tr<|qR<|Tr<|bQ _ (kB h)
   refine hK<|qN<|Tn<|Ge [.a,.a] (u [] [(13,vI (Ab (k0+1))),(21,vI (Ab (k0+1)))]) (aN)<|Tn ⟨(Ab (k0+1)),(sI i0).symm,wT⟩
  refine hE<|Te ?_
  obtain rfl:=q0 _ (sI i0).symm
  replace h:=Fa h
  refine Te<|qX<|Tn ⟨(),h,wT⟩
 rintro _ j0
 replace j0:Fv a0=some r:=j0
 unfold Fv at j0
 refine hS ?_
 obtain⟨r2,m2,r3,n2,b4,i2,r5,o2,j0⟩:=Ij j0
 obtain⟨b6,j2,r7,p2,b8,k2,r9,q2,j0⟩:=Ij j0
 obtain⟨n0,k1,t2,q1,o0,m1,x2,t1,j0⟩:=Ij j0
 obtain⟨m0,n1,z0,o1,j0⟩:=JX j0
 refine Gg [.a,.a,(.c (vB r2)),.a,.a,.a,.a,.a,(.c (vB r3)),.a,(.v (vB b4)),.a,.a,.a,.a,(.c (vB r5)),.a,(.v (vB b6)),.a,.a,.a,(.c (vB r7)),.a,(.v (vB b8)),.a,.a,.a,.a,.a,(.c (vB r9)),.a,(.v (vB n0)),.a,.a,.a,(.c (vB t2)),.a,(.v (vB o0)),.a,.a,.a,(.c (vB x2)),.a,(.v (vB m0)),.a,.a,.a,.a,.a,(.v (vB z0))] (u [] [(71,vB z0)]) (aC (BH m2)<|aG ((!r2)==false)<|aC (c2 n2 BH)<|aG ((!r2)==false)<|aF (!r2)<|aB i2<|aG (b4==false)<|aC (c2 o2 BH)<|aG (b4==false)<|aF b4<|aB j2<|aG (b6==false)<|aC (c1 p2 BH)<|aG (b6==false)<|aF b6<|aB k2<|aG (b8==false)<|aG (b8==false)<|aC (c2 q2 BH)<|aG (b8==false)<|aF b8<|aB k1<|aG (n0==false)<|aC (c1 q1 BH)<|aG (n0==false)<|aF n0<|aB m1<|aG (o0==false)<|aC (c1 t1 BH)<|aG (o0==false)<|aF o0<|aB n1<|aG (m0==false)<|aG (m0==false)<|aG (m0==false)<|aF m0<|aB o1<|aN)<|iC j0 (fun j0=>?_) (fun j0=>?_)
 ·exact Rg [.a] (sl 87 [(2,vB false)] []) (aN)<|hR<|Tr<|bQ _ (kB j0)
 refine hK<|Tn<|hS<|Gg (nA 3) (u [71] [(74,vB (a0.Over==1))]) (aN)<|iC j0 (fun j0=>?_) (fun j0=>?_)
 ·obtain⟨i1,x1,j0⟩:=bS j0
  exact Rg [.a,.a,.a,(.c (vB i1)),.a] (sl 87 [(2,vB i1)] []) (aC (BH x1)<|aN)<|hR<|Tr<|bQ _ (kB j0)
 refine hK<|Tn ?_
 obtain⟨t0,y1,d1,p1,j0⟩:=JX j0
 exact Rg [.a,.a,(.c (vB t0)),.a,.a,.a,.a,(.v (vB d1)),.a] (sl 87 [(2,vB d1)] []) (aC (BH y1)<|aG (t0==true)<|aG (t0==true)<|aT t0<|aB p1<|aN)<|hR<|bQ _ (kB j0)
def AE:Option (Bool):=
 some true
def A8 (a0:List (Au)) (a1:List (Au)) (vt17_4:Int):Option ((Int)⊕(Unit⊕Unit)):=
 (if(decide (vt17_4<(a0.length:Int)))=true then
  (idx a0 vt17_4).bind fun e7=>
  (idx a1 vt17_4).bind fun e8=>
  (some (if(e7.Life==e8.Life)=true then e7.Venom==e8.Venom else false)).bind fun b9=>
  (some (if b9=true then e7.Lands==e8.Lands else false)).bind fun b10=>
  (some (if b10=true then e7.Pool==e8.Pool else false)).bind fun b11=>
  (some (if b11=true then e7.Failed==e8.Failed else false)).bind fun b12=>
  (some (if b12=true then e7.Lost==e8.Lost else false)).bind fun b13=>
  (gd (b13==true) (BJ e7.Library e8.Library)).bind fun r14=>
  (some (if b13=true then r14 else false)).bind fun b15=>
  (gd (b15==true) (BJ e7.Hand e8.Hand)).bind fun r16=>
  (some (if b15=true then r16 else false)).bind fun b17=>
  (gd (b17==true) (BJ e7.Graveyard e8.Graveyard)).bind fun r18=>
  (some (if b17=true then r18 else false)).bind fun b19=>
  (if(!b19)=true then
   some (.inr (.inr ()))
  else
   some (.inl (Ab (vt17_4+1))))
 else
  some (.inr (.inl ())))
def Ba (a0:List (Au)) (a1:List (Au)):Option (Bool):=
 (if((a0.length:Int) != (a1.length:Int))=true then
  some false
 else
  (iter (fun(v:Int)=>A8 a0 a1 v) FU (0:Int)).bind (Sum.elim (fun o0=>AE) (fun o1=>some false)))
def B9 (a0:List (Au)) (a1:List (Au)) (r:Bool):Prop:=Ah Tryz.prog I0 58 [vL Ad a0,vL Ad a1, .c (.fn 28)] (· =vB r)
theorem B6 {a0:List (Au)} {a1:List (Au)} {r:Bool} (h:Ba a0 a1=some r):B9 a0 a1 r:=by
 refine Ah.bo Ag Tryz.func58 rfl Tryz.ntmps58 [.tmp 6] fun _ _ _ _=>?_
 unfold Ba at h
 refine Gg [.a] (u [] []) (aN)<|hS<|Gg (nA 5) (u [] [(14,vB ((a0.length:Int) != (a1.length:Int)))]) (aN)<|iC h (fun h=>?_) (fun h=>?_)
 ·exact Rg [.a] (sl 32 [(6,vB false)] []) (aN)<|hR<|Tr<|bQ _ (kB h)
 refine hK<|Tn<|Sj (X:=Unit) (fun v=>(sl 32 [] [])) (fun v=>AE=some r) ?_ ?_
 ·refine Gg (nA 3) (u [0,14] [(15,vL Ad a0),(16,vI (a0.length:Int)),(17,vI 0)]) (aN)<|hB ?_
  obtain⟨m2,q1,h⟩:=bS h
  refine Gi (fun(v:Int)=>(u [] [(17,vI v)])) q1 (wT) ?_
  rintro j0 k2 i0 y0
  replace i0:A8 a0 a1 j0=some k2:=i0
  unfold A8 at i0
  refine Gg [.a] (u [] [(18,vB (decide (j0<(a0.length:Int))))]) (aN)<|hS<|iC i0 (fun i0=>?_) (fun i0=>?_)
  ·refine hK<|Tn<|hS<|hB ?_
   obtain⟨e7,z0,i0⟩:=bS i0
   refine Gg [.a,.a,(.v (vA Ad e7)),.a,.a,.a] (uo [18] [(7,vI j0),(8,vP [8] (0))] [.e (bx [8] (Ad e7))]) (aC (Bm z0)<|aC (GN z0 C1 0 14 true (vA Ad e7))<|aC (Eq.refl (vA Ad e7))<|aN) ?_
   obtain⟨e8,d1,i0⟩:=bS i0
   refine Gg [.a,.a,.a,(.v (vA Ad e8)),.a,.a] (uo [7] [(9,vP [9] (0))] [.e (bx [9] (Ad e8)),.k 0]) (aC (Bm d1)<|aC (GN d1 C1 0 14 true (vA Ad e8))<|aC (Eq.refl (vA Ad e8))<|aN)<|hS<|hO<|Rp 3 (nA 3) (sl 32 [(1,vL Ad a1),(2,.c (.fn 28)),(8,vP [8] (0)),(9,vP [9] (0)),(15,vL Ad a0),(16,vI (a0.length:Int)),(17,vI j0),(26,.c (.fn 28)),(27,vA Ad e7),(28,vA Ad e8)] [bx [9] (Ad e8),bx [8] (Ad e7)]) (aN)<|rI rfl rfl<|Ei 29 [vA Ad e7,vA Ad e8] [] Tryz.func28 Tryz.ntmps28 [.tmp 4] rfl rfl rfl rfl fun _ _ _ _=>Gg (nA 3) (uo [0,1] [(2,vP [2,29] (0)),(3,vP [3,29] (0))] [.e (bx [3,29] (Ad e8)),.e (bx [2,29] (Ad e7)),.k 0,.k 1]) (aN) ?_
   obtain⟨b9,z1,k0,i1,m0,j1,n0,k1,i0⟩:=Ij i0
   obtain⟨o0,m1,d2,t1,p0,n1,i2,x1,i0⟩:=Ij i0
   obtain⟨q0,o1,j2,y1,t0,p1,i0⟩:=M9 i0
   refine Gg [.a,.a,.a,.a,.a,.a,.a,.a,.a,.a,.a,(.v (vB b9)),.a,.a,.a,.a,.a,.a,(.v (vB k0)),.a,.a,.a,.a,.a,(.v (vB (e7.Pool==e8.Pool))),(.v (vB m0)),.a,.a,.a,.a,.a,.a,(.v (vB n0)),.a,.a,.a,.a,.a,.a,(.v (vB o0)),.a,.a,.a,.a,.a,(.c (vB d2)),(.v (vB p0)),.a,.a,.a,.a,.a,(.c (vB i2)),(.v (vB q0)),.a,.a,.a,.a,.a,(.c (vB j2)),(.v (vB t0)),.a] (uo [2,3] [(4,vB t0)] [.k 2,.k 3]) (aG ((e7.Life==e8.Life)==true)<|aG ((e7.Life==e8.Life)==true)<|aH ((e7.Life==e8.Life)==true)<|aT (e7.Life==e8.Life)<|aB z1<|aG (b9==true)<|aG (b9==true)<|aH (b9==true)<|aT b9<|aB i1<|aG (k0==true)<|aG (k0==true)<|aC (fun hg:(k0==true)=true=>aC (gi (k0==true))<|aC (gi (k0==true))<|aC (congrArg (fun z=>V.c (.bool (z))) (bR e7.Pool e8.Pool))<|aN)<|aT k0<|aB j1<|aG (m0==true)<|aG (m0==true)<|aC (fun hg:(m0==true)=true=>aC (gi (m0==true))<|aC (gi (m0==true))<|aC Xm<|aN)<|aT m0<|aB k1<|aG (n0==true)<|aG (n0==true)<|aC (fun hg:(n0==true)=true=>aC (gi (n0==true))<|aC (gi (n0==true))<|aC Xm<|aN)<|aT n0<|aB m1<|aG (o0==true)<|aG (o0==true)<|aC (c2 t1 BO)<|aT o0<|aB n1<|aG (p0==true)<|aG (p0==true)<|aC (c2 x1 BO)<|aT p0<|aB o1<|aG (q0==true)<|aG (q0==true)<|aC (c2 y1 BO)<|aT q0<|aB p1<|aN)<|hR<|nR (vB t0)<|Gw [.a] (u [] [(30,vB (!t0))]) (aN)<|Tn<|iC i0 (fun i0=>?_) (fun i0=>?_)
   ·refine Rg [.a] (sl 32 [(6,vB false)] []) (aN)<|hR<|qR<|Tr ?_
    obtain rfl:=y0 _ (sI i0).symm
    replace h:=EL h
    exact Tr<|qR<|Tr<|bQ _ (kB h)
   refine hK<|qN<|Tn<|Ge [.a,.a] (u [] [(17,vI (Ab (j0+1))),(31,vI (Ab (j0+1)))]) (aN)<|Tn ⟨(Ab (j0+1)),(sI i0).symm,wT⟩
  refine hE<|Te ?_
  obtain rfl:=y0 _ (sI i0).symm
  replace h:=Fa h
  refine Te<|qX<|Tn ⟨(),h,wT⟩
 rintro _ x0
 replace x0:AE=some r:=x0
 unfold AE at x0
 exact Rg [.a] (sl 32 [(6,vB true)] []) (aN)<|hR<|bQ _ (kB x0)
def BS (a0:List (Ao)) (a1:List (Ao)):Option (Bool):=
 (AW a0 a1).bind fun r1=>
 some r1
def Fe (a0:List (Ao)) (a1:List (Ao)) (r:Bool):Prop:=Ah Tryz.prog I0 29 [vL Ac a0,vL Ac a1, .c (.fn 30)] (· =vB r)
theorem E3 {a0:List (Ao)} {a1:List (Ao)} {r:Bool} (h:BS a0 a1=some r):Fe a0 a1 r:=by
 refine Ah.bo Ag Tryz.func29 rfl Tryz.ntmps29 [.tmp 6] fun _ _ _ _=>?_
 unfold BS at h
 refine Gg [.a] (u [] []) (aN) ?_
 obtain⟨r1,i0,h⟩:=bS h
 exact Rg [.a,.a,.a,(.c (vB r1)),.a] (sl 11 [(6,vB r1)] []) (aC (BP i0)<|aN)<|hR<|bQ _ (kB h)
def BT (a0:List (Dy)) (a1:List (Dy)):Option (Bool):=
 (AX a0 a1).bind fun r1=>
 some r1
def Ff (a0:List (Dy)) (a1:List (Dy)) (r:Bool):Prop:=Ah Tryz.prog I0 61 [vL Bg a0,vL Bg a1, .c (.fn 62)] (· =vB r)
theorem E4 {a0:List (Dy)} {a1:List (Dy)} {r:Bool} (h:BT a0 a1=some r):Ff a0 a1 r:=by
 refine Ah.bo Ag Tryz.func61 rfl Tryz.ntmps61 [.tmp 6] fun _ _ _ _=>?_
 unfold BT at h
 refine Gg [.a] (u [] []) (aN) ?_
 obtain⟨r1,i0,h⟩:=bS h
 exact Rg [.a,.a,.a,(.c (vB r1)),.a] (sl 11 [(6,vB r1)] []) (aC (BQ i0)<|aN)<|hR<|bQ _ (kB h)
def JQ (a0:Au):Option (Au):=
 (BB a0.Library).bind fun r1=>
 (BB (({a0 with Library:=r1}).Hand)).bind fun r2=>
 (BB (({{a0 with Library:=r1}with Hand:=r2}).Graveyard)).bind fun r3=>
 some ({{{a0 with Library:=r1}with Hand:=r2}with Graveyard:=r3})
def Qb (a0:Au) (r:Au):Prop:=Ah Tryz.prog I0 70 [vA Ad a0] (· =vA Ad r)
theorem O7 {a0:Au} {r:Au} (h:JQ a0=some r):Qb a0 r:=by
 refine Ah.bo Ag Tryz.func70 rfl Tryz.ntmps70 [.cell 2 73] fun _ _ _ _=>?_
 unfold JQ at h
 refine Rg [.a,.a] (sl 16 [(1,vP [1] (0)),(2,vP [2] (0))] [bx [2] [Aa 0,Aa 0,Aa 0,Aa (((⟨0,0,0,0,0,0⟩:A6 (Int))).x0),Aa (((⟨0,0,0,0,0,0⟩:A6 (Int))).x1),Aa (((⟨0,0,0,0,0,0⟩:A6 (Int))).x2),Aa (((⟨0,0,0,0,0,0⟩:A6 (Int))).x3),Aa (((⟨0,0,0,0,0,0⟩:A6 (Int))).x4),Aa (((⟨0,0,0,0,0,0⟩:A6 (Int))).x5),.bool false,.bool false,.nils,.nils,.nils],bx [1] (Ad a0)]) (aN) ?_
 obtain⟨r1,i0,h⟩:=bS h
 refine Gg [.a,.a,(.c (vL (eI .i64) r1)),.a,.a] (uo [] [] [.k 0,.e (bx [1] (Ad ({a0 with Library:=r1})))]) (aC (BR i0)<|aN) ?_
 obtain⟨r2,j0,h⟩:=bS h
 refine Gg [.a,.a,(.c (vL (eI .i64) r2)),.a,.a] (uo [] [] [.k 0,.e (bx [1] (Ad ({{a0 with Library:=r1}with Hand:=r2})))]) (aC (BR j0)<|aN) ?_
 obtain⟨r3,k0,h⟩:=bS h
 exact Gg [.a,.a,(.c (vL (eI .i64) r3)),.a,.a] (uo [] [] [.k 0,.e (bx [1] (Ad ({{{a0 with Library:=r1}with Hand:=r2}with Graveyard:=r3})))]) (aC (BR k0)<|aN)<|Gg [.a,.a] (uo [1] [] [.e (bx [2] (Ad ({{{a0 with Library:=r1}with Hand:=r2}with Graveyard:=r3})))]) (aN)<|hR<|bE (vA Ad ({{{a0 with Library:=r1}with Hand:=r2}with Graveyard:=r3})) (.agg (Ad ({{{a0 with Library:=r1}with Hand:=r2}with Graveyard:=r3}))) (congrArg (vA Ad) (sI h))
def Uu (a0:Int):Option ((List UInt8)):=
 (some (if(decide (a0<0))=true then true else decide (16<a0))).bind fun b1=>
 (if b1=true then
  some ([]:List UInt8)
 else
  (dt).bind fun r3=>
  (idx r3 a0).bind fun e4=>
  some e4)
def F9 (a0:Int):Option ((List UInt8)):=
 (if(decide (a0<0))=true then
  (Uq (IntKind.u64.wrap (0 - (IntKind.u64.wrap (a0))))).bind fun r2=>
  (cat g6 r2).bind fun s3=>
  some s3
 else
  (Uq (IntKind.u64.wrap (a0))).bind fun r4=>
  some r4)
end Go.PL
