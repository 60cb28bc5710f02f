/- Functions of the program, as partial functions in Lean, with proofs. -/
import Derived.Test.YtelbpfkjhndccaaGreatDoorPlSbB
import Derived.Test.YtelbpfkjhndccaaGreatDoorPlSbF0
import Derived.Test.YtelbpfkjhndccaaGreatDoorPlSbF10
import Derived.Test.YtelbpfkjhndccaaGreatDoorPlSbF13
import Derived.Test.YtelbpfkjhndccaaGreatDoorPlSbF17
import Derived.Test.YtelbpfkjhndccaaGreatDoorPlSbF18
import Derived.Test.YtelbpfkjhndccaaGreatDoorPlSbF2
import Derived.Test.YtelbpfkjhndccaaGreatDoorPlSbF3
import Derived.Test.YtelbpfkjhndccaaGreatDoorPlSbF4
namespace Go.PL
open Go Go.RowKit Go.Proofs
set_option maxRecDepth 100000
set_option linter.all false
set_option maxHeartbeats 4000000
attribute [local irreducible] Ak Ca BP
def IW:Option (Bool):=
 some true
def FL (a0:Ai) (i_t7_8:Int):Option ((Int)⊕(Unit⊕Unit)):=
 (if(decide (i_t7_8<(a0.Conts.length:Int)))=true then
  (idx a0.Conts i_t7_8).bind fun e11=>
  (Dd a0 e11.Control).bind fun r12=>
  (some (if(!r12)=true then true else decide (a0.NextStamp≤e11.Stamp))).bind fun b13=>
  (gd (b13==false) (HD e11.Until (1:Int) (2:Int))).bind fun r14=>
  (some (if b13=true then true else !r14)).bind fun b15=>
  (gd (b15==false) (ZN e11.Objects)).bind fun r16=>
  (some (if b15=true then true else !r16)).bind fun b17=>
  (gd (b17==false) (FK e11.Mods)).bind fun r18=>
  (some (if b17=true then true else r18==([]:List UInt8))).bind fun b19=>
  (if b19=true then
   some (.inr (.inr ()))
  else
   some (.inl (Ab (i_t7_8+1))))
 else
  some (.inr (.inl ())))
def IX (a0:Ai):Option (Bool):=
 (iter (fun(v:Int)=>FL a0 v) FU (0:Int)).bind (Sum.elim (fun o0=>IW) (fun o1=>some false))
def EL (a0:Ai) (i_t5_22:Int):Option ((Int)⊕(Unit⊕Unit)):=
 (if(decide (i_t5_22<(a0.Waiting.length:Int)))=true then
  (idx a0.Waiting i_t5_22).bind fun e25=>
  (Dd a0 e25.Control).bind fun r26=>
  (some (if(!r26)=true then true else e25.Ability.Kind != 4)).bind fun b27=>
  (gd (b27==false) (Lj e25.Ability)).bind fun r28=>
  (some (if b27=true then true else !r28)).bind fun b29=>
  (if b29=true then
   some (.inr (.inr ()))
  else
   some (.inl (Ab (i_t5_22+1))))
 else
  some (.inr (.inl ())))
def IY (a0:Ai):Option (Bool):=
 (iter (fun(v:Int)=>EL a0 v) FU (0:Int)).bind (Sum.elim (fun o0=>IX a0) (fun o1=>some false))
def HA (i_t3_32:Int):Option ((Int)⊕(Unit⊕Unit)):=
 some (.inl (Ab (i_t3_32+1)))
def Ds (a0:Ai) (i_t3_32:Int) (k_t4_40:Int):Option ((Int)⊕(Unit⊕Unit)):=
 (if(decide (k_t4_40<i_t3_32))=true then
  (idx a0.Stack k_t4_40).bind fun e43=>
  (idx a0.Stack i_t3_32).bind fun e44=>
  (if(e43.Id==e44.Id)=true then
   some (.inr (.inr ()))
  else
   some (.inl (Ab (k_t4_40+1))))
 else
  some (.inr (.inl ())))
def EM (a0:Ai) (i_t3_32:Int):Option ((Int)⊕(Unit⊕Unit)):=
 (if(decide (i_t3_32<(a0.Stack.length:Int)))=true then
  (idx a0.Stack i_t3_32).bind fun e36=>
  (QM a0 e36).bind fun r37=>
  (if(!r37)=true then
   some (.inr (.inr ()))
  else
   (iter (fun(v:Int)=>Ds a0 i_t3_32 v) FU (0:Int)).bind (Sum.elim (fun o0=>HA i_t3_32) (fun o1=>some (.inr (.inr ())))))
 else
  some (.inr (.inl ())))
def MR (a0:Ai):Option (Bool):=
 (some (if(decide (64<(a0.Stack.length:Int)))=true then true else decide (64<(a0.Waiting.length:Int)))).bind fun b1=>
 (some (if b1=true then true else decide (64<(a0.Conts.length:Int)))).bind fun b2=>
 (if b2=true then
  some false
 else
  (iter (fun(v:Int)=>EM a0 v) FU (0:Int)).bind (Sum.elim (fun o0=>IY a0) (fun o1=>some false)))
def cV (a0:Ai) (r:Bool):Prop:=Af Tryz.prog I0 25 [vA Aj a0] (· =vB r)
theorem Z7 {a0:Ai} {r:Bool} (h:MR a0=some r):cV a0 r:=by
 refine Af.bo Ae Tryz.func25 rfl Tryz.ntmps25 [.tmp 2] fun _ _ _ _=>?_
 unfold MR at h
 refine Rg [.a,.a] (sl 129 [(1,vP [1] (0))] [bx [1] (Aj a0)]) (aN)<|hS ?_
 obtain⟨b1,m4,b2,n4,h⟩:=Ex h
 refine Gg [.a,.a,.a,.a,.a,.a,.a,.a,.a,(.v (vB b1)),.a,.a,.a,.a,.a,(.v (vB b2))] (u [] [(24,vB b2)]) (aG ((decide (64<(a0.Stack.length:Int)))==false)<|aG ((decide (64<(a0.Stack.length:Int)))==false)<|aG ((decide (64<(a0.Stack.length:Int)))==false)<|aF (decide (64<(a0.Stack.length:Int)))<|aB m4<|aG (b1==false)<|aG (b1==false)<|aG (b1==false)<|aF b1<|aB n4<|aN)<|iC h (fun h=>?_) (fun h=>?_)
 ·exact Rg [.a] (sl 129 [(2,vB false)] []) (aN)<|hR<|Tr<|bQ _ (kB h)
 refine hK<|Tn<|Gj (X:=Unit) (fun v=>(u [24] [])) (fun v=>IY a0=some r) ?_ ?_
 ·refine Gg [.a] (u [24] [(3,vI 0)]) (aN)<|hB ?_
  obtain⟨z4,x2,h⟩:=bS h
  refine Gi (fun(v:Int)=>(u [] [(3,vI v)])) x2 (wT) ?_
  rintro k0 j1 i0 z0
  replace i0:EM a0 k0=some j1:=i0
  unfold EM at i0
  refine hS<|Gg (nA 5) (u [] [(29,vB (decide (k0<(a0.Stack.length:Int))))]) (aN)<|iC i0 (fun i0=>?_) (fun i0=>?_)
  ·refine hK<|Tn<|Gj (X:=Unit) (fun v=>(u [29] [])) (fun v=>HA k0=some j1) ?_ ?_
   ·refine hB<|hS ?_
    obtain⟨j2,n2,d3,i4,i0⟩:=Ex i0
    refine Gq BF [.a,.a,.a,.a,.a,(.v (vA Au j2)),(.c (vB d3)),.a] (u [29] [(39,vB (!d3))]) (aC (AI n2)<|aC (DI n2 Ha 0 94 true (vA Au j2))<|aC (Eq.refl (vA Au j2))<|aC (cU i4)<|aN)<|iC i0 (fun i0=>?_) (fun i0=>?_)
    ·refine Rg [.a] (sl 129 [(2,vB false)] []) (aN)<|hR<|Tr<|qR<|Tr ?_
     obtain rfl:=z0 _ (sI i0).symm
     replace h:=Cy h
     exact Tr<|qR<|Tr<|bQ _ (kB h)
    refine hK<|Tn<|Gg [.a] (u [39] [(4,vI 0)]) (aN)<|hB ?_
    obtain⟨d5,y2,i0⟩:=bS i0
    refine Gi (fun(v:Int)=>(u [] [(4,vI v)])) y2 (wT) ?_
    rintro o0 k4 n0 d2
    replace n0:Ds a0 k0 o0=some k4:=n0
    unfold Ds at n0
    refine hS<|Rg (nA 3) (sl 129 [(1,vP [1] (0)),(3,vI k0),(4,vI o0),(42,vB (decide (o0<k0)))] [bx [1] (Aj a0)]) (aN)<|iC n0 (fun n0=>?_) (fun n0=>?_)
    ·refine hK<|Tn<|hS<|hB ?_
     obtain⟨t1,o2,x1,p2,n0⟩:=Ex n0
     refine Gq BF [.a,.a,.a,.a,.a,(.v (vI t1.Id)),.a,.a,.a,.a,.a,(.v (vI x1.Id)),.a] (u [42] [(57,vB (t1.Id==x1.Id))]) (aC (AI o2)<|aC (DI o2 Ha 0 1 false (vI t1.Id))<|aC (Eq.refl (vI t1.Id))<|aC (AI p2)<|aC (DI p2 Ha 0 1 false (vI x1.Id))<|aC (Eq.refl (vI x1.Id))<|aN)<|iC n0 (fun n0=>?_) (fun n0=>?_)
     ·refine Rg [.a] (sl 129 [(2,vB false)] []) (aN)<|hR<|qR<|Tr ?_
      obtain rfl:=d2 _ (sI n0).symm
      replace i0:=Cy i0
      refine Tr<|qR<|qR<|Tr ?_
      obtain rfl:=z0 _ (sI i0).symm
      replace h:=Cy h
      exact Tr<|qR<|Tr<|bQ _ (kB h)
     refine hK<|qN<|Tn<|Ge (nA 3) (u [] [(4,vI (Ab (o0+1))),(43,vI o0),(44,vI (Ab (o0+1)))]) (aN)<|Tn ⟨(Ab (o0+1)),(sI n0).symm,wT⟩
    refine hE<|Te ?_
    obtain rfl:=d2 _ (sI n0).symm
    replace i0:=CZ i0
    refine Te<|qX<|qN<|Tn ⟨(),i0,wT⟩
   rintro _ y0
   replace y0:HA k0=some j1:=y0
   unfold HA at y0
   refine Ge (nA 3) (u [] [(3,vI (Ab (k0+1))),(30,vI k0),(31,vI (Ab (k0+1)))]) (aN)<|Tn ⟨(Ab (k0+1)),(sI y0).symm,wT⟩
  refine hE<|Te ?_
  obtain rfl:=z0 _ (sI i0).symm
  replace h:=CZ h
  refine Te<|qX<|Tn ⟨(),h,wT⟩
 rintro _ t0
 replace t0:IY a0=some r:=t0
 unfold IY at t0
 refine Gj (X:=Unit) (fun v=>(u [] [])) (fun v=>IX a0=some r) ?_ ?_
 ·refine Gg [.a] (u [] [(5,vI 0)]) (aN)<|hB ?_
  obtain⟨y4,t2,t0⟩:=bS t0
  refine Gi (fun(v:Int)=>(u [] [(5,vI v)])) t2 (wT) ?_
  rintro p0 j4 j0 z1
  replace j0:EL a0 p0=some j4:=j0
  unfold EL at j0
  refine hS<|Gg (nA 5) (u [] [(62,vB (decide (p0<(a0.Waiting.length:Int))))]) (aN)<|iC j0 (fun j0=>?_) (fun j0=>?_)
  ·refine hK<|Tn<|hS<|hB ?_
   obtain⟨q1,m2,j0⟩:=bS j0
   refine Gg [.a,.a,.a,.a,(.v (vA Aq q1)),.a,.a] (uo [62] [(6,vP [6] (0))] [.e (bx [6] (Aq q1)),.k 0]) (aC (AI m2)<|aC (DI m2 JV 0 89 true (vA Aq q1))<|aC (Eq.refl (vA Aq q1))<|aN) ?_
   obtain⟨i1,z3,o1,n3,t4,d4,i2,o3,j0⟩:=D2 j0
   refine Gg [.a,.a,.a,(.c (vB i1)),.a,.a,.a,.a,.a,.a,(.v (vB o1)),.a,.a,.a,(.c (vB t4)),.a,(.v (vB i2))] (uo [6] [(86,vB i2)] [.k 1]) (aC (FV z3)<|aG ((!i1)==false)<|aG ((!i1)==false)<|aG ((!i1)==false)<|aF (!i1)<|aB n3<|aG (o1==false)<|aC (c1 d4 T1)<|aG (o1==false)<|aF o1<|aB o3<|aN)<|iC j0 (fun j0=>?_) (fun j0=>?_)
   ·refine Rg [.a] (sl 129 [(2,vB false)] []) (aN)<|hR<|qR<|Tr ?_
    obtain rfl:=z1 _ (sI j0).symm
    replace t0:=Cy t0
    exact Tr<|qR<|Tr<|bQ _ (kB t0)
   refine hK<|qN<|Tn<|Re (nA 3) (sl 129 [(1,vP [1] (0)),(5,vI (Ab (p0+1))),(63,vI p0),(64,vI (Ab (p0+1))),(86,vB i2)] [bx [1] (Aj a0)]) (aN)<|Tn ⟨(Ab (p0+1)),(sI j0).symm,wT⟩
  refine hE<|Te ?_
  obtain rfl:=z1 _ (sI j0).symm
  replace t0:=CZ t0
  refine Te<|qX<|Tn ⟨(),t0,wT⟩
 rintro _ x0
 replace x0:IX a0=some r:=x0
 unfold IX at x0
 refine Sj (X:=Unit) (fun v=>(sl 129 [] [])) (fun v=>IW=some r) ?_ ?_
 ·refine Gg [.a] (u [] [(7,vI 0)]) (aN)<|hB ?_
  obtain⟨i5,p3,x0⟩:=bS x0
  refine Gi (fun(v:Int)=>(u [] [(7,vI v)])) p3 (wT) ?_
  rintro q0 x4 m0 q2
  replace m0:FL a0 q0=some x4:=m0
  unfold FL at m0
  refine hS<|Gg (nA 5) (u [] [(91,vB (decide (q0<(a0.Conts.length:Int))))]) (aN)<|iC m0 (fun m0=>?_) (fun m0=>?_)
  ·refine hK<|Tn<|hS<|hB ?_
   obtain⟨p1,k2,m0⟩:=bS m0
   refine Gg [.a,.a,.a,.a,(.v (vA AF p1)),.a,.a] (uo [91] [(8,vP [8] (0))] [.e (bx [8] (AF p1)),.k 0]) (aC (AI k2)<|aC (DI k2 Kh 0 6 true (vA AF p1))<|aC (Eq.refl (vA AF p1))<|aN) ?_
   obtain⟨d1,q3,k1,i3,o4,t3,m1,j3,m0⟩:=D2 m0
   obtain⟨p4,x3,n1,k3,q4,y3,z2,m3,m0⟩:=D2 m0
   refine Rg [.a,.a,.a,(.c (vB d1)),.a,.a,.a,.a,.a,.a,.a,(.v (vB k1)),.a,.a,.a,(.c (vB o4)),.a,(.v (vB m1)),.a,.a,.a,(.c (vB p4)),.a,(.v (vB n1)),.a,.a,.a,(.c (vS q4)),.a,(.v (vB z2))] (sl 129 [(1,vP [1] (0)),(7,vI q0),(128,vB z2)] [bx [1] (Aj a0)]) (aC (FV q3)<|aG ((!d1)==false)<|aG ((!d1)==false)<|aH ((!d1)==false)<|aF (!d1)<|aB i3<|aG (k1==false)<|aC (c1 t3 Ee)<|aG (k1==false)<|aF k1<|aB j3<|aG (m1==false)<|aC (c1 x3 jF)<|aG (m1==false)<|aF m1<|aB k3<|aG (n1==false)<|aC (c1 y3 Mg)<|aG (n1==false)<|aF n1<|aB m3<|aN)<|iC m0 (fun m0=>?_) (fun m0=>?_)
   ·refine Rg [.a] (sl 129 [(2,vB false)] []) (aN)<|hR<|qR<|Tr ?_
    obtain rfl:=q2 _ (sI m0).symm
    replace x0:=Cy x0
    exact Tr<|qR<|Tr<|bQ _ (kB x0)
   refine hK<|qN<|Tn<|Ge (nA 3) (u [] [(7,vI (Ab (q0+1))),(92,vI q0),(93,vI (Ab (q0+1)))]) (aN)<|Tn ⟨(Ab (q0+1)),(sI m0).symm,wT⟩
  refine hE<|Te ?_
  obtain rfl:=q2 _ (sI m0).symm
  replace x0:=CZ x0
  refine Te<|qX<|Tn ⟨(),x0,wT⟩
 rintro _ y1
 replace y1:IW=some r:=y1
 unfold IW at y1
 exact Rg [.a] (sl 129 [(2,vB true)] []) (aN)<|hR<|bQ _ (kB y1)
end Go.PL
