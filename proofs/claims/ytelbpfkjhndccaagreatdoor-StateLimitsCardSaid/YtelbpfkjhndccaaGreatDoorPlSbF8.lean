/- Functions of the program, as partial functions in Lean, with proofs. -/
import Derived.Test.YtelbpfkjhndccaaGreatDoorPlSbB
import Derived.Test.YtelbpfkjhndccaaGreatDoorPlSbF0
import Derived.Test.YtelbpfkjhndccaaGreatDoorPlSbF1
import Derived.Test.YtelbpfkjhndccaaGreatDoorPlSbF2
import Derived.Test.YtelbpfkjhndccaaGreatDoorPlSbF4
import Derived.Test.YtelbpfkjhndccaaGreatDoorPlSbF6
import Derived.Test.YtelbpfkjhndccaaGreatDoorPlSbF7
namespace Go.PL
open Go Go.RowKit Go.Proofs
set_option maxRecDepth 100000
set_option linter.all false
set_option maxHeartbeats 4000000
attribute [local irreducible] Ai B4 BL
def Km:Option (Bool):=
 some true
def H6 (a0:Aj) (vt7_9:Int):Option ((Int)⊕(Unit⊕Unit)):=
 (if(decide (vt7_9<(a0.Conts.length:Int)))=true then
  (idx a0.Conts vt7_9).bind fun e12=>
  (gd ((decide (300<(e12.Objects.length:Int)))==false) (idx a0.Conts vt7_9)).bind fun e13=>
  (gd ((decide (300<(e12.Objects.length:Int)))==false) (IH (⟨0,(⟨0,0,0,0,0,0,0,[],0,0,(⟨0,0⟩:Ae),(⟨0,0⟩:Ae),(⟨0,0⟩:Ae)⟩:Af),e13.Mods,(⟨(⟨0,0,(⟨0,0,0,0,0⟩:A5 (Int))⟩:A1),false,false,0⟩:CG),false,(⟨0,0,(⟨0,0,0,0,0,0,0,[],0,0,(⟨0,0⟩:Ae),(⟨0,0⟩:Ae),(⟨0,0⟩:Ae)⟩:Af)⟩:By),false,([]:List (C0)),([]:List (Aw)),(⟨0,0,(⟨0,0,0,0,0,0,0,[],0,0,(⟨0,0⟩:Ae),(⟨0,0⟩:Ae),(⟨0,0⟩:Ae)⟩:Af),0,0,0,0⟩:AJ)⟩:AN))).bind fun r14=>
  (some (if(decide (300<(e12.Objects.length:Int)))=true then true else !r14)).bind fun b15=>
  (if b15=true then
   some (.inr (.inr ()))
  else
   some (.inl (Ab (vt7_9+1))))
 else
  some (.inr (.inl ())))
def Hz (a0:Aj):Option (Bool):=
 (iter (fun(v:Int)=>H6 a0 v) FU (0:Int)).bind (Sum.elim (fun o0=>Km) (fun o1=>some false))
def H7 (a0:Aj) (vt6_18:Int):Option ((Int)⊕(Unit⊕Unit)):=
 (if(decide (vt6_18<(a0.Waiting.length:Int)))=true then
  (idx a0.Waiting vt6_18).bind fun e21=>
  (IH e21.Ability).bind fun r22=>
  (if(!r22)=true then
   some (.inr (.inr ()))
  else
   some (.inl (Ab (vt6_18+1))))
 else
  some (.inr (.inl ())))
def HA (a0:Aj):Option (Bool):=
 (iter (fun(v:Int)=>H7 a0 v) FU (0:Int)).bind (Sum.elim (fun o0=>Hz a0) (fun o1=>some false))
def H8 (a0:Aj) (vt5_25:Int):Option ((Int)⊕(Unit⊕Unit)):=
 (if(decide (vt5_25<(a0.Stack.length:Int)))=true then
  (idx a0.Stack vt5_25).bind fun e28=>
  (gd ((decide (20<(e28.Targets.length:Int)))==false) (idx a0.Stack vt5_25)).bind fun e29=>
  (gd ((decide (20<(e28.Targets.length:Int)))==false) (IH e29.Ability)).bind fun r30=>
  (some (if(decide (20<(e28.Targets.length:Int)))=true then true else !r30)).bind fun b31=>
  (if b31=true then
   some (.inr (.inr ()))
  else
   some (.inl (Ab (vt5_25+1))))
 else
  some (.inr (.inl ())))
def F3 (a0:Aj) (vt3_1:Int):Option (Bool):=
 (some (if(decide (300<vt3_1))=true then true else decide (10<(a0.Players.length:Int)))).bind fun b3=>
 (if b3=true then
  some false
 else
  (iter (fun(v:Int)=>H8 a0 v) FU (0:Int)).bind (Sum.elim (fun o0=>HA a0) (fun o1=>some false)))
def H9 (a0:Aj) (vt3_35:Int) (vt4_36:Int):Option ((Int×Int)⊕(Int)):=
 (some (if(decide (vt4_36<(a0.Players.length:Int)))=true then decide (vt4_36<10)else false)).bind fun b39=>
 (if b39=true then
  (idx a0.Players vt4_36).bind fun e41=>
  (idx a0.Players vt4_36).bind fun e42=>
  (idx a0.Players vt4_36).bind fun e43=>
  some (.inl ((Ab ((Ab ((Ab (vt3_35+(e41.Library.length:Int)))+(e42.Hand.length:Int)))+(e43.Graveyard.length:Int))),(Ab (vt4_36+1))))
 else
  some (.inr vt3_35))
def L5 (a0:Aj):Option (Bool):=
 (iter (fun(v:Int×Int)=>H9 a0 v.1 v.2) FU ((Ab ((Ab ((Ab ((Ab ((Ab ((Ab ((a0.Objects.length:Int)+(a0.Battlefield.length:Int)))+(a0.Exile.length:Int)))+(a0.Extra.length:Int)))+(Ab ((8:Int)*(a0.Stack.length:Int)))))+(Ab ((8:Int)*(a0.Waiting.length:Int)))))+(Ab ((4:Int)*(a0.Conts.length:Int))))),(0:Int))).bind (fun o0=>F3 a0 o0)
def Ze (a0:Aj) (r:Bool):Prop:=Ah Tryz.prog I0 10 [vA Am a0] (· =vB r)
theorem XG {a0:Aj} {r:Bool} (h:L5 a0=some r):Ze a0 r:=by
 refine Ah.bo Ag Tryz.func10 rfl Tryz.ntmps10 [.tmp 2] fun _ _ _ _=>?_
 unfold L5 at h
 refine Rg [.a,.a] (sl 148 [(1,vP [1] (0))] [bx [1] (Am a0)]) (aN)<|Gg (nA 31) (u [] [(3,vI (Ab ((Ab ((Ab ((Ab ((Ab ((Ab ((a0.Objects.length:Int)+(a0.Battlefield.length:Int)))+(a0.Exile.length:Int)))+(a0.Extra.length:Int)))+(Ab ((8:Int)*(a0.Stack.length:Int)))))+(Ab ((8:Int)*(a0.Waiting.length:Int)))))+(Ab ((4:Int)*(a0.Conts.length:Int))))))]) (aN)<|Gj (X:=Int) (fun v=>(u [] [(3,vI v)])) (fun v=>F3 a0 v=some r) ?_ ?_
 ·refine Gg [.a] (u [] [(4,vI 0)]) (aN)<|hB ?_
  obtain⟨p4,z2,h⟩:=bS h
  refine Gi (fun(v:Int×Int)=>(u [] [(3,vI v.1),(4,vI v.2)])) z2 (wT) ?_
  rintro⟨p0,i0⟩ d4 n0 d3
  replace n0:H9 a0 p0 i0=some d4:=n0
  unfold H9 at n0
  refine hS ?_
  obtain⟨j3,o3,n0⟩:=bS n0
  refine Gg [.a,.a,.a,.a,.a,.a,.a,.a,(.v (vB j3))] (u [] [(46,vB j3)]) (aG ((decide (i0<(a0.Players.length:Int)))==true)<|aT (decide (i0<(a0.Players.length:Int)))<|aB o3<|aN)<|iC n0 (fun n0=>?_) (fun n0=>?_)
  ·refine hK<|Tn<|hS<|hB ?_
   obtain⟨j1,o2,k1,p2,n1,q2,n0⟩:=M9 n0
   refine Gf DV [.a,.a,.a,.a,.a,.a,(.v (vL (eI .i64) j1.Library)),.a,.a,.a,.a,.a,.a,.a,(.v (vL (eI .i64) k1.Hand)),.a,.a,.a,.a,.a,.a,.a,(.v (vL (eI .i64) n1.Graveyard)),.a,.a,.a] (u [] [(3,vI (Ab ((Ab ((Ab (p0+(j1.Library.length:Int)))+(k1.Hand.length:Int)))+(n1.Graveyard.length:Int)))),(49,vI p0),(50,vP [1] (0)),(51,vL Ad a0.Players),(52,vI i0),(53,vX Ad a0.Players ((i0).toNat *14)),(54,vX Ad a0.Players ((i0).toNat *14+11)),(55,vL (eI .i64) j1.Library),(56,vI (j1.Library.length:Int)),(57,vI (Ab (p0+(j1.Library.length:Int)))),(58,vP [1] (0)),(59,vL Ad a0.Players),(60,vI i0),(61,vX Ad a0.Players ((i0).toNat *14)),(62,vX Ad a0.Players ((i0).toNat *14+12)),(63,vL (eI .i64) k1.Hand),(64,vI (k1.Hand.length:Int)),(65,vI (Ab ((Ab (p0+(j1.Library.length:Int)))+(k1.Hand.length:Int)))),(66,vP [1] (0)),(67,vL Ad a0.Players),(68,vI i0),(69,vX Ad a0.Players ((i0).toNat *14)),(70,vX Ad a0.Players ((i0).toNat *14+13)),(71,vL (eI .i64) n1.Graveyard),(72,vI (n1.Graveyard.length:Int)),(73,vI (Ab ((Ab ((Ab (p0+(j1.Library.length:Int)))+(k1.Hand.length:Int)))+(n1.Graveyard.length:Int))))]) (aC (Bm o2)<|aC (GN o2 C1 11 1 false (vL (eI .i64) j1.Library))<|aC (Eq.refl (vL (eI .i64) j1.Library))<|aC (Bm p2)<|aC (GN p2 C1 12 1 false (vL (eI .i64) k1.Hand))<|aC (Eq.refl (vL (eI .i64) k1.Hand))<|aC (Bm q2)<|aC (GN q2 C1 13 1 false (vL (eI .i64) n1.Graveyard))<|aC (Eq.refl (vL (eI .i64) n1.Graveyard))<|aN)<|qN<|Tn<|Ge (nA 3) (u [] [(4,vI (Ab (i0+1))),(47,vI i0),(48,vI (Ab (i0+1)))]) (aN)<|Tn ⟨((Ab ((Ab ((Ab (p0+(j1.Library.length:Int)))+(k1.Hand.length:Int)))+(n1.Graveyard.length:Int))),(Ab (i0+1))),(sI n0).symm,wT⟩
  refine hE<|Te ?_
  obtain rfl:=d3 _ (sI n0).symm
  refine Te<|qX<|Tn ⟨p0,h,wT⟩
 rintro m1 o0
 replace o0:F3 a0 m1=some r:=o0
 unfold F3 at o0
 refine hS ?_
 obtain⟨b3,i4,o0⟩:=bS o0
 refine Gg [.a,.a,.a,.a,.a,.a,.a,(.v (vB b3))] (u [3] [(81,vB b3)]) (aG ((decide (300<m1))==false)<|aG ((decide (300<m1))==false)<|aG ((decide (300<m1))==false)<|aF (decide (300<m1))<|aB i4<|aN)<|iC o0 (fun o0=>?_) (fun o0=>?_)
 ·exact Rg [.a] (sl 148 [(2,vB false)] []) (aN)<|hR<|Tr<|bQ _ (kB o0)
 refine hK<|Tn<|Gj (X:=Unit) (fun v=>(u [81] [])) (fun v=>HA a0=some r) ?_ ?_
 ·refine Gg [.a] (u [81] [(5,vI 0)]) (aN)<|hB ?_
  obtain⟨o4,y2,o0⟩:=bS o0
  refine Gi (fun(v:Int)=>(u [] [(5,vI v)])) y2 (wT) ?_
  rintro x0 z3 m0 t1
  replace m0:H8 a0 x0=some z3:=m0
  unfold H8 at m0
  refine hS<|Gg (nA 5) (u [] [(86,vB (decide (x0<(a0.Stack.length:Int))))]) (aN)<|iC m0 (fun m0=>?_) (fun m0=>?_)
  ·refine hK<|Tn<|hS<|hB ?_
   obtain⟨z0,m2,d2,n2,k4,t3,x1,n3,m0⟩:=Ij m0
   refine Gg [.a,.a,.a,.a,.a,(.v (vL Bg z0.Targets)),.a,.a,.a,.a,.a,.a,.a,.a,(.v (vA Bp d2.Ability)),(.c (vB k4)),.a,(.v (vB x1))] (u [86] [(106,vB x1)]) (aC (Bm m2)<|aC (GN m2 KQ 78 1 false (vL Bg z0.Targets))<|aC (Eq.refl (vL Bg z0.Targets))<|aG ((decide (20<(z0.Targets.length:Int)))==false)<|aC (fun hg:((decide (20<(z0.Targets.length:Int)))==false)=true=>aC (gi ((decide (20<(z0.Targets.length:Int)))==false))<|aC (gi ((decide (20<(z0.Targets.length:Int)))==false))<|aC (OW n2 hg).1<|aN)<|aG ((decide (20<(z0.Targets.length:Int)))==false)<|aC (fun hg:((decide (20<(z0.Targets.length:Int)))==false)=true=>aC (gi ((decide (20<(z0.Targets.length:Int)))==false))<|aC (GN (M8 n2 hg) KQ 6 72 true (vA Bp d2.Ability))<|aC (Eq.refl (vA Bp d2.Ability))<|aN)<|aC (c1 t3 MF)<|aG ((decide (20<(z0.Targets.length:Int)))==false)<|aF (decide (20<(z0.Targets.length:Int)))<|aB n3<|aN)<|iC m0 (fun m0=>?_) (fun m0=>?_)
   ·refine Rg [.a] (sl 148 [(2,vB false)] []) (aN)<|hR<|qR<|Tr ?_
    obtain rfl:=t1 _ (sI m0).symm
    replace o0:=EL o0
    exact Tr<|qR<|Tr<|bQ _ (kB o0)
   refine hK<|qN<|Tn<|Re (nA 3) (sl 148 [(1,vP [1] (0)),(5,vI (Ab (x0+1))),(87,vI x0),(88,vI (Ab (x0+1))),(106,vB x1)] [bx [1] (Am a0)]) (aN)<|Tn ⟨(Ab (x0+1)),(sI m0).symm,wT⟩
  refine hE<|Te ?_
  obtain rfl:=t1 _ (sI m0).symm
  replace o0:=Fa o0
  refine Te<|qX<|Tn ⟨(),o0,wT⟩
 rintro _ d1
 replace d1:HA a0=some r:=d1
 unfold HA at d1
 refine Gj (X:=Unit) (fun v=>(u [] [])) (fun v=>Hz a0=some r) ?_ ?_
 ·refine Gg [.a] (u [] [(6,vI 0)]) (aN)<|hB ?_
  obtain⟨n4,x2,d1⟩:=bS d1
  refine Gi (fun(v:Int)=>(u [] [(6,vI v)])) x2 (wT) ?_
  rintro t0 y3 k0 q1
  replace k0:H7 a0 t0=some y3:=k0
  unfold H7 at k0
  refine hS<|Gg (nA 5) (u [] [(111,vB (decide (t0<(a0.Waiting.length:Int))))]) (aN)<|iC k0 (fun k0=>?_) (fun k0=>?_)
  ·refine hK<|Tn<|hS<|hB ?_
   obtain⟨z1,k2,k3,q3,k0⟩:=JX k0
   refine Rg [.a,.a,.a,.a,.a,(.v (vA Bp z1.Ability)),(.c (vB k3)),.a] (sl 148 [(1,vP [1] (0)),(6,vI t0),(121,vB (!k3))] [bx [1] (Am a0)]) (aC (Bm k2)<|aC (GN k2 JE 2 72 true (vA Bp z1.Ability))<|aC (Eq.refl (vA Bp z1.Ability))<|aC (MF q3)<|aN)<|iC k0 (fun k0=>?_) (fun k0=>?_)
   ·refine Rg [.a] (sl 148 [(2,vB false)] []) (aN)<|hR<|qR<|Tr ?_
    obtain rfl:=q1 _ (sI k0).symm
    replace d1:=EL d1
    exact Tr<|qR<|Tr<|bQ _ (kB d1)
   refine hK<|qN<|Tn<|Ge (nA 3) (u [] [(6,vI (Ab (t0+1))),(112,vI t0),(113,vI (Ab (t0+1)))]) (aN)<|Tn ⟨(Ab (t0+1)),(sI k0).symm,wT⟩
  refine hE<|Te ?_
  obtain rfl:=q1 _ (sI k0).symm
  replace d1:=Fa d1
  refine Te<|qX<|Tn ⟨(),d1,wT⟩
 rintro _ i1
 replace i1:Hz a0=some r:=i1
 unfold Hz at i1
 refine Sj (X:=Unit) (fun v=>(sl 148 [] [])) (fun v=>Km=some r) ?_ ?_
 ·refine Gg [.a] (u [] [(7,vI 0)]) (aN)<|hB ?_
  obtain⟨m4,t2,i1⟩:=bS i1
  refine Gi (fun(v:Int)=>(u [] [(7,vI v)])) t2 (wT) ?_
  rintro y0 x3 j0 p1
  replace j0:H6 a0 y0=some x3:=j0
  unfold H6 at j0
  refine hS<|Rg (nA 5) (sl 148 [(1,vP [1] (0)),(7,vI y0),(126,vB (decide (y0<(a0.Conts.length:Int))))] [bx [1] (Am a0)]) (aN)<|iC j0 (fun j0=>?_) (fun j0=>?_)
  ·refine hK<|Tn<|hS<|hB ?_
   obtain⟨q0,i2,y1,j2,j4,p3,i3,m3,j0⟩:=Ij j0
   refine Gg [.a,.a,.a,.a,.a,(.v (vL (eI .i64) q0.Objects)),.a,.a,.a,.a,.a,.a,.a,.a,(.v (vL AM y1.Mods)),.a,(.c (vB j4)),.a,(.v (vB i3))] (u [126] [(147,vB i3)]) (aC (Bm i2)<|aC (GN i2 JF 4 1 false (vL (eI .i64) q0.Objects))<|aC (Eq.refl (vL (eI .i64) q0.Objects))<|aG ((decide (300<(q0.Objects.length:Int)))==false)<|aC (fun hg:((decide (300<(q0.Objects.length:Int)))==false)=true=>aC (gi ((decide (300<(q0.Objects.length:Int)))==false))<|aC (gi ((decide (300<(q0.Objects.length:Int)))==false))<|aC (OW j2 hg).1<|aN)<|aG ((decide (300<(q0.Objects.length:Int)))==false)<|aC (fun hg:((decide (300<(q0.Objects.length:Int)))==false)=true=>aC (gi ((decide (300<(q0.Objects.length:Int)))==false))<|aC (GN (M8 j2 hg) JF 5 1 false (vL AM y1.Mods))<|aC (Eq.refl (vL AM y1.Mods))<|aN)<|aC (fun hg:((decide (300<(q0.Objects.length:Int)))==false)=true=>aC (And.intro (show (((decide (300<(q0.Objects.length:Int)))==false)=true→((decide (300<(q0.Objects.length:Int)))==false)=true)∧True from⟨id,trivial⟩) fj)<|aN)<|aC (c1 p3 MF)<|aG ((decide (300<(q0.Objects.length:Int)))==false)<|aF (decide (300<(q0.Objects.length:Int)))<|aB m3<|aN)<|iC j0 (fun j0=>?_) (fun j0=>?_)
   ·refine Rg [.a] (sl 148 [(2,vB false)] []) (aN)<|hR<|qR<|Tr ?_
    obtain rfl:=p1 _ (sI j0).symm
    replace i1:=EL i1
    exact Tr<|qR<|Tr<|bQ _ (kB i1)
   refine hK<|qN<|Tn<|Ge (nA 3) (u [] [(7,vI (Ab (y0+1))),(127,vI y0),(128,vI (Ab (y0+1)))]) (aN)<|Tn ⟨(Ab (y0+1)),(sI j0).symm,wT⟩
  refine hE<|Te ?_
  obtain rfl:=p1 _ (sI j0).symm
  replace i1:=Fa i1
  refine Te<|qX<|Tn ⟨(),i1,wT⟩
 rintro _ o1
 replace o1:Km=some r:=o1
 unfold Km at o1
 exact Rg [.a] (sl 148 [(2,vB true)] []) (aN)<|hR<|bQ _ (kB o1)
def Cv (a0:Aj) (a1:Int):Option (Ao×Bool):=
 (AG a0.Objects a1).bind fun r1=>
 (if(!r1.2)=true then
  some ((⟨0,0,0,0,0,false,false,false,false,0,(⟨0,0,0⟩:A3 (Int)),0,0,0,false,0,0⟩:Ao),false)
 else
  (idx a0.Objects r1.1).bind fun e3=>
  some (e3,true))
def Rb (a0:Aj) (a1:Int) (r:Ao×Bool):Prop:=Ah Tryz.prog I0 44 [vA Am a0,vI a1] (· = .tup [vA Ac r.1,vB r.2])
theorem Dq {a0:Aj} {a1:Int} {r:Ao×Bool} (h:Cv a0 a1=some r):Rb a0 a1 r:=by
 refine Ah.bo Ag Tryz.func44 rfl Tryz.ntmps44 [.cell 4 63, .tmp 5] fun _ _ _ _=>?_
 unfold Cv at h
 refine Rg (nA 3) (sl 23 [(1,vI a1),(2,vP [2] (0)),(4,vP [4] (0))] [bx [4] [Aa 0,Aa 0,Aa 0,Aa 0,Aa 0,.bool false,.bool false,.bool false,.bool false,Aa 0,Aa (((⟨0,0,0⟩:A3 (Int))).x0),Aa (((⟨0,0,0⟩:A3 (Int))).x1),Aa (((⟨0,0,0⟩:A3 (Int))).x2),Aa 0,Aa 0,Aa 0,.bool false,Aa 0,Aa 0],bx [2] (Am a0)]) (aN) ?_
 obtain⟨r1,j0,h⟩:=bS h
 refine Gg [.a,.a,.a,(.c (.tup [vI r1.1,vB r1.2])),.a,.a,.a,.a,.a] (u [1] [(6,vI r1.1),(7,vB r1.2)]) (aC (CO j0)<|aC (show True∧0<[V.undef,V.undef].length from⟨trivial,(by decide)⟩)<|aC (show True∧1<[V.undef,V.undef].length from⟨trivial,(by decide)⟩)<|aN)<|hS<|Gg [.a,.a] (u [7] [(16,vB (!r1.2))]) (aN)<|iC h (fun h=>?_) (fun h=>?_)
 ·exact Gg (nA 3) (uo [2,6,16] [(5,vB false)] [.k 0]) (aC (And.intro trivial mY)<|aN)<|hR<|Tr<|bE (.tup [.agg [Aa 0,Aa 0,Aa 0,Aa 0,Aa 0,.bool false,.bool false,.bool false,.bool false,Aa 0,Aa (((⟨0,0,0⟩:A3 (Int))).x0),Aa (((⟨0,0,0⟩:A3 (Int))).x1),Aa (((⟨0,0,0⟩:A3 (Int))).x2),Aa 0,Aa 0,Aa 0,.bool false,Aa 0,Aa 0],vB false]) (.tup [.agg (Ac (⟨0,0,0,0,0,false,false,false,false,0,(⟨0,0,0⟩:A3 (Int)),0,0,0,false,0,0⟩:Ao)),vB false]) (congrArg (fun(q:Ao×Bool)=>(.tup [vA Ac q.1,vB q.2]:V)) (sI h))
 refine hK<|Tn ?_
 obtain⟨e3,i0,h⟩:=bS h
 exact Rg [.a,.a,.a,.a,(.v (vA Ac e3)),.a,.a] (sl 23 [(4,vP [4] (0)),(5,vB true)] [bx [4] (Ac e3)]) (aC (Bm i0)<|aC (GN i0 GX 0 19 true (vA Ac e3))<|aC (Eq.refl (vA Ac e3))<|aN)<|hR<|bE (.tup [vA Ac e3,vB true]) (.tup [.agg (Ac e3),vB true]) (congrArg (fun(q:Ao×Bool)=>(.tup [vA Ac q.1,vB q.2]:V)) (sI h))
def Bu (a0:List (Aw)) (a1:List (Aw)):Option (Bool):=
 (AH a0 a1).bind fun r1=>
 some r1
def GI (a0:List (Aw)) (a1:List (Aw)) (r:Bool):Prop:=Ah Tryz.prog I0 87 [vL Az a0,vL Az a1, .c (.fn 88)] (· =vB r)
theorem Gd {a0:List (Aw)} {a1:List (Aw)} {r:Bool} (h:Bu a0 a1=some r):GI a0 a1 r:=by
 refine Ah.bo Ag Tryz.func87 rfl Tryz.ntmps87 [.tmp 6] fun _ _ _ _=>?_
 unfold Bu at h
 refine Gg [.a] (u [] []) (aN) ?_
 obtain⟨r1,i0,h⟩:=bS h
 exact Rg [.a,.a,.a,(.c (vB r1)),.a] (sl 11 [(6,vB r1)] []) (aC (B7 i0)<|aN)<|hR<|bQ _ (kB h)
def F4 (a0:Bx) (vt43_18:Bool):Option (Bool):=
 (if vt43_18=true then
  (Je a0.N (1:Int) (131071:Int)).bind fun r21=>
  some r21
 else
  (if(a0.Kind==11)=true then
   (CR a0.Filter).bind fun r23=>
   some r23
  else
   (if(a0.Kind==12)=true then
    (Je a0.N (0:Int) (99:Int)).bind fun r25=>
    (gd (r25==true) (Je a0.M (0:Int) (99:Int))).bind fun r26=>
    (some (if r25=true then r26 else false)).bind fun b27=>
    some b27
   else
    (if(a0.Kind==13)=true then
     (Je a0.N (-99:Int) (99:Int)).bind fun r29=>
     (gd (r29==true) (Je a0.M (-99:Int) (99:Int))).bind fun r30=>
     (some (if r29=true then r30 else false)).bind fun b31=>
     some b31
    else
     some true))))
def F5 (a0:Bx) (vt27_10:Bool):Option (Bool):=
 (if vt27_10=true then
  (Ji a0.Sub).bind fun r13=>
  some r13
 else
  (if(a0.Kind==6)=true then
   (Je a0.N (0:Int) (31:Int)).bind fun r15=>
   some r15
  else
   (if(a0.Kind==7)=true then
    (Je a0.N (1:Int) (31:Int)).bind fun r17=>
    some r17
   else
    (if(a0.Kind==8)=true then
     F4 a0 (a0.Kind==8)
    else
     F4 a0 (a0.Kind==9)))))
def HB (a0:Bx) (vt15_5:Bool):Option (Bool):=
 (if vt15_5=true then
  (Je a0.N (1:Int) (63:Int)).bind fun r8=>
  (some (if r8=true then(Nc .i64 a0.N (6:Int))==(0:Int)else false)).bind fun b9=>
  some b9
 else
  (if(a0.Kind==4)=true then
   F5 a0 (a0.Kind==4)
  else
   F5 a0 (a0.Kind==5)))
def IX (a0:Bx):Option (Bool):=
 (Je a0.Kind (1:Int) (14:Int)).bind fun r1=>
 (gd ((!r1)==false) (KW a0)).bind fun r2=>
 (some (if(!r1)=true then true else !(a0==r2))).bind fun b3=>
 (if b3=true then
  some false
 else
  (if(a0.Kind==2)=true then
   HB a0 (a0.Kind==2)
  else
   HB a0 (a0.Kind==3)))
def fo (a0:Bx) (r:Bool):Prop:=Ah Tryz.prog I0 96 [vA AM a0] (· =vB r)
theorem WB {a0:Bx} {r:Bool} (h:IX a0=some r):fo a0 r:=by
 refine Ah.bo Ag Tryz.func96 rfl Tryz.ntmps96 [.tmp 2] fun _ _ _ _=>?_
 unfold IX at h
 refine Rg [.a,.a] (sl 74 [(1,vP [1] (0))] [bx [1] (AM a0)]) (aN)<|hS ?_
 obtain⟨r1,k2,r2,m2,b3,i2,h⟩:=M9 h
 refine Gq DV [.a,.a,(.c (vB r1)),.a,.a,.a,.a,(.c (vA AM r2)),(.v (vB (!(a0==r2)))),(.v (vB b3))] (u [] [(12,vB b3)]) (aC (Hk k2)<|aC (c1 m2 YW)<|aC (fun hg:((!r1)==false)=true=>aC (gi ((!r1)==false))<|aC (gi ((!r1)==false))<|aC (congrArg (fun z=>V.c (.bool (!z))) (fb a0 r2))<|aN)<|aF (!r1)<|aB i2<|aN)<|iC h (fun h=>?_) (fun h=>?_)
 ·exact Rg [.a] (sl 74 [(2,vB false)] []) (aN)<|hR<|Tr<|bQ _ (kB h)
 refine hK<|Tn<|hS<|Gg [.a,.a] (u [12] [(14,vI a0.Kind)]) (aN)<|hB<|Gj (X:=Bool) (fun v=>(u [] [(15,vB v)])) (fun v=>HB a0 v=some r) ?_ ?_
 ·refine Gg [.a,.a] (u [] [(15,vB (a0.Kind==2))]) (aN)<|iC h (fun h=>?_) (fun h=>?_)
  ·refine hK<|Tn ⟨(a0.Kind==2),h,wT⟩
  refine Ge [.a,.a] (u [] [(15,vB (a0.Kind==3)),(17,vB (a0.Kind==3))]) (aN)<|Tn ⟨(a0.Kind==3),h,wT⟩
 rintro q0 k0
 replace k0:HB a0 q0=some r:=k0
 unfold HB at k0
 refine iC k0 (fun k0=>?_) (fun k0=>?_)
 ·obtain⟨r8,n2,b9,j2,k0⟩:=JX k0
  exact Rg [.a,.a,(.c (vB r8)),.a,.a,.a,.a,.a,(.v (vB b9)),.a] (sl 74 [(2,vB b9)] []) (aC (Hk n2)<|aG (r8==true)<|aG (r8==true)<|aG (r8==true)<|aT r8<|aB j2<|aN)<|hR<|qR<|Tr<|bQ _ (kB k0)
 refine Gj (X:=Bool) (fun v=>(u [15] [(27,vB v)])) (fun v=>F5 a0 v=some r) ?_ ?_
 ·refine Gg [.a,.a] (u [15] [(27,vB (a0.Kind==4))]) (aN)<|iC k0 (fun k0=>?_) (fun k0=>?_)
  ·refine hK<|Tn ⟨(a0.Kind==4),k0,wT⟩
  refine Ge [.a,.a] (u [] [(27,vB (a0.Kind==5)),(29,vB (a0.Kind==5))]) (aN)<|Tn ⟨(a0.Kind==5),k0,wT⟩
 rintro m0 j0
 replace j0:F5 a0 m0=some r:=j0
 unfold F5 at j0
 refine iC j0 (fun j0=>?_) (fun j0=>?_)
 ·obtain⟨y0,n1,j0⟩:=bS j0
  exact Rg [.a,.a,(.c (vB y0)),.a] (sl 74 [(2,vB y0)] []) (aC (OF n1)<|aN)<|hR<|qR<|Tr<|bQ _ (kB j0)
 refine Gg [.a,.a] (u [27] [(33,vB (a0.Kind==6))]) (aN)<|iC j0 (fun j0=>?_) (fun j0=>?_)
 ·obtain⟨z0,o1,j0⟩:=bS j0
  exact Rg [.a,.a,(.c (vB z0)),.a] (sl 74 [(2,vB z0)] []) (aC (Hk o1)<|aN)<|hR<|qR<|Tr<|bQ _ (kB j0)
 refine Gg [.a,.a] (u [33] [(38,vB (a0.Kind==7))]) (aN)<|iC j0 (fun j0=>?_) (fun j0=>?_)
 ·obtain⟨d1,p1,j0⟩:=bS j0
  exact Rg [.a,.a,(.c (vB d1)),.a] (sl 74 [(2,vB d1)] []) (aC (Hk p1)<|aN)<|hR<|qR<|Tr<|bQ _ (kB j0)
 refine Gj (X:=Bool) (fun v=>(u [38] [(43,vB v)])) (fun v=>F4 a0 v=some r) ?_ ?_
 ·refine Gg [.a,.a] (u [38] [(43,vB (a0.Kind==8))]) (aN)<|iC j0 (fun j0=>?_) (fun j0=>?_)
  ·refine hK<|Tn ⟨(a0.Kind==8),j0,wT⟩
  refine Re [.a,.a] (sl 74 [(1,vP [1] (0)),(14,vI a0.Kind),(43,vB (a0.Kind==9)),(45,vB (a0.Kind==9))] [bx [1] (AM a0)]) (aN)<|Tn ⟨(a0.Kind==9),j0,wT⟩
 rintro n0 i0
 replace i0:F4 a0 n0=some r:=i0
 unfold F4 at i0
 refine iC i0 (fun i0=>?_) (fun i0=>?_)
 ·obtain⟨i1,q1,i0⟩:=bS i0
  exact Rg [.a,.a,(.c (vB i1)),.a] (sl 74 [(2,vB i1)] []) (aC (Hk q1)<|aN)<|hR<|qR<|Tr<|bQ _ (kB i0)
 refine Rg [.a,.a] (sl 74 [(1,vP [1] (0)),(14,vI a0.Kind),(49,vB (a0.Kind==11))] [bx [1] (AM a0)]) (aN)<|iC i0 (fun i0=>?_) (fun i0=>?_)
 ·obtain⟨j1,t1,i0⟩:=bS i0
  exact Rg [.a,.a,(.c (vB j1)),.a] (sl 74 [(2,vB j1)] []) (aC (Em t1)<|aN)<|hR<|qR<|Tr<|bQ _ (kB i0)
 refine Gg [.a,.a] (u [49] [(54,vB (a0.Kind==12))]) (aN)<|iC i0 (fun i0=>?_) (fun i0=>?_)
 ·obtain⟨o0,x1,o2,y1,t0,k1,i0⟩:=M9 i0
  exact Rg [.a,.a,(.c (vB o0)),.a,.a,.a,(.c (vB o2)),(.v (vB t0)),.a] (sl 74 [(2,vB t0)] []) (aC (Hk x1)<|aG (o0==true)<|aC (c1 y1 Hk)<|aT o0<|aB k1<|aN)<|hR<|qR<|Tr<|bQ _ (kB i0)
 refine Gg [.a,.a] (u [14,54] [(64,vB (a0.Kind==13))]) (aN)<|iC i0 (fun i0=>?_) (fun i0=>?_)
 ·obtain⟨p0,z1,p2,d2,x0,m1,i0⟩:=M9 i0
  exact Rg [.a,.a,(.c (vB p0)),.a,.a,.a,(.c (vB p2)),(.v (vB x0)),.a] (sl 74 [(2,vB x0)] []) (aC (Hk z1)<|aG (p0==true)<|aC (c1 d2 Hk)<|aT p0<|aB m1<|aN)<|hR<|qR<|Tr<|bQ _ (kB i0)
 exact hK<|qN<|Tn<|Rg [.a] (sl 74 [(2,vB true)] []) (aN)<|hR<|bQ _ (kB i0)
def DY (a0:AJ) (vt37_10:Bool):Option (Bool):=
 (if vt37_10=true then
  (some (if(decide (1≤a0.N))=true then decide (a0.N≤99)else false)).bind fun b13=>
  some b13
 else
  (if(a0.Do==7)=true then
   (some (if(decide (1≤a0.N))=true then decide (a0.N≤99)else false)).bind fun b15=>
   (gd (b15==true) (F0 a0.Counter)).bind fun r16=>
   (some (if b15=true then r16 != ([]:List UInt8)else false)).bind fun b17=>
   some b17
  else
   (if(a0.Do==5)=true then
    (some (if(a0.Zone==1)=true then true else a0.Zone==2)).bind fun b19=>
    (some (if b19=true then true else a0.Zone==4)).bind fun b20=>
    some b20
   else
    some true)))
def DI (a0:AJ):Option (Bool):=
 (DS a0.On a0.Do).bind fun r1=>
 (gd ((!r1)==false) (Fn a0)).bind fun r2=>
 (some (if(!r1)=true then true else !(a0==r2))).bind fun b3=>
 (some (if b3=true then true else decide (a0.Who<0))).bind fun b4=>
 (some (if b4=true then true else decide (2<a0.Who))).bind fun b5=>
 (if b5=true then
  some false
 else
  (CR a0.Filter).bind fun r7=>
  (some (if(!r7)=true then true else a0.Filter.Zone != 0)).bind fun b8=>
  (if b8=true then
   some false
  else
   (if(a0.Do==2)=true then
    DY a0 (a0.Do==2)
   else
    DY a0 (a0.Do==4))))
def XH (a0:AJ) (r:Bool):Prop:=Ah Tryz.prog I0 91 [vA Bk a0] (· =vB r)
theorem Vz {a0:AJ} {r:Bool} (h:DI a0=some r):XH a0 r:=by
 refine Ah.bo Ag Tryz.func91 rfl Tryz.ntmps91 [.tmp 2] fun _ _ _ _=>?_
 unfold DI at h
 refine Rg [.a,.a] (sl 79 [(1,vP [1] (0))] [bx [1] (Bk a0)]) (aN)<|hS ?_
 obtain⟨r1,n1,r2,o1,b3,i1,b4,j1,h⟩:=Ij h
 obtain⟨b5,k1,h⟩:=bS h
 refine Gq DV [.a,.a,.a,.a,(.c (vB r1)),.a,.a,.a,.a,(.c (vA Bk r2)),(.v (vB (!(a0==r2)))),(.v (vB b3)),.a,.a,.a,.a,(.v (vB b4)),.a,.a,.a,.a,(.v (vB b5))] (u [] [(24,vB b5)]) (aC (Sc n1)<|aC (c1 o1 P4)<|aC (fun hg:((!r1)==false)=true=>aC (gi ((!r1)==false))<|aC (gi ((!r1)==false))<|aC (congrArg (fun z=>V.c (.bool (!z))) (fd a0 r2))<|aN)<|aF (!r1)<|aB i1<|aG (b3==false)<|aG (b3==false)<|aF b3<|aB j1<|aG (b4==false)<|aG (b4==false)<|aF b4<|aB k1<|aN)<|iC h (fun h=>?_) (fun h=>?_)
 ·exact Rg [.a] (sl 79 [(2,vB false)] []) (aN)<|hR<|Tr<|bQ _ (kB h)
 refine hK<|Tn<|hS ?_
 obtain⟨r7,p1,b8,m1,h⟩:=JX h
 refine Gg [.a,.a,(.c (vB r7)),.a,.a,.a,.a,.a,.a,(.v (vB b8))] (u [24] [(34,vB b8)]) (aC (Em p1)<|aG ((!r7)==false)<|aG ((!r7)==false)<|aG ((!r7)==false)<|aF (!r7)<|aB m1<|aN)<|iC h (fun h=>?_) (fun h=>?_)
 ·exact Rg [.a] (sl 79 [(2,vB false)] []) (aN)<|hR<|Tr<|bQ _ (kB h)
 refine hK<|Tn<|hS<|Gg [.a,.a] (u [34] [(36,vI a0.Do)]) (aN)<|hB<|Gj (X:=Bool) (fun v=>(u [] [(37,vB v)])) (fun v=>DY a0 v=some r) ?_ ?_
 ·refine Gg [.a,.a] (u [] [(37,vB (a0.Do==2))]) (aN)<|iC h (fun h=>?_) (fun h=>?_)
  ·refine hK<|Tn ⟨(a0.Do==2),h,wT⟩
  refine Ge [.a,.a] (u [] [(37,vB (a0.Do==4)),(39,vB (a0.Do==4))]) (aN)<|Tn ⟨(a0.Do==4),h,wT⟩
 rintro m0 i0
 replace i0:DY a0 m0=some r:=i0
 unfold DY at i0
 refine iC i0 (fun i0=>?_) (fun i0=>?_)
 ·obtain⟨n0,q0,i0⟩:=bS i0
  exact Rg [.a,.a,.a,.a,.a,.a,.a,(.v (vB n0)),.a] (sl 79 [(2,vB n0)] []) (aG ((decide (1≤a0.N))==true)<|aG ((decide (1≤a0.N))==true)<|aT (decide (1≤a0.N))<|aB q0<|aN)<|hR<|qR<|Tr<|bQ _ (kB i0)
 refine Gg [.a,.a] (u [37] [(48,vB (a0.Do==7))]) (aN)<|iC i0 (fun i0=>?_) (fun i0=>?_)
 ·obtain⟨j0,t0,q1,d1,o0,x0,i0⟩:=M9 i0
  exact Rg [.a,.a,.a,.a,.a,.a,.a,(.v (vB j0)),.a,.a,.a,(.c (vS q1)),.a,(.v (vB o0)),.a] (sl 79 [(2,vB o0)] []) (aG ((decide (1≤a0.N))==true)<|aG ((decide (1≤a0.N))==true)<|aT (decide (1≤a0.N))<|aB t0<|aG (j0==true)<|aC (c1 d1 JO)<|aG (j0==true)<|aT j0<|aB x0<|aN)<|hR<|qR<|Tr<|bQ _ (kB i0)
 refine Gg [.a,.a] (u [36,48] [(64,vB (a0.Do==5))]) (aN)<|iC i0 (fun i0=>?_) (fun i0=>?_)
 ·obtain⟨k0,y0,p0,z0,i0⟩:=JX i0
  exact Rg [.a,.a,.a,.a,.a,.a,.a,(.v (vB k0)),.a,.a,.a,.a,(.v (vB p0)),.a] (sl 79 [(2,vB p0)] []) (aG ((a0.Zone==1)==false)<|aG ((a0.Zone==1)==false)<|aF (a0.Zone==1)<|aB y0<|aG (k0==false)<|aG (k0==false)<|aF k0<|aB z0<|aN)<|hR<|qR<|Tr<|bQ _ (kB i0)
 exact hK<|qN<|Tn<|Rg [.a] (sl 79 [(2,vB true)] []) (aN)<|hR<|bQ _ (kB i0)
def HC (a0:IM) (a1:Int) (numbered_t5_1:Bool) (filtered_t6_2:Bool):Option (Bool):=
 (some (if(decide (a0.N<1))=true then true else decide ((if 4<a1 then(4:Int)else a1)<a0.N))).bind fun b4=>
 (some (if numbered_t5_1=true then b4 else false)).bind fun b5=>
 (some (if(!numbered_t5_1)=true then a0.N != 0 else false)).bind fun b6=>
 (if(if b5=true then true else b6)=true then
  some false
 else
  (if filtered_t6_2=true then
   (CR a0.Filter).bind fun r9=>
   some r9
  else
   some (a0.Filter==(⟨0,0,0,0,0,0,0,[],0,0,(⟨0,0⟩:Ae),(⟨0,0⟩:Ae),(⟨0,0⟩:Ae)⟩:Af))))
def Iw (a0:IM) (a1:Int):Option (Bool):=
 HC a0 a1 true false
def EH (a0:IM) (a1:Int) (vt9_11:Bool):Option (Bool):=
 (if vt9_11=true then
  HC a0 a1 false false
 else
  (if(a0.Kind==3)=true then
   Iw a0 a1
  else
   (if(a0.Kind==8)=true then
    Iw a0 a1
   else
    (if(a0.Kind==4)=true then
     HC a0 a1 false true
    else
     some false))))
def JR (a0:IM) (a1:Int):Option (Bool):=
 (if(a0.Kind==1)=true then
  EH a0 a1 (a0.Kind==1)
 else
  (if(a0.Kind==2)=true then
   EH a0 a1 (a0.Kind==2)
  else
   (if(a0.Kind==5)=true then
    EH a0 a1 (a0.Kind==5)
   else
    (if(a0.Kind==6)=true then
     EH a0 a1 (a0.Kind==6)
    else
     EH a0 a1 (a0.Kind==7)))))
def fp (a0:IM) (a1:Int) (r:Bool):Prop:=Ah Tryz.prog I0 181 [vA J6 a0,vI a1] (· =vB r)
theorem dv {a0:IM} {a1:Int} {r:Bool} (h:JR a0 a1=some r):fp a0 a1 r:=by
 refine Ah.bo Ag Tryz.func181 rfl Tryz.ntmps181 [.tmp 4] fun _ _ _ _=>?_
 unfold JR at h
 refine Gg [.a,.a] (uo [0] [(2,vP [2] (0))] [.e (bx [2] (J6 a0))]) (aN)<|Gg [.a,.a] (u [] [(5,vB false),(6,vB false)]) (aN)<|Gj (X:=Bool×Bool) (fun v=>(u [] [(5,vB v.1),(6,vB v.2)])) (fun v=>HC a0 a1 v.1 v.2=some r) ?_ ?_
 ·refine Gg [.a,.a] (u [] [(8,vI a0.Kind)]) (aN)<|hB<|hS<|hB<|hS<|hB<|Gj (X:=Unit) (fun v=>(u [5,8] [])) (fun v=>Iw a0 a1=some r) ?_ ?_
  ·refine hB<|hB<|hS<|hB<|hS<|hS<|Gj (X:=Bool) (fun v=>(u [] [(9,vB v)])) (fun v=>EH a0 a1 v=some r) ?_ ?_
   ·refine Gg [.a,.a] (u [] [(9,vB (a0.Kind==1))]) (aN)<|iC h (fun h=>?_) (fun h=>?_)
    ·refine hK<|Tn ⟨(a0.Kind==1),h,wT⟩
    refine Gg [.a,.a] (u [] [(9,vB (a0.Kind==2))]) (aN)<|iC h (fun h=>?_) (fun h=>?_)
    ·refine hK<|Tn ⟨(a0.Kind==2),h,wT⟩
    refine Gg [.a,.a] (u [] [(9,vB (a0.Kind==5))]) (aN)<|iC h (fun h=>?_) (fun h=>?_)
    ·refine hK<|Tn ⟨(a0.Kind==5),h,wT⟩
    refine Gg [.a,.a] (u [] [(9,vB (a0.Kind==6))]) (aN)<|iC h (fun h=>?_) (fun h=>?_)
    ·refine hK<|Tn ⟨(a0.Kind==6),h,wT⟩
    refine Re [.a,.a] (sl 51 [(1,vI a1),(2,vP [2] (0)),(5,vB false),(6,vB false),(8,vI a0.Kind),(9,vB (a0.Kind==7)),(14,vB (a0.Kind==7))] [bx [2] (J6 a0)]) (aN)<|Tn ⟨(a0.Kind==7),h,wT⟩
   rintro o0 j0
   replace j0:EH a0 a1 o0=some r:=j0
   unfold EH at j0
   refine iC j0 (fun j0=>?_) (fun j0=>?_)
   ·refine hE<|Te<|Te<|qX<|Tn<|hE<|qY<|qY<|Te<|qY<|Te<|qY<|Te<|qX<|Tn ⟨(false,false),j0,wT⟩
   refine hK<|Tn<|hS<|Gg [.a,.a] (u [9] [(15,vB (a0.Kind==3))]) (aN)<|iC j0 (fun j0=>?_) (fun j0=>?_)
   ·refine hE<|Te<|Te<|qY<|Te<|qX<|qN<|Tn ⟨(),j0,wT⟩
   refine hK<|Tn<|hS<|Gg [.a,.a] (u [15] [(17,vB (a0.Kind==8))]) (aN)<|iC j0 (fun j0=>?_) (fun j0=>?_)
   ·refine hE<|Te<|Te<|qY<|Te<|qY<|qX<|Tn ⟨(),j0,wT⟩
   refine hK<|Tn<|Gg [.a,.a] (u [6,8,17] [(19,vB (a0.Kind==4))]) (aN)<|iC j0 (fun j0=>?_) (fun j0=>?_)
   ·refine hE<|Te<|qY<|Te<|qY<|qY<|Te<|qX<|Tn<|Rg [.a] (sl 51 [(1,vI a1),(2,vP [2] (0)),(5,vB false),(6,vB true)] [bx [2] (J6 a0)]) (aN)<|hE<|qY<|Te<|qX<|Tn ⟨(false,true),j0,wT⟩
   exact hK<|Tn<|hE<|qY<|Te<|qY<|qY<|Te<|qY<|Te<|qX<|Tn<|hS<|Rg [.a] (sl 51 [(4,vB false)] []) (aN)<|hR<|Tr<|qR<|Tr<|bQ _ (kB j0)
  rintro _ n0
  replace n0:Iw a0 a1=some r:=n0
  unfold Iw at n0
  refine Gg [.a] (u [] [(5,vB true)]) (aN)<|hE<|qY<|Te<|qY<|Te<|qX<|Tn ⟨(true,false),n0,wT⟩
 rintro⟨i0,m0⟩ k0
 replace k0:HC a0 a1 i0 m0=some r:=k0
 unfold HC at k0
 refine hS ?_
 obtain⟨b4,p0,b5,q0,b6,t0,k0⟩:=M9 k0
 refine Gg [.a,.a,.a,.a,.a,.a,.a,.a,.a,.a,.a,(.v (vB b4)),(.v (vB b5)),.a,.a,.a,.a,.a,.a,.a,(.v (vB b6)),.a] (u [1,5] [(42,vB (if b5=true then true else b6))]) (aG (i0==true)<|aG (i0==true)<|aG (i0==true)<|aG ((i0==true)&&((decide (a0.N<1))==false))<|aC (fun hg:((i0==true)&&((decide (a0.N<1))==false))=true=>aC (show ((((i0==true)&&((decide (a0.N<1))==false))=true→((i0==true)&&((decide (a0.N<1))==false))=true)∧(True∧True))∧True from⟨⟨id,⟨trivial,trivial⟩⟩,trivial⟩)<|aN)<|aH ((i0==true)&&((decide (a0.N<1))==false))<|aC (fun hg:(i0==true)=true=>aC (gi (i0==true))<|aC (fun q:(decide (a0.N<1))=false=>(gA hg (gF q)))<|aB p0<|aN)<|aT i0<|aB q0<|aG (b5==false)<|aG (b5==false)<|aG ((b5==false)&&((!i0)==true))<|aG ((b5==false)&&((!i0)==true))<|aC (fun hg:(b5==false)=true=>aC (gi (b5==false))<|aC (fun q:(!i0)=true=>(gA hg (gT q)))<|aB t0<|aN)<|aF b5<|aN)<|iC k0 (fun k0=>?_) (fun k0=>?_)
 ·exact Rg [.a] (sl 51 [(4,vB false)] []) (aN)<|hR<|Tr<|bQ _ (kB k0)
 refine hK<|Tn<|hS<|Gg [.a] (u [6,42] [(43,vB m0)]) (aN)<|iC k0 (fun k0=>?_) (fun k0=>?_)
 ·obtain⟨r9,x0,k0⟩:=bS k0
  exact Rg [.a,.a,(.c (vB r9)),.a] (sl 51 [(4,vB r9)] []) (aC (Em x0)<|aN)<|hR<|Tr<|bQ _ (kB k0)
 exact hK<|Tn<|Rg [.a,.a,.a,(.v (vB (a0.Filter==(⟨0,0,0,0,0,0,0,[],0,0,(⟨0,0⟩:Ae),(⟨0,0⟩:Ae),(⟨0,0⟩:Ae)⟩:Af)))),.a] (sl 51 [(4,vB (a0.Filter==(⟨0,0,0,0,0,0,0,[],0,0,(⟨0,0⟩:Ae),(⟨0,0⟩:Ae),(⟨0,0⟩:Ae)⟩:Af)))] []) (aC (And.intro trivial YS)<|aC (congrArg (fun z=>V.c (.bool (z))) (T8 a0.Filter (⟨0,0,0,0,0,0,0,[],0,0,(⟨0,0⟩:Ae),(⟨0,0⟩:Ae),(⟨0,0⟩:Ae)⟩:Af)))<|aN)<|hR<|bQ _ (kB k0)
def Fw (a0:Bv):Option (Bool):=
 (some (if(decide (a0.Kind<0))=true then true else decide (7<a0.Kind))).bind fun b1=>
 (gd (b1==false) (JI a0)).bind fun r2=>
 (some (if b1=true then true else !(r2==(⟨0,0,0,(⟨0,0,0,0,0,0,0,[],0,0,(⟨0,0⟩:Ae),(⟨0,0⟩:Ae),(⟨0,0⟩:Ae)⟩:Af)⟩:Bv)))).bind fun b3=>
 (if b3=true then
  some false
 else
  (if(a0.Kind==0)=true then
   (some (if(decide (0≤a0.N))=true then decide (a0.N≤1000000)else false)).bind fun b6=>
   some b6
  else
   (if(a0.Kind==2)=true then
    (some (if(decide (1≤a0.N))=true then decide (a0.N≤99)else false)).bind fun b8=>
    (gd (b8==true) (CR a0.Filter)).bind fun r9=>
    (some (if b8=true then r9 else false)).bind fun b10=>
    some b10
   else
    (if(a0.Kind==4)=true then
     (F0 a0.Counter).bind fun r12=>
     some (r12 != ([]:List UInt8))
    else
     some true))))
def Zf (a0:Bv) (r:Bool):Prop:=Ah Tryz.prog I0 182 [vA BK a0] (· =vB r)
theorem XI {a0:Bv} {r:Bool} (h:Fw a0=some r):Zf a0 r:=by
 refine Ah.bo Ag Tryz.func182 rfl Tryz.ntmps182 [.tmp 2] fun _ _ _ _=>?_
 unfold Fw at h
 refine Rg [.a,.a] (sl 50 [(1,vP [1] (0))] [bx [1] (BK a0)]) (aN)<|hS ?_
 obtain⟨b1,n0,r2,t0,b3,o0,h⟩:=M9 h
 refine Gg [.a,.a,.a,.a,.a,.a,.a,(.v (vB b1)),.a,.a,(.c (vA BK r2)),.a,(.v (vB (!(r2==(⟨0,0,0,(⟨0,0,0,0,0,0,0,[],0,0,(⟨0,0⟩:Ae),(⟨0,0⟩:Ae),(⟨0,0⟩:Ae)⟩:Af)⟩:Bv))))),(.v (vB b3))] (u [] [(16,vB b3)]) (aG ((decide (a0.Kind<0))==false)<|aG ((decide (a0.Kind<0))==false)<|aF (decide (a0.Kind<0))<|aB n0<|aC (c1 t0 Ul)<|aC (fun hg:(b1==false)=true=>aC (And.intro trivial fg)<|aN)<|aC (fun hg:(b1==false)=true=>aC (gi (b1==false))<|aC (gi (b1==false))<|aC (congrArg (fun z=>V.c (.bool (!z))) (aq r2 (⟨0,0,0,(⟨0,0,0,0,0,0,0,[],0,0,(⟨0,0⟩:Ae),(⟨0,0⟩:Ae),(⟨0,0⟩:Ae)⟩:Af)⟩:Bv)))<|aN)<|aF b1<|aB o0<|aN)<|iC h (fun h=>?_) (fun h=>?_)
 ·exact Rg [.a] (sl 50 [(2,vB false)] []) (aN)<|hR<|Tr<|bQ _ (kB h)
 refine hK<|Tn<|hS<|Gg [.a,.a] (u [16] [(18,vI a0.Kind)]) (aN)<|hB<|Gg [.a,.a] (u [] [(19,vB (a0.Kind==0))]) (aN)<|iC h (fun h=>?_) (fun h=>?_)
 ·obtain⟨b6,p0,h⟩:=bS h
  exact Rg [.a,.a,.a,.a,.a,.a,.a,(.v (vB b6)),.a] (sl 50 [(2,vB b6)] []) (aG ((decide (0≤a0.N))==true)<|aG ((decide (0≤a0.N))==true)<|aT (decide (0≤a0.N))<|aB p0<|aN)<|hR<|qR<|Tr<|bQ _ (kB h)
 refine Gg [.a,.a] (u [19] [(29,vB (a0.Kind==2))]) (aN)<|iC h (fun h=>?_) (fun h=>?_)
 ·obtain⟨b8,q0,r9,x0,i0,k0,h⟩:=M9 h
  exact Rg [.a,.a,.a,.a,.a,.a,.a,(.v (vB b8)),.a,.a,.a,(.c (vB r9)),(.v (vB i0)),.a] (sl 50 [(2,vB i0)] []) (aG ((decide (1≤a0.N))==true)<|aG ((decide (1≤a0.N))==true)<|aT (decide (1≤a0.N))<|aB q0<|aG (b8==true)<|aC (c1 x0 Em)<|aT b8<|aB k0<|aN)<|hR<|qR<|Tr<|bQ _ (kB h)
 refine Gg [.a,.a] (u [18,29] [(44,vB (a0.Kind==4))]) (aN)<|iC h (fun h=>?_) (fun h=>?_)
 ·obtain⟨j0,m0,h⟩:=bS h
  exact Rg [.a,.a,(.c (vS j0)),.a,.a] (sl 50 [(2,vB (j0 != ([]:List UInt8)))] []) (aC (JO m0)<|aN)<|hR<|qR<|Tr<|bQ _ (kB h)
 exact hK<|qN<|Tn<|Rg [.a] (sl 50 [(2,vB true)] []) (aN)<|hR<|bQ _ (kB h)
def Eo (a0:By) (r3:Bool×Bool) (zone_t5_8:Int):Option (Bool):=
 (if r3.2=true then
  (CR a0.Filter).bind fun r11=>
  (some (if r11=true then a0.Filter.Zone==zone_t5_8 else false)).bind fun b12=>
  some b12
 else
  some (a0.Filter==(⟨0,0,0,0,0,0,0,[],0,0,(⟨0,0⟩:Ae),(⟨0,0⟩:Ae),(⟨0,0⟩:Ae)⟩:Af)))
def DJ (a0:By):Option (Bool):=
 (some (if(decide (a0.When<1))=true then true else decide (14<a0.When))).bind fun b1=>
 (if b1=true then
  some false
 else
  (E2 a0.When).bind fun r3=>
  (some (if(!r3.1)=true then a0.Who != 0 else false)).bind fun b4=>
  (gd (b4==false) (EN a0.Who)).bind fun r5=>
  (some (if b4=true then true else r5==([]:List UInt8))).bind fun b6=>
  (if b6=true then
   some false
  else
   (if(a0.When==9)=true then
    Eo a0 r3 (5:Int)
   else
    Eo a0 r3 (0:Int))))
def XJ (a0:By) (r:Bool):Prop:=Ah Tryz.prog I0 95 [vA GW a0] (· =vB r)
theorem VA {a0:By} {r:Bool} (h:DJ a0=some r):XJ a0 r:=by
 refine Ah.bo Ag Tryz.func95 rfl Tryz.ntmps95 [.tmp 2] fun _ _ _ _=>?_
 unfold DJ at h
 refine Rg [.a,.a] (sl 51 [(1,vP [1] (0))] [bx [1] (GW a0)]) (aN)<|hS ?_
 obtain⟨b1,p0,h⟩:=bS h
 refine Gg [.a,.a,.a,.a,.a,.a,.a,(.v (vB b1))] (u [] [(13,vB b1)]) (aG ((decide (a0.When<1))==false)<|aG ((decide (a0.When<1))==false)<|aF (decide (a0.When<1))<|aB p0<|aN)<|iC h (fun h=>?_) (fun h=>?_)
 ·exact Rg [.a] (sl 51 [(2,vB false)] []) (aN)<|hR<|Tr<|bQ _ (kB h)
 refine hK<|Tn ?_
 obtain⟨r3,x0,h⟩:=bS h
 refine Gg [.a,.a,(.c (.tup [vB r3.1,vB r3.2])),.a,.a,.a,.a,.a] (u [13] [(3,vB r3.1),(4,vB r3.2)]) (aC (Sd x0)<|aC (show True∧0<[V.undef,V.undef].length from⟨trivial,(by decide)⟩)<|aC (show True∧1<[V.undef,V.undef].length from⟨trivial,(by decide)⟩)<|aN)<|hS ?_
 obtain⟨b4,q0,r5,y0,b6,t0,h⟩:=M9 h
 refine Gg [.a,.a,.a,.a,.a,.a,(.v (vB b4)),.a,.a,.a,(.c (vS r5)),.a,(.v (vB b6))] (u [3] [(32,vB b6)]) (aG ((!r3.1)==true)<|aG ((!r3.1)==true)<|aT (!r3.1)<|aB q0<|aG (b4==false)<|aC (c1 y0 O5)<|aG (b4==false)<|aF b4<|aB t0<|aN)<|iC h (fun h=>?_) (fun h=>?_)
 ·exact Rg [.a] (sl 51 [(2,vB false)] []) (aN)<|hR<|Tr<|bQ _ (kB h)
 refine hK<|Tn<|Gg [.a] (u [32] [(5,vI 0)]) (aN)<|Gj (X:=Int) (fun v=>(u [] [(5,vI v)])) (fun v=>Eo a0 r3 v=some r) ?_ ?_
 ·refine Gg (nA 3) (u [] [(35,vB (a0.When==9))]) (aN)<|iC h (fun h=>?_) (fun h=>?_)
  ·refine Ge [.a] (u [] [(5,vI 5)]) (aN)<|Tn ⟨5,h,wT⟩
  refine hK<|Tn ⟨0,h,wT⟩
 rintro k0 i0
 replace i0:Eo a0 r3 k0=some r:=i0
 unfold Eo at i0
 refine hS<|Gg [.a] (u [4] [(36,vB r3.2)]) (aN)<|iC i0 (fun i0=>?_) (fun i0=>?_)
 ·obtain⟨j0,o0,m0,n0,i0⟩:=JX i0
  exact Rg [.a,.a,(.c (vB j0)),.a,.a,.a,.a,.a,.a,(.v (vB m0)),.a] (sl 51 [(2,vB m0)] []) (aC (Em o0)<|aG (j0==true)<|aG (j0==true)<|aH (j0==true)<|aT j0<|aB n0<|aN)<|hR<|Tr<|bQ _ (kB i0)
 exact hK<|Tn<|Rg [.a,.a,.a,(.v (vB (a0.Filter==(⟨0,0,0,0,0,0,0,[],0,0,(⟨0,0⟩:Ae),(⟨0,0⟩:Ae),(⟨0,0⟩:Ae)⟩:Af)))),.a] (sl 51 [(2,vB (a0.Filter==(⟨0,0,0,0,0,0,0,[],0,0,(⟨0,0⟩:Ae),(⟨0,0⟩:Ae),(⟨0,0⟩:Ae)⟩:Af)))] []) (aC (And.intro trivial YS)<|aC (congrArg (fun z=>V.c (.bool (z))) (T8 a0.Filter (⟨0,0,0,0,0,0,0,[],0,0,(⟨0,0⟩:Ae),(⟨0,0⟩:Ae),(⟨0,0⟩:Ae)⟩:Af)))<|aN)<|hR<|bQ _ (kB i0)
def C4 (a0:List (Ci)) (a1:List (Ci)):Option (Bool):=
 (Bn a0 a1).bind fun r1=>
 some r1
def HT (a0:List (Ci)) (a1:List (Ci)) (r:Bool):Prop:=Ah Tryz.prog I0 36 [vL Ar a0,vL Ar a1, .c (.fn 37)] (· =vB r)
theorem HD {a0:List (Ci)} {a1:List (Ci)} {r:Bool} (h:C4 a0 a1=some r):HT a0 a1 r:=by
 refine Ah.bo Ag Tryz.func36 rfl Tryz.ntmps36 [.tmp 6] fun _ _ _ _=>?_
 unfold C4 at h
 refine Gg [.a] (u [] []) (aN) ?_
 obtain⟨r1,i0,h⟩:=bS h
 exact Rg [.a,.a,.a,(.c (vB r1)),.a] (sl 11 [(6,vB r1)] []) (aC (CJ i0)<|aN)<|hR<|bQ _ (kB h)
def NM (a0:Aj) (a1:Int):Option (Int):=
 (MG a0 a1).bind fun r1=>
 (if(decide (0<(r1.length:Int)))=true then
  (idx r1 (0:Int)).bind fun e3=>
  some e3
 else
  (some (if(decide (0≤a1))=true then decide (a1<(a0.Players.length:Int))else false)).bind fun b4=>
  (gd (b4==true) (idx a0.Players a1)).bind fun e5=>
  (some (if b4=true then !e5.Lost else false)).bind fun b6=>
  (if b6=true then
   some a1
  else
   some (-1:Int)))
def VB (a0:Aj) (a1:Int) (r:Int):Prop:=Ah Tryz.prog I0 13 [vA Am a0,vI a1] (· =vI r)
theorem Uy {a0:Aj} {a1:Int} {r:Int} (h:NM a0 a1=some r):VB a0 a1 r:=by
 refine Ah.bo Ag Tryz.func13 rfl Tryz.ntmps13 [.tmp 4] fun _ _ _ _=>?_
 unfold NM at h
 refine Gg [.a,.a] (uo [0] [(2,vP [2] (0))] [.e (bx [2] (Am a0))]) (aN)<|hS ?_
 obtain⟨r1,n0,h⟩:=bS h
 refine Gg [.a,.a,(.c (vL (eI .i64) r1)),.a] (u [] [(5,vL (eI .i64) r1)]) (aC (Sm n0)<|aN)<|Gg (nA 3) (u [] [(11,vB (decide (0<(r1.length:Int))))]) (aN)<|iC h (fun h=>?_) (fun h=>?_)
 ·obtain⟨e3,i0,h⟩:=bS h
  exact Rg [.a,.a,(.v (vI e3)),.a] (sl 34 [(4,vI e3)] []) (aC (Bm i0)<|aC (GN i0 (I1 .i64) 0 1 false (vI e3))<|aC (Eq.refl (vI e3))<|aN)<|hR<|Tr<|bQ _ (congrArg vI (sI h))
 refine hK<|Tn<|hS ?_
 obtain⟨b4,k0,e5,j0,b6,m0,h⟩:=M9 h
 refine Rg [.a,.a,.a,.a,.a,.a,.a,.a,(.v (vB b4)),.a,.a,.a,.a,.a,.a,(.v (vB e5.Lost)),.a,(.v (vB b6))] (sl 34 [(1,vI a1),(32,vB b6)] []) (aG ((decide (0≤a1))==true)<|aG ((decide (0≤a1))==true)<|aH ((decide (0≤a1))==true)<|aT (decide (0≤a1))<|aB k0<|aG (b4==true)<|aC (fun hg:(b4==true)=true=>aC (gi (b4==true))<|aC (gi (b4==true))<|aC (OW j0 hg).1<|aN)<|aG (b4==true)<|aC (fun hg:(b4==true)=true=>aC (gi (b4==true))<|aC (GN (M8 j0 hg) C1 10 1 false (vB e5.Lost))<|aC (Eq.refl (vB e5.Lost))<|aN)<|aG (b4==true)<|aT b4<|aB m0<|aN)<|iC h (fun h=>?_) (fun h=>?_)
 ·exact Rg [.a,.a] (sl 34 [(4,vI a1)] []) (aN)<|hR<|Tr<|bQ _ (congrArg vI (sI h))
 exact hK<|Tn<|Rg [.a] (sl 34 [(4,vI (-1:Int))] []) (aN)<|hR<|bQ _ (congrArg vI (sI h))
def Ia (b5_2:Aj):Option (Aj):=
 some b5_2
def O8 (a0:Aj) (a1:Int):Option (Aj):=
 (Ra a0).bind fun r1=>
 (some (if(r1.Over==0)=true then decide (0≤a1)else false)).bind fun b4=>
 (some (if b4=true then decide (a1<(r1.Players.length:Int))else false)).bind fun b5=>
 (if b5=true then
  Ia ({{r1 with Over:=(1:Int)}with Winner:=a1})
 else
  Ia r1)
def XK (a0:Aj) (a1:Int) (r:Aj):Prop:=Ah Tryz.prog I0 14 [vA Am a0,vI a1] (· =vA Am r)
theorem VC {a0:Aj} {a1:Int} {r:Aj} (h:O8 a0 a1=some r):XK a0 a1 r:=by
 refine Ah.bo Ag Tryz.func14 rfl Tryz.ntmps14 [.cell 4 31] fun _ _ _ _=>?_
 unfold O8 at h
 refine Rg [.a,.a] (sl 26 [(1,vI a1),(2,vP [2] (0)),(4,vP [4] (0))] [bx [4] [.nils,.nils,.nils,.nils,.nils,.nils,.nils,Aa 0,Aa 0,Aa 0,.bool false,Aa 0,Aa 0,Aa 0,Aa 0,.int .u64 0,.nils,Aa 0,Aa 0],bx [2] (Am a0)]) (aN) ?_
 obtain⟨r1,n0,h⟩:=bS h
 refine Gg [.a,(.c (vA Am r1)),.a,.a] (uo [2] [(5,vP [5] (0))] [.e (bx [5] (Am r1)),.k 0]) (aC (XE n0)<|aN)<|Gj (X:=Aj) (fun v=>(uo [1] [] [.e (bx [5] (Am v)),.k 1])) (fun v=>Ia v=some r) ?_ ?_
 ·obtain⟨b4,k0,b5,m0,h⟩:=JX h
  refine Gg [.a,.a,.a,.a,.a,.a,(.v (vB b4)),.a,.a,.a,.a,.a,.a,(.v (vB b5))] (u [] [(21,vB b5)]) (aG ((r1.Over==0)==true)<|aT (r1.Over==0)<|aB k0<|aG (b4==true)<|aG (b4==true)<|aH (b4==true)<|aT b4<|aB m0<|aN)<|iC h (fun h=>?_) (fun h=>?_)
  ·refine Ge (nA 5) (uo [] [(22,vI a1),(23,vP [5] (17)),(24,vP [5] (18))] [.e (bx [5] (Am ({{r1 with Over:=(1:Int)}with Winner:=a1}))),.k 1]) (aN)<|Tn ⟨({{r1 with Over:=(1:Int)}with Winner:=a1}),h,wT⟩
  refine hK<|Tn ⟨r1,h,wT⟩
 rintro i0 j0
 replace j0:Ia i0=some r:=j0
 unfold Ia at j0
 exact Gg [.a,.a] (uo [5] [] [.e (bx [4] (Am i0))]) (aN)<|hR<|bE (vA Am i0) (.agg (Am i0)) (congrArg (vA Am) (sI j0))
def K3 (a0:Af):Option (Bool):=
 (some (if(decide (a0.Zone<0))=true then true else decide (5<a0.Zone))).bind fun b1=>
 (some (if b1=true then true else decide (a0.Who<0))).bind fun b2=>
 (some (if b2=true then true else decide (2<a0.Who))).bind fun b3=>
 (some (if b3=true then true else decide (a0.Self<0))).bind fun b4=>
 (some (if b4=true then true else decide (2<a0.Self))).bind fun b5=>
 (some (if b5=true then true else decide (a0.Tap<0))).bind fun b6=>
 (some (if b6=true then true else decide (2<a0.Tap))).bind fun b7=>
 (if b7=true then
  some false
 else
  (IE a0.Types a0.NotTypes (63:Int)).bind fun r9=>
  (gd ((!r9)==false) (IE a0.Colors a0.NotColors (31:Int))).bind fun r10=>
  (some (if(!r9)=true then true else !r10)).bind fun b11=>
  (if b11=true then
   some false
  else
   (gd ((a0.Sub != ([]:List UInt8))==true) (Og a0.Sub)).bind fun r13=>
   (some (if(a0.Sub != ([]:List UInt8))=true then !r13 else false)).bind fun b14=>
   (some (if b14=true then true else decide (a0.Keys<0))).bind fun b15=>
   (some (if b15=true then true else decide (131071<a0.Keys))).bind fun b16=>
   (if b16=true then
    some false
   else
    (L3 a0.Power).bind fun r18=>
    (gd (r18==true) (L3 a0.Tough)).bind fun r19=>
    (some (if r18=true then r19 else false)).bind fun b20=>
    (gd (b20==true) (L3 a0.Value)).bind fun r21=>
    (some (if b20=true then r21 else false)).bind fun b22=>
    some b22)))
def Sn (mask_t3_1:Int):Option ((List UInt8)):=
 (GB mask_t3_1).bind fun r3=>
 some r3
def So (a0:Int) (mask_t3_6:Int) (k_t4_7:Int):Option ((Int×Int)⊕(Int)):=
 (if(decide (k_t4_7<a0))=true then
  some (.inl ((Ab (mask_t3_6*(2:Int))),(Ab (k_t4_7+1))))
 else
  some (.inr mask_t3_6))
def MH (a0:Int):Option ((List UInt8)):=
 (iter (fun(v:Int×Int)=>So a0 v.1 v.2) FU ((1:Int),(0:Int))).bind (fun o0=>Sn o0)
def Kn (a0:A6 (Int)):Option ((List UInt8)):=
 (Y5 a0).bind fun r1=>
 (Ux r1).bind fun r2=>
 some r2
end Go.PL
