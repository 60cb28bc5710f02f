/- Functions of the program, as partial functions in Lean, with proofs. -/
import Derived.Test.YtelbpfkjhndccaaGreatDoorPlSbB
import Derived.Test.YtelbpfkjhndccaaGreatDoorPlSbF0
import Derived.Test.YtelbpfkjhndccaaGreatDoorPlSbF1
import Derived.Test.YtelbpfkjhndccaaGreatDoorPlSbF2
import Derived.Test.YtelbpfkjhndccaaGreatDoorPlSbF4
import Derived.Test.YtelbpfkjhndccaaGreatDoorPlSbF6
import Derived.Test.YtelbpfkjhndccaaGreatDoorPlSbF7
namespace Go.PL
open Go Go.RowKit Go.Proofs
set_option maxRecDepth 100000
set_option linter.all false
set_option maxHeartbeats 4000000
attribute [local irreducible] Ak Ca BP
def MF:Option (Bool):=
 some true
def Jo (a0:Ai) (vt7_9:Int):Option ((Int)⊕(Unit⊕Unit)):=
 (if(decide (vt7_9<(a0.Conts.length:Int)))=true then
  (idx a0.Conts vt7_9).bind fun e12=>
  (gd ((decide (300<(e12.Objects.length:Int)))==false) (idx a0.Conts vt7_9)).bind fun e13=>
  (gd ((decide (300<(e12.Objects.length:Int)))==false) (J5 (⟨0,(⟨0,0,0,0,0,0,0,[],0,0,(⟨0,0⟩:Ac),(⟨0,0⟩:Ac),(⟨0,0⟩:Ac)⟩:Ag),e13.Mods,(⟨(⟨0,0,(⟨0,0,0,0,0⟩:A5 (Int))⟩:AP),false,false,0⟩:B5),false,(⟨0,0,(⟨0,0,0,0,0,0,0,[],0,0,(⟨0,0⟩:Ac),(⟨0,0⟩:Ac),(⟨0,0⟩:Ac)⟩:Ag)⟩:Bs),false,([]:List (CA)),([]:List (Ar)),(⟨0,0,(⟨0,0,0,0,0,0,0,[],0,0,(⟨0,0⟩:Ac),(⟨0,0⟩:Ac),(⟨0,0⟩:Ac)⟩:Ag),0,0,0,0⟩:AA)⟩:Ay))).bind fun r14=>
  (some (if(decide (300<(e12.Objects.length:Int)))=true then true else !r14)).bind fun b15=>
  (if b15=true then
   some (.inr (.inr ()))
  else
   some (.inl (Ab (vt7_9+1))))
 else
  some (.inr (.inl ())))
def Iz (a0:Ai):Option (Bool):=
 (iter (fun(v:Int)=>Jo a0 v) FU (0:Int)).bind (Sum.elim (fun o0=>MF) (fun o1=>some false))
def Jp (a0:Ai) (vt6_18:Int):Option ((Int)⊕(Unit⊕Unit)):=
 (if(decide (vt6_18<(a0.Waiting.length:Int)))=true then
  (idx a0.Waiting vt6_18).bind fun e21=>
  (J5 e21.Ability).bind fun r22=>
  (if(!r22)=true then
   some (.inr (.inr ()))
  else
   some (.inl (Ab (vt6_18+1))))
 else
  some (.inr (.inl ())))
def IA (a0:Ai):Option (Bool):=
 (iter (fun(v:Int)=>Jp a0 v) FU (0:Int)).bind (Sum.elim (fun o0=>Iz a0) (fun o1=>some false))
def Jq (a0:Ai) (vt5_25:Int):Option ((Int)⊕(Unit⊕Unit)):=
 (if(decide (vt5_25<(a0.Stack.length:Int)))=true then
  (idx a0.Stack vt5_25).bind fun e28=>
  (gd ((decide (20<(e28.Targets.length:Int)))==false) (idx a0.Stack vt5_25)).bind fun e29=>
  (gd ((decide (20<(e28.Targets.length:Int)))==false) (J5 e29.Ability)).bind fun r30=>
  (some (if(decide (20<(e28.Targets.length:Int)))=true then true else !r30)).bind fun b31=>
  (if b31=true then
   some (.inr (.inr ()))
  else
   some (.inl (Ab (vt5_25+1))))
 else
  some (.inr (.inl ())))
def GZ (a0:Ai) (vt3_1:Int):Option (Bool):=
 (some (if(decide (300<vt3_1))=true then true else decide (10<(a0.Players.length:Int)))).bind fun b3=>
 (if b3=true then
  some false
 else
  (iter (fun(v:Int)=>Jq a0 v) FU (0:Int)).bind (Sum.elim (fun o0=>IA a0) (fun o1=>some false)))
def Jr (a0:Ai) (vt3_35:Int) (vt4_36:Int):Option ((Int×Int)⊕(Int)):=
 (some (if(decide (vt4_36<(a0.Players.length:Int)))=true then decide (vt4_36<10)else false)).bind fun b39=>
 (if b39=true then
  (idx a0.Players vt4_36).bind fun e41=>
  (idx a0.Players vt4_36).bind fun e42=>
  (idx a0.Players vt4_36).bind fun e43=>
  some (.inl ((Ab ((Ab ((Ab (vt3_35+(e41.Library.length:Int)))+(e42.Hand.length:Int)))+(e43.Graveyard.length:Int))),(Ab (vt4_36+1))))
 else
  some (.inr vt3_35))
def OX (a0:Ai):Option (Bool):=
 (iter (fun(v:Int×Int)=>Jr a0 v.1 v.2) FU ((Ab ((Ab ((Ab ((Ab ((Ab ((Ab ((a0.Objects.length:Int)+(a0.Battlefield.length:Int)))+(a0.Exile.length:Int)))+(a0.Extra.length:Int)))+(Ab ((8:Int)*(a0.Stack.length:Int)))))+(Ab ((8:Int)*(a0.Waiting.length:Int)))))+(Ab ((4:Int)*(a0.Conts.length:Int))))),(0:Int))).bind (fun o0=>GZ a0 o0)
def cI (a0:Ai) (r:Bool):Prop:=Af Tryz.prog I0 10 [vA Aj a0] (· =vB r)
theorem ZW {a0:Ai} {r:Bool} (h:OX a0=some r):cI a0 r:=by
 refine Af.bo Ae Tryz.func10 rfl Tryz.ntmps10 [.tmp 2] fun _ _ _ _=>?_
 unfold OX at h
 refine Rg [.a,.a] (sl 148 [(1,vP [1] (0))] [bx [1] (Aj a0)]) (aN)<|Gg (nA 31) (u [] [(3,vI (Ab ((Ab ((Ab ((Ab ((Ab ((Ab ((a0.Objects.length:Int)+(a0.Battlefield.length:Int)))+(a0.Exile.length:Int)))+(a0.Extra.length:Int)))+(Ab ((8:Int)*(a0.Stack.length:Int)))))+(Ab ((8:Int)*(a0.Waiting.length:Int)))))+(Ab ((4:Int)*(a0.Conts.length:Int))))))]) (aN)<|Gj (X:=Int) (fun v=>(u [] [(3,vI v)])) (fun v=>GZ a0 v=some r) ?_ ?_
 ·refine Gg [.a] (u [] [(4,vI 0)]) (aN)<|hB ?_
  obtain⟨p4,z2,h⟩:=bS h
  refine Gi (fun(v:Int×Int)=>(u [] [(3,vI v.1),(4,vI v.2)])) z2 (wT) ?_
  rintro⟨p0,i0⟩ d4 n0 d3
  replace n0:Jr a0 p0 i0=some d4:=n0
  unfold Jr at n0
  refine hS ?_
  obtain⟨j3,o3,n0⟩:=bS n0
  refine Gg [.a,.a,.a,.a,.a,.a,.a,.a,(.v (vB j3))] (u [] [(46,vB j3)]) (aG ((decide (i0<(a0.Players.length:Int)))==true)<|aT (decide (i0<(a0.Players.length:Int)))<|aB o3<|aN)<|iC n0 (fun n0=>?_) (fun n0=>?_)
  ·refine hK<|Tn<|hS<|hB ?_
   obtain⟨j1,o2,k1,p2,n1,q2,n0⟩:=I8 n0
   refine Gf BF [.a,.a,.a,.a,.a,.a,(.v (vL (eI .i64) j1.Library)),.a,.a,.a,.a,.a,.a,.a,(.v (vL (eI .i64) k1.Hand)),.a,.a,.a,.a,.a,.a,.a,(.v (vL (eI .i64) n1.Graveyard)),.a,.a,.a] (u [] [(3,vI (Ab ((Ab ((Ab (p0+(j1.Library.length:Int)))+(k1.Hand.length:Int)))+(n1.Graveyard.length:Int)))),(49,vI p0),(50,vP [1] (0)),(51,vL Ah a0.Players),(52,vI i0),(53,vX Ah a0.Players ((i0).toNat *14)),(54,vX Ah a0.Players ((i0).toNat *14+11)),(55,vL (eI .i64) j1.Library),(56,vI (j1.Library.length:Int)),(57,vI (Ab (p0+(j1.Library.length:Int)))),(58,vP [1] (0)),(59,vL Ah a0.Players),(60,vI i0),(61,vX Ah a0.Players ((i0).toNat *14)),(62,vX Ah a0.Players ((i0).toNat *14+12)),(63,vL (eI .i64) k1.Hand),(64,vI (k1.Hand.length:Int)),(65,vI (Ab ((Ab (p0+(j1.Library.length:Int)))+(k1.Hand.length:Int)))),(66,vP [1] (0)),(67,vL Ah a0.Players),(68,vI i0),(69,vX Ah a0.Players ((i0).toNat *14)),(70,vX Ah a0.Players ((i0).toNat *14+13)),(71,vL (eI .i64) n1.Graveyard),(72,vI (n1.Graveyard.length:Int)),(73,vI (Ab ((Ab ((Ab (p0+(j1.Library.length:Int)))+(k1.Hand.length:Int)))+(n1.Graveyard.length:Int))))]) (aC (AI o2)<|aC (DI o2 Cp 11 1 false (vL (eI .i64) j1.Library))<|aC (Eq.refl (vL (eI .i64) j1.Library))<|aC (AI p2)<|aC (DI p2 Cp 12 1 false (vL (eI .i64) k1.Hand))<|aC (Eq.refl (vL (eI .i64) k1.Hand))<|aC (AI q2)<|aC (DI q2 Cp 13 1 false (vL (eI .i64) n1.Graveyard))<|aC (Eq.refl (vL (eI .i64) n1.Graveyard))<|aN)<|qN<|Tn<|Ge (nA 3) (u [] [(4,vI (Ab (i0+1))),(47,vI i0),(48,vI (Ab (i0+1)))]) (aN)<|Tn ⟨((Ab ((Ab ((Ab (p0+(j1.Library.length:Int)))+(k1.Hand.length:Int)))+(n1.Graveyard.length:Int))),(Ab (i0+1))),(sI n0).symm,wT⟩
  refine hE<|Te ?_
  obtain rfl:=d3 _ (sI n0).symm
  refine Te<|qX<|Tn ⟨p0,h,wT⟩
 rintro m1 o0
 replace o0:GZ a0 m1=some r:=o0
 unfold GZ at o0
 refine hS ?_
 obtain⟨b3,i4,o0⟩:=bS o0
 refine Gg [.a,.a,.a,.a,.a,.a,.a,(.v (vB b3))] (u [3] [(81,vB b3)]) (aG ((decide (300<m1))==false)<|aG ((decide (300<m1))==false)<|aG ((decide (300<m1))==false)<|aF (decide (300<m1))<|aB i4<|aN)<|iC o0 (fun o0=>?_) (fun o0=>?_)
 ·exact Rg [.a] (sl 148 [(2,vB false)] []) (aN)<|hR<|Tr<|bQ _ (kB o0)
 refine hK<|Tn<|Gj (X:=Unit) (fun v=>(u [81] [])) (fun v=>IA a0=some r) ?_ ?_
 ·refine Gg [.a] (u [81] [(5,vI 0)]) (aN)<|hB ?_
  obtain⟨o4,y2,o0⟩:=bS o0
  refine Gi (fun(v:Int)=>(u [] [(5,vI v)])) y2 (wT) ?_
  rintro x0 z3 m0 t1
  replace m0:Jq a0 x0=some z3:=m0
  unfold Jq at m0
  refine hS<|Gg (nA 5) (u [] [(86,vB (decide (x0<(a0.Stack.length:Int))))]) (aN)<|iC m0 (fun m0=>?_) (fun m0=>?_)
  ·refine hK<|Tn<|hS<|hB ?_
   obtain⟨z0,m2,d2,n2,k4,t3,x1,n3,m0⟩:=D2 m0
   refine Gg [.a,.a,.a,.a,.a,(.v (vL Bl z0.Targets)),.a,.a,.a,.a,.a,.a,.a,.a,(.v (vA Bc d2.Ability)),(.c (vB k4)),.a,(.v (vB x1))] (u [86] [(106,vB x1)]) (aC (AI m2)<|aC (DI m2 Ha 78 1 false (vL Bl z0.Targets))<|aC (Eq.refl (vL Bl z0.Targets))<|aG ((decide (20<(z0.Targets.length:Int)))==false)<|aC (fun hg:((decide (20<(z0.Targets.length:Int)))==false)=true=>aC (gi ((decide (20<(z0.Targets.length:Int)))==false))<|aC (gi ((decide (20<(z0.Targets.length:Int)))==false))<|aC (KW n2 hg).1<|aN)<|aG ((decide (20<(z0.Targets.length:Int)))==false)<|aC (fun hg:((decide (20<(z0.Targets.length:Int)))==false)=true=>aC (gi ((decide (20<(z0.Targets.length:Int)))==false))<|aC (DI (G8 n2 hg) Ha 6 72 true (vA Bc d2.Ability))<|aC (Eq.refl (vA Bc d2.Ability))<|aN)<|aC (c1 t3 Pz)<|aG ((decide (20<(z0.Targets.length:Int)))==false)<|aF (decide (20<(z0.Targets.length:Int)))<|aB n3<|aN)<|iC m0 (fun m0=>?_) (fun m0=>?_)
   ·refine Rg [.a] (sl 148 [(2,vB false)] []) (aN)<|hR<|qR<|Tr ?_
    obtain rfl:=t1 _ (sI m0).symm
    replace o0:=Cy o0
    exact Tr<|qR<|Tr<|bQ _ (kB o0)
   refine hK<|qN<|Tn<|Re (nA 3) (sl 148 [(1,vP [1] (0)),(5,vI (Ab (x0+1))),(87,vI x0),(88,vI (Ab (x0+1))),(106,vB x1)] [bx [1] (Aj a0)]) (aN)<|Tn ⟨(Ab (x0+1)),(sI m0).symm,wT⟩
  refine hE<|Te ?_
  obtain rfl:=t1 _ (sI m0).symm
  replace o0:=CZ o0
  refine Te<|qX<|Tn ⟨(),o0,wT⟩
 rintro _ d1
 replace d1:IA a0=some r:=d1
 unfold IA at d1
 refine Gj (X:=Unit) (fun v=>(u [] [])) (fun v=>Iz a0=some r) ?_ ?_
 ·refine Gg [.a] (u [] [(6,vI 0)]) (aN)<|hB ?_
  obtain⟨n4,x2,d1⟩:=bS d1
  refine Gi (fun(v:Int)=>(u [] [(6,vI v)])) x2 (wT) ?_
  rintro t0 y3 k0 q1
  replace k0:Jp a0 t0=some y3:=k0
  unfold Jp at k0
  refine hS<|Gg (nA 5) (u [] [(111,vB (decide (t0<(a0.Waiting.length:Int))))]) (aN)<|iC k0 (fun k0=>?_) (fun k0=>?_)
  ·refine hK<|Tn<|hS<|hB ?_
   obtain⟨z1,k2,k3,q3,k0⟩:=Ex k0
   refine Rg [.a,.a,.a,.a,.a,(.v (vA Bc z1.Ability)),(.c (vB k3)),.a] (sl 148 [(1,vP [1] (0)),(6,vI t0),(121,vB (!k3))] [bx [1] (Aj a0)]) (aC (AI k2)<|aC (DI k2 JV 2 72 true (vA Bc z1.Ability))<|aC (Eq.refl (vA Bc z1.Ability))<|aC (Pz q3)<|aN)<|iC k0 (fun k0=>?_) (fun k0=>?_)
   ·refine Rg [.a] (sl 148 [(2,vB false)] []) (aN)<|hR<|qR<|Tr ?_
    obtain rfl:=q1 _ (sI k0).symm
    replace d1:=Cy d1
    exact Tr<|qR<|Tr<|bQ _ (kB d1)
   refine hK<|qN<|Tn<|Ge (nA 3) (u [] [(6,vI (Ab (t0+1))),(112,vI t0),(113,vI (Ab (t0+1)))]) (aN)<|Tn ⟨(Ab (t0+1)),(sI k0).symm,wT⟩
  refine hE<|Te ?_
  obtain rfl:=q1 _ (sI k0).symm
  replace d1:=CZ d1
  refine Te<|qX<|Tn ⟨(),d1,wT⟩
 rintro _ i1
 replace i1:Iz a0=some r:=i1
 unfold Iz at i1
 refine Sj (X:=Unit) (fun v=>(sl 148 [] [])) (fun v=>MF=some r) ?_ ?_
 ·refine Gg [.a] (u [] [(7,vI 0)]) (aN)<|hB ?_
  obtain⟨m4,t2,i1⟩:=bS i1
  refine Gi (fun(v:Int)=>(u [] [(7,vI v)])) t2 (wT) ?_
  rintro y0 x3 j0 p1
  replace j0:Jo a0 y0=some x3:=j0
  unfold Jo at j0
  refine hS<|Rg (nA 5) (sl 148 [(1,vP [1] (0)),(7,vI y0),(126,vB (decide (y0<(a0.Conts.length:Int))))] [bx [1] (Aj a0)]) (aN)<|iC j0 (fun j0=>?_) (fun j0=>?_)
  ·refine hK<|Tn<|hS<|hB ?_
   obtain⟨q0,i2,y1,j2,j4,p3,i3,m3,j0⟩:=D2 j0
   refine Gg [.a,.a,.a,.a,.a,(.v (vL (eI .i64) q0.Objects)),.a,.a,.a,.a,.a,.a,.a,.a,(.v (vL Ao y1.Mods)),.a,(.c (vB j4)),.a,(.v (vB i3))] (u [126] [(147,vB i3)]) (aC (AI i2)<|aC (DI i2 Kh 4 1 false (vL (eI .i64) q0.Objects))<|aC (Eq.refl (vL (eI .i64) q0.Objects))<|aG ((decide (300<(q0.Objects.length:Int)))==false)<|aC (fun hg:((decide (300<(q0.Objects.length:Int)))==false)=true=>aC (gi ((decide (300<(q0.Objects.length:Int)))==false))<|aC (gi ((decide (300<(q0.Objects.length:Int)))==false))<|aC (KW j2 hg).1<|aN)<|aG ((decide (300<(q0.Objects.length:Int)))==false)<|aC (fun hg:((decide (300<(q0.Objects.length:Int)))==false)=true=>aC (gi ((decide (300<(q0.Objects.length:Int)))==false))<|aC (DI (G8 j2 hg) Kh 5 1 false (vL Ao y1.Mods))<|aC (Eq.refl (vL Ao y1.Mods))<|aN)<|aC (fun hg:((decide (300<(q0.Objects.length:Int)))==false)=true=>aC (And.intro (show (((decide (300<(q0.Objects.length:Int)))==false)=true→((decide (300<(q0.Objects.length:Int)))==false)=true)∧True from⟨id,trivial⟩) ia)<|aN)<|aC (c1 p3 Pz)<|aG ((decide (300<(q0.Objects.length:Int)))==false)<|aF (decide (300<(q0.Objects.length:Int)))<|aB m3<|aN)<|iC j0 (fun j0=>?_) (fun j0=>?_)
   ·refine Rg [.a] (sl 148 [(2,vB false)] []) (aN)<|hR<|qR<|Tr ?_
    obtain rfl:=p1 _ (sI j0).symm
    replace i1:=Cy i1
    exact Tr<|qR<|Tr<|bQ _ (kB i1)
   refine hK<|qN<|Tn<|Ge (nA 3) (u [] [(7,vI (Ab (y0+1))),(127,vI y0),(128,vI (Ab (y0+1)))]) (aN)<|Tn ⟨(Ab (y0+1)),(sI j0).symm,wT⟩
  refine hE<|Te ?_
  obtain rfl:=p1 _ (sI j0).symm
  replace i1:=CZ i1
  refine Te<|qX<|Tn ⟨(),i1,wT⟩
 rintro _ o1
 replace o1:MF=some r:=o1
 unfold MF at o1
 exact Rg [.a] (sl 148 [(2,vB true)] []) (aN)<|hR<|bQ _ (kB o1)
def CE (a0:Ai) (a1:Int):Option (Al×Bool):=
 (AL a0.Objects a1).bind fun r1=>
 (if(!r1.2)=true then
  some ((⟨0,0,0,0,0,false,false,false,false,0,(⟨0,0,0⟩:A3 (Int)),0,0,0,false,0,0⟩:Al),false)
 else
  (idx a0.Objects r1.1).bind fun e3=>
  some (e3,true))
def TZ (a0:Ai) (a1:Int) (r:Al×Bool):Prop:=Af Tryz.prog I0 44 [vA Aj a0,vI a1] (· = .tup [vA Ad r.1,vB r.2])
theorem DB {a0:Ai} {a1:Int} {r:Al×Bool} (h:CE a0 a1=some r):TZ a0 a1 r:=by
 refine Af.bo Ae Tryz.func44 rfl Tryz.ntmps44 [.cell 4 63, .tmp 5] fun _ _ _ _=>?_
 unfold CE at h
 refine Rg (nA 3) (sl 23 [(1,vI a1),(2,vP [2] (0)),(4,vP [4] (0))] [bx [4] [Aa 0,Aa 0,Aa 0,Aa 0,Aa 0,.bool false,.bool false,.bool false,.bool false,Aa 0,Aa (((⟨0,0,0⟩:A3 (Int))).x0),Aa (((⟨0,0,0⟩:A3 (Int))).x1),Aa (((⟨0,0,0⟩:A3 (Int))).x2),Aa 0,Aa 0,Aa 0,.bool false,Aa 0,Aa 0],bx [2] (Aj a0)]) (aN) ?_
 obtain⟨r1,j0,h⟩:=bS h
 refine Gg [.a,.a,.a,(.c (.tup [vI r1.1,vB r1.2])),.a,.a,.a,.a,.a] (u [1] [(6,vI r1.1),(7,vB r1.2)]) (aC (C0 j0)<|aC (show True∧0<[V.undef,V.undef].length from⟨trivial,(by decide)⟩)<|aC (show True∧1<[V.undef,V.undef].length from⟨trivial,(by decide)⟩)<|aN)<|hS<|Gg [.a,.a] (u [7] [(16,vB (!r1.2))]) (aN)<|iC h (fun h=>?_) (fun h=>?_)
 ·exact Gg (nA 3) (uo [2,6,16] [(5,vB false)] [.k 0]) (aC (And.intro trivial pM)<|aN)<|hR<|Tr<|bE (.tup [.agg [Aa 0,Aa 0,Aa 0,Aa 0,Aa 0,.bool false,.bool false,.bool false,.bool false,Aa 0,Aa (((⟨0,0,0⟩:A3 (Int))).x0),Aa (((⟨0,0,0⟩:A3 (Int))).x1),Aa (((⟨0,0,0⟩:A3 (Int))).x2),Aa 0,Aa 0,Aa 0,.bool false,Aa 0,Aa 0],vB false]) (.tup [.agg (Ad (⟨0,0,0,0,0,false,false,false,false,0,(⟨0,0,0⟩:A3 (Int)),0,0,0,false,0,0⟩:Al)),vB false]) (congrArg (fun(q:Al×Bool)=>(.tup [vA Ad q.1,vB q.2]:V)) (sI h))
 refine hK<|Tn ?_
 obtain⟨e3,i0,h⟩:=bS h
 exact Rg [.a,.a,.a,.a,(.v (vA Ad e3)),.a,.a] (sl 23 [(4,vP [4] (0)),(5,vB true)] [bx [4] (Ad e3)]) (aC (AI i0)<|aC (DI i0 Eh 0 19 true (vA Ad e3))<|aC (Eq.refl (vA Ad e3))<|aN)<|hR<|bE (.tup [vA Ad e3,vB true]) (.tup [.agg (Ad e3),vB true]) (congrArg (fun(q:Al×Bool)=>(.tup [vA Ad q.1,vB q.2]:V)) (sI h))
def BB (a0:List (Ar)) (a1:List (Ar)):Option (Bool):=
 (AM a0 a1).bind fun r1=>
 some r1
def HH (a0:List (Ar)) (a1:List (Ar)) (r:Bool):Prop:=Af Tryz.prog I0 87 [vL An a0,vL An a1, .c (.fn 88)] (· =vB r)
theorem Hg {a0:List (Ar)} {a1:List (Ar)} {r:Bool} (h:BB a0 a1=some r):HH a0 a1 r:=by
 refine Af.bo Ae Tryz.func87 rfl Tryz.ntmps87 [.tmp 6] fun _ _ _ _=>?_
 unfold BB at h
 refine Gg [.a] (u [] []) (aN) ?_
 obtain⟨r1,i0,h⟩:=bS h
 exact Rg [.a,.a,.a,(.c (vB r1)),.a] (sl 11 [(6,vB r1)] []) (aC (Ce i0)<|aN)<|hR<|bQ _ (kB h)
def G0 (a0:Bq) (vt43_18:Bool):Option (Bool):=
 (if vt43_18=true then
  (K1 a0.N (1:Int) (131071:Int)).bind fun r21=>
  some r21
 else
  (if(a0.Kind==11)=true then
   (C4 a0.Filter).bind fun r23=>
   some r23
  else
   (if(a0.Kind==12)=true then
    (K1 a0.N (0:Int) (99:Int)).bind fun r25=>
    (gd (r25==true) (K1 a0.M (0:Int) (99:Int))).bind fun r26=>
    (some (if r25=true then r26 else false)).bind fun b27=>
    some b27
   else
    (if(a0.Kind==13)=true then
     (K1 a0.N (-99:Int) (99:Int)).bind fun r29=>
     (gd (r29==true) (K1 a0.M (-99:Int) (99:Int))).bind fun r30=>
     (some (if r29=true then r30 else false)).bind fun b31=>
     some b31
    else
     some true))))
def G1 (a0:Bq) (vt27_10:Bool):Option (Bool):=
 (if vt27_10=true then
  (K7 a0.Sub).bind fun r13=>
  some r13
 else
  (if(a0.Kind==6)=true then
   (K1 a0.N (0:Int) (31:Int)).bind fun r15=>
   some r15
  else
   (if(a0.Kind==7)=true then
    (K1 a0.N (1:Int) (31:Int)).bind fun r17=>
    some r17
   else
    (if(a0.Kind==8)=true then
     G0 a0 (a0.Kind==8)
    else
     G0 a0 (a0.Kind==9)))))
def IB (a0:Bq) (vt15_5:Bool):Option (Bool):=
 (if vt15_5=true then
  (K1 a0.N (1:Int) (63:Int)).bind fun r8=>
  (some (if r8=true then(PS .i64 a0.N (6:Int))==(0:Int)else false)).bind fun b9=>
  some b9
 else
  (if(a0.Kind==4)=true then
   G1 a0 (a0.Kind==4)
  else
   G1 a0 (a0.Kind==5)))
def KA (a0:Bq):Option (Bool):=
 (K1 a0.Kind (1:Int) (14:Int)).bind fun r1=>
 (gd ((!r1)==false) (No a0)).bind fun r2=>
 (some (if(!r1)=true then true else !(a0==r2))).bind fun b3=>
 (if b3=true then
  some false
 else
  (if(a0.Kind==2)=true then
   IB a0 (a0.Kind==2)
  else
   IB a0 (a0.Kind==3)))
def lN (a0:Bq) (r:Bool):Prop:=Af Tryz.prog I0 96 [vA Ao a0] (· =vB r)
theorem YF {a0:Bq} {r:Bool} (h:KA a0=some r):lN a0 r:=by
 refine Af.bo Ae Tryz.func96 rfl Tryz.ntmps96 [.tmp 2] fun _ _ _ _=>?_
 unfold KA at h
 refine Rg [.a,.a] (sl 74 [(1,vP [1] (0))] [bx [1] (Ao a0)]) (aN)<|hS ?_
 obtain⟨r1,k2,r2,m2,b3,i2,h⟩:=I8 h
 refine Gq BF [.a,.a,(.c (vB r1)),.a,.a,.a,.a,(.c (vA Ao r2)),(.v (vB (!(a0==r2)))),(.v (vB b3))] (u [] [(12,vB b3)]) (aC (Ih k2)<|aC (c1 m2 bU)<|aC (fun hg:((!r1)==false)=true=>aC (gi ((!r1)==false))<|aC (gi ((!r1)==false))<|aC (congrArg (fun z=>V.c (.bool (!z))) (Zp a0 r2))<|aN)<|aF (!r1)<|aB i2<|aN)<|iC h (fun h=>?_) (fun h=>?_)
 ·exact Rg [.a] (sl 74 [(2,vB false)] []) (aN)<|hR<|Tr<|bQ _ (kB h)
 refine hK<|Tn<|hS<|Gg [.a,.a] (u [12] [(14,vI a0.Kind)]) (aN)<|hB<|Gj (X:=Bool) (fun v=>(u [] [(15,vB v)])) (fun v=>IB a0 v=some r) ?_ ?_
 ·refine Gg [.a,.a] (u [] [(15,vB (a0.Kind==2))]) (aN)<|iC h (fun h=>?_) (fun h=>?_)
  ·refine hK<|Tn ⟨(a0.Kind==2),h,wT⟩
  refine Ge [.a,.a] (u [] [(15,vB (a0.Kind==3)),(17,vB (a0.Kind==3))]) (aN)<|Tn ⟨(a0.Kind==3),h,wT⟩
 rintro q0 k0
 replace k0:IB a0 q0=some r:=k0
 unfold IB at k0
 refine iC k0 (fun k0=>?_) (fun k0=>?_)
 ·obtain⟨r8,n2,b9,j2,k0⟩:=Ex k0
  exact Rg [.a,.a,(.c (vB r8)),.a,.a,.a,.a,.a,(.v (vB b9)),.a] (sl 74 [(2,vB b9)] []) (aC (Ih n2)<|aG (r8==true)<|aG (r8==true)<|aG (r8==true)<|aT r8<|aB j2<|aN)<|hR<|qR<|Tr<|bQ _ (kB k0)
 refine Gj (X:=Bool) (fun v=>(u [15] [(27,vB v)])) (fun v=>G1 a0 v=some r) ?_ ?_
 ·refine Gg [.a,.a] (u [15] [(27,vB (a0.Kind==4))]) (aN)<|iC k0 (fun k0=>?_) (fun k0=>?_)
  ·refine hK<|Tn ⟨(a0.Kind==4),k0,wT⟩
  refine Ge [.a,.a] (u [] [(27,vB (a0.Kind==5)),(29,vB (a0.Kind==5))]) (aN)<|Tn ⟨(a0.Kind==5),k0,wT⟩
 rintro m0 j0
 replace j0:G1 a0 m0=some r:=j0
 unfold G1 at j0
 refine iC j0 (fun j0=>?_) (fun j0=>?_)
 ·obtain⟨y0,n1,j0⟩:=bS j0
  exact Rg [.a,.a,(.c (vB y0)),.a] (sl 74 [(2,vB y0)] []) (aC (Ry n1)<|aN)<|hR<|qR<|Tr<|bQ _ (kB j0)
 refine Gg [.a,.a] (u [27] [(33,vB (a0.Kind==6))]) (aN)<|iC j0 (fun j0=>?_) (fun j0=>?_)
 ·obtain⟨z0,o1,j0⟩:=bS j0
  exact Rg [.a,.a,(.c (vB z0)),.a] (sl 74 [(2,vB z0)] []) (aC (Ih o1)<|aN)<|hR<|qR<|Tr<|bQ _ (kB j0)
 refine Gg [.a,.a] (u [33] [(38,vB (a0.Kind==7))]) (aN)<|iC j0 (fun j0=>?_) (fun j0=>?_)
 ·obtain⟨d1,p1,j0⟩:=bS j0
  exact Rg [.a,.a,(.c (vB d1)),.a] (sl 74 [(2,vB d1)] []) (aC (Ih p1)<|aN)<|hR<|qR<|Tr<|bQ _ (kB j0)
 refine Gj (X:=Bool) (fun v=>(u [38] [(43,vB v)])) (fun v=>G0 a0 v=some r) ?_ ?_
 ·refine Gg [.a,.a] (u [38] [(43,vB (a0.Kind==8))]) (aN)<|iC j0 (fun j0=>?_) (fun j0=>?_)
  ·refine hK<|Tn ⟨(a0.Kind==8),j0,wT⟩
  refine Re [.a,.a] (sl 74 [(1,vP [1] (0)),(14,vI a0.Kind),(43,vB (a0.Kind==9)),(45,vB (a0.Kind==9))] [bx [1] (Ao a0)]) (aN)<|Tn ⟨(a0.Kind==9),j0,wT⟩
 rintro n0 i0
 replace i0:G0 a0 n0=some r:=i0
 unfold G0 at i0
 refine iC i0 (fun i0=>?_) (fun i0=>?_)
 ·obtain⟨i1,q1,i0⟩:=bS i0
  exact Rg [.a,.a,(.c (vB i1)),.a] (sl 74 [(2,vB i1)] []) (aC (Ih q1)<|aN)<|hR<|qR<|Tr<|bQ _ (kB i0)
 refine Rg [.a,.a] (sl 74 [(1,vP [1] (0)),(14,vI a0.Kind),(49,vB (a0.Kind==11))] [bx [1] (Ao a0)]) (aN)<|iC i0 (fun i0=>?_) (fun i0=>?_)
 ·obtain⟨j1,t1,i0⟩:=bS i0
  exact Rg [.a,.a,(.c (vB j1)),.a] (sl 74 [(2,vB j1)] []) (aC (EE t1)<|aN)<|hR<|qR<|Tr<|bQ _ (kB i0)
 refine Gg [.a,.a] (u [49] [(54,vB (a0.Kind==12))]) (aN)<|iC i0 (fun i0=>?_) (fun i0=>?_)
 ·obtain⟨o0,x1,o2,y1,t0,k1,i0⟩:=I8 i0
  exact Rg [.a,.a,(.c (vB o0)),.a,.a,.a,(.c (vB o2)),(.v (vB t0)),.a] (sl 74 [(2,vB t0)] []) (aC (Ih x1)<|aG (o0==true)<|aC (c1 y1 Ih)<|aT o0<|aB k1<|aN)<|hR<|qR<|Tr<|bQ _ (kB i0)
 refine Gg [.a,.a] (u [14,54] [(64,vB (a0.Kind==13))]) (aN)<|iC i0 (fun i0=>?_) (fun i0=>?_)
 ·obtain⟨p0,z1,p2,d2,x0,m1,i0⟩:=I8 i0
  exact Rg [.a,.a,(.c (vB p0)),.a,.a,.a,(.c (vB p2)),(.v (vB x0)),.a] (sl 74 [(2,vB x0)] []) (aC (Ih z1)<|aG (p0==true)<|aC (c1 d2 Ih)<|aT p0<|aB m1<|aN)<|hR<|qR<|Tr<|bQ _ (kB i0)
 exact hK<|qN<|Tn<|Rg [.a] (sl 74 [(2,vB true)] []) (aN)<|hR<|bQ _ (kB i0)
def D7 (a0:AA) (vt37_10:Bool):Option (Bool):=
 (if vt37_10=true then
  (some (if(decide (1≤a0.N))=true then decide (a0.N≤99)else false)).bind fun b13=>
  some b13
 else
  (if(a0.Do==7)=true then
   (some (if(decide (1≤a0.N))=true then decide (a0.N≤99)else false)).bind fun b15=>
   (gd (b15==true) (GT a0.Counter)).bind fun r16=>
   (some (if b15=true then r16 != ([]:List UInt8)else false)).bind fun b17=>
   some b17
  else
   (if(a0.Do==5)=true then
    (some (if(a0.Zone==1)=true then true else a0.Zone==2)).bind fun b19=>
    (some (if b19=true then true else a0.Zone==4)).bind fun b20=>
    some b20
   else
    some true)))
def DR (a0:AA):Option (Bool):=
 (D3 a0.On a0.Do).bind fun r1=>
 (gd ((!r1)==false) (F5 a0)).bind fun r2=>
 (some (if(!r1)=true then true else !(a0==r2))).bind fun b3=>
 (some (if b3=true then true else decide (a0.Who<0))).bind fun b4=>
 (some (if b4=true then true else decide (2<a0.Who))).bind fun b5=>
 (if b5=true then
  some false
 else
  (C4 a0.Filter).bind fun r7=>
  (some (if(!r7)=true then true else a0.Filter.Zone != 0)).bind fun b8=>
  (if b8=true then
   some false
  else
   (if(a0.Do==2)=true then
    D7 a0 (a0.Do==2)
   else
    D7 a0 (a0.Do==4))))
def ZX (a0:AA) (r:Bool):Prop:=Af Tryz.prog I0 91 [vA AX a0] (· =vB r)
theorem XD {a0:AA} {r:Bool} (h:DR a0=some r):ZX a0 r:=by
 refine Af.bo Ae Tryz.func91 rfl Tryz.ntmps91 [.tmp 2] fun _ _ _ _=>?_
 unfold DR at h
 refine Rg [.a,.a] (sl 79 [(1,vP [1] (0))] [bx [1] (AX a0)]) (aN)<|hS ?_
 obtain⟨r1,n1,r2,o1,b3,i1,b4,j1,h⟩:=D2 h
 obtain⟨b5,k1,h⟩:=bS h
 refine Gq BF [.a,.a,.a,.a,(.c (vB r1)),.a,.a,.a,.a,(.c (vA AX r2)),(.v (vB (!(a0==r2)))),(.v (vB b3)),.a,.a,.a,.a,(.v (vB b4)),.a,.a,.a,.a,(.v (vB b5))] (u [] [(24,vB b5)]) (aC (UQ n1)<|aC (c1 o1 SP)<|aC (fun hg:((!r1)==false)=true=>aC (gi ((!r1)==false))<|aC (gi ((!r1)==false))<|aC (congrArg (fun z=>V.c (.bool (!z))) (bK a0 r2))<|aN)<|aF (!r1)<|aB i1<|aG (b3==false)<|aG (b3==false)<|aF b3<|aB j1<|aG (b4==false)<|aG (b4==false)<|aF b4<|aB k1<|aN)<|iC h (fun h=>?_) (fun h=>?_)
 ·exact Rg [.a] (sl 79 [(2,vB false)] []) (aN)<|hR<|Tr<|bQ _ (kB h)
 refine hK<|Tn<|hS ?_
 obtain⟨r7,p1,b8,m1,h⟩:=Ex h
 refine Gg [.a,.a,(.c (vB r7)),.a,.a,.a,.a,.a,.a,(.v (vB b8))] (u [24] [(34,vB b8)]) (aC (EE p1)<|aG ((!r7)==false)<|aG ((!r7)==false)<|aG ((!r7)==false)<|aF (!r7)<|aB m1<|aN)<|iC h (fun h=>?_) (fun h=>?_)
 ·exact Rg [.a] (sl 79 [(2,vB false)] []) (aN)<|hR<|Tr<|bQ _ (kB h)
 refine hK<|Tn<|hS<|Gg [.a,.a] (u [34] [(36,vI a0.Do)]) (aN)<|hB<|Gj (X:=Bool) (fun v=>(u [] [(37,vB v)])) (fun v=>D7 a0 v=some r) ?_ ?_
 ·refine Gg [.a,.a] (u [] [(37,vB (a0.Do==2))]) (aN)<|iC h (fun h=>?_) (fun h=>?_)
  ·refine hK<|Tn ⟨(a0.Do==2),h,wT⟩
  refine Ge [.a,.a] (u [] [(37,vB (a0.Do==4)),(39,vB (a0.Do==4))]) (aN)<|Tn ⟨(a0.Do==4),h,wT⟩
 rintro m0 i0
 replace i0:D7 a0 m0=some r:=i0
 unfold D7 at i0
 refine iC i0 (fun i0=>?_) (fun i0=>?_)
 ·obtain⟨n0,q0,i0⟩:=bS i0
  exact Rg [.a,.a,.a,.a,.a,.a,.a,(.v (vB n0)),.a] (sl 79 [(2,vB n0)] []) (aG ((decide (1≤a0.N))==true)<|aG ((decide (1≤a0.N))==true)<|aT (decide (1≤a0.N))<|aB q0<|aN)<|hR<|qR<|Tr<|bQ _ (kB i0)
 refine Gg [.a,.a] (u [37] [(48,vB (a0.Do==7))]) (aN)<|iC i0 (fun i0=>?_) (fun i0=>?_)
 ·obtain⟨j0,t0,q1,d1,o0,x0,i0⟩:=I8 i0
  exact Rg [.a,.a,.a,.a,.a,.a,.a,(.v (vB j0)),.a,.a,.a,(.c (vS q1)),.a,(.v (vB o0)),.a] (sl 79 [(2,vB o0)] []) (aG ((decide (1≤a0.N))==true)<|aG ((decide (1≤a0.N))==true)<|aT (decide (1≤a0.N))<|aB t0<|aG (j0==true)<|aC (c1 d1 L8)<|aG (j0==true)<|aT j0<|aB x0<|aN)<|hR<|qR<|Tr<|bQ _ (kB i0)
 refine Gg [.a,.a] (u [36,48] [(64,vB (a0.Do==5))]) (aN)<|iC i0 (fun i0=>?_) (fun i0=>?_)
 ·obtain⟨k0,y0,p0,z0,i0⟩:=Ex i0
  exact Rg [.a,.a,.a,.a,.a,.a,.a,(.v (vB k0)),.a,.a,.a,.a,(.v (vB p0)),.a] (sl 79 [(2,vB p0)] []) (aG ((a0.Zone==1)==false)<|aG ((a0.Zone==1)==false)<|aF (a0.Zone==1)<|aB y0<|aG (k0==false)<|aG (k0==false)<|aF k0<|aB z0<|aN)<|hR<|qR<|Tr<|bQ _ (kB i0)
 exact hK<|qN<|Tn<|Rg [.a] (sl 79 [(2,vB true)] []) (aN)<|hR<|bQ _ (kB i0)
def IC (a0:HQ) (a1:Int) (numbered_t5_1:Bool) (filtered_t6_2:Bool):Option (Bool):=
 (some (if(decide (a0.N<1))=true then true else decide ((if 4<a1 then(4:Int)else a1)<a0.N))).bind fun b4=>
 (some (if numbered_t5_1=true then b4 else false)).bind fun b5=>
 (some (if(!numbered_t5_1)=true then a0.N != 0 else false)).bind fun b6=>
 (if(if b5=true then true else b6)=true then
  some false
 else
  (if filtered_t6_2=true then
   (C4 a0.Filter).bind fun r9=>
   some r9
  else
   some (a0.Filter==(⟨0,0,0,0,0,0,0,[],0,0,(⟨0,0⟩:Ac),(⟨0,0⟩:Ac),(⟨0,0⟩:Ac)⟩:Ag))))
def JK (a0:HQ) (a1:Int):Option (Bool):=
 IC a0 a1 true false
def E6 (a0:HQ) (a1:Int) (vt9_11:Bool):Option (Bool):=
 (if vt9_11=true then
  IC a0 a1 false false
 else
  (if(a0.Kind==3)=true then
   JK a0 a1
  else
   (if(a0.Kind==8)=true then
    JK a0 a1
   else
    (if(a0.Kind==4)=true then
     IC a0 a1 false true
    else
     some false))))
def Md (a0:HQ) (a1:Int):Option (Bool):=
 (if(a0.Kind==1)=true then
  E6 a0 a1 (a0.Kind==1)
 else
  (if(a0.Kind==2)=true then
   E6 a0 a1 (a0.Kind==2)
  else
   (if(a0.Kind==5)=true then
    E6 a0 a1 (a0.Kind==5)
   else
    (if(a0.Kind==6)=true then
     E6 a0 a1 (a0.Kind==6)
    else
     E6 a0 a1 (a0.Kind==7)))))
def lO (a0:HQ) (a1:Int) (r:Bool):Prop:=Af Tryz.prog I0 181 [vA Jx a0,vI a1] (· =vB r)
theorem jH {a0:HQ} {a1:Int} {r:Bool} (h:Md a0 a1=some r):lO a0 a1 r:=by
 refine Af.bo Ae Tryz.func181 rfl Tryz.ntmps181 [.tmp 4] fun _ _ _ _=>?_
 unfold Md at h
 refine Gg [.a,.a] (uo [0] [(2,vP [2] (0))] [.e (bx [2] (Jx a0))]) (aN)<|Gg [.a,.a] (u [] [(5,vB false),(6,vB false)]) (aN)<|Gj (X:=Bool×Bool) (fun v=>(u [] [(5,vB v.1),(6,vB v.2)])) (fun v=>IC a0 a1 v.1 v.2=some r) ?_ ?_
 ·refine Gg [.a,.a] (u [] [(8,vI a0.Kind)]) (aN)<|hB<|hS<|hB<|hS<|hB<|Gj (X:=Unit) (fun v=>(u [5,8] [])) (fun v=>JK a0 a1=some r) ?_ ?_
  ·refine hB<|hB<|hS<|hB<|hS<|hS<|Gj (X:=Bool) (fun v=>(u [] [(9,vB v)])) (fun v=>E6 a0 a1 v=some r) ?_ ?_
   ·refine Gg [.a,.a] (u [] [(9,vB (a0.Kind==1))]) (aN)<|iC h (fun h=>?_) (fun h=>?_)
    ·refine hK<|Tn ⟨(a0.Kind==1),h,wT⟩
    refine Gg [.a,.a] (u [] [(9,vB (a0.Kind==2))]) (aN)<|iC h (fun h=>?_) (fun h=>?_)
    ·refine hK<|Tn ⟨(a0.Kind==2),h,wT⟩
    refine Gg [.a,.a] (u [] [(9,vB (a0.Kind==5))]) (aN)<|iC h (fun h=>?_) (fun h=>?_)
    ·refine hK<|Tn ⟨(a0.Kind==5),h,wT⟩
    refine Gg [.a,.a] (u [] [(9,vB (a0.Kind==6))]) (aN)<|iC h (fun h=>?_) (fun h=>?_)
    ·refine hK<|Tn ⟨(a0.Kind==6),h,wT⟩
    refine Re [.a,.a] (sl 51 [(1,vI a1),(2,vP [2] (0)),(5,vB false),(6,vB false),(8,vI a0.Kind),(9,vB (a0.Kind==7)),(14,vB (a0.Kind==7))] [bx [2] (Jx a0)]) (aN)<|Tn ⟨(a0.Kind==7),h,wT⟩
   rintro o0 j0
   replace j0:E6 a0 a1 o0=some r:=j0
   unfold E6 at j0
   refine iC j0 (fun j0=>?_) (fun j0=>?_)
   ·refine hE<|Te<|Te<|qX<|Tn<|hE<|qY<|qY<|Te<|qY<|Te<|qY<|Te<|qX<|Tn ⟨(false,false),j0,wT⟩
   refine hK<|Tn<|hS<|Gg [.a,.a] (u [9] [(15,vB (a0.Kind==3))]) (aN)<|iC j0 (fun j0=>?_) (fun j0=>?_)
   ·refine hE<|Te<|Te<|qY<|Te<|qX<|qN<|Tn ⟨(),j0,wT⟩
   refine hK<|Tn<|hS<|Gg [.a,.a] (u [15] [(17,vB (a0.Kind==8))]) (aN)<|iC j0 (fun j0=>?_) (fun j0=>?_)
   ·refine hE<|Te<|Te<|qY<|Te<|qY<|qX<|Tn ⟨(),j0,wT⟩
   refine hK<|Tn<|Gg [.a,.a] (u [6,8,17] [(19,vB (a0.Kind==4))]) (aN)<|iC j0 (fun j0=>?_) (fun j0=>?_)
   ·refine hE<|Te<|qY<|Te<|qY<|qY<|Te<|qX<|Tn<|Rg [.a] (sl 51 [(1,vI a1),(2,vP [2] (0)),(5,vB false),(6,vB true)] [bx [2] (Jx a0)]) (aN)<|hE<|qY<|Te<|qX<|Tn ⟨(false,true),j0,wT⟩
   exact hK<|Tn<|hE<|qY<|Te<|qY<|qY<|Te<|qY<|Te<|qX<|Tn<|hS<|Rg [.a] (sl 51 [(4,vB false)] []) (aN)<|hR<|Tr<|qR<|Tr<|bQ _ (kB j0)
  rintro _ n0
  replace n0:JK a0 a1=some r:=n0
  unfold JK at n0
  refine Gg [.a] (u [] [(5,vB true)]) (aN)<|hE<|qY<|Te<|qY<|Te<|qX<|Tn ⟨(true,false),n0,wT⟩
 rintro⟨i0,m0⟩ k0
 replace k0:IC a0 a1 i0 m0=some r:=k0
 unfold IC at k0
 refine hS ?_
 obtain⟨b4,p0,b5,q0,b6,t0,k0⟩:=I8 k0
 refine Gg [.a,.a,.a,.a,.a,.a,.a,.a,.a,.a,.a,(.v (vB b4)),(.v (vB b5)),.a,.a,.a,.a,.a,.a,.a,(.v (vB b6)),.a] (u [1,5] [(42,vB (if b5=true then true else b6))]) (aG (i0==true)<|aG (i0==true)<|aG (i0==true)<|aG ((i0==true)&&((decide (a0.N<1))==false))<|aC (fun hg:((i0==true)&&((decide (a0.N<1))==false))=true=>aC (show ((((i0==true)&&((decide (a0.N<1))==false))=true→((i0==true)&&((decide (a0.N<1))==false))=true)∧(True∧True))∧True from⟨⟨id,⟨trivial,trivial⟩⟩,trivial⟩)<|aN)<|aH ((i0==true)&&((decide (a0.N<1))==false))<|aC (fun hg:(i0==true)=true=>aC (gi (i0==true))<|aC (fun q:(decide (a0.N<1))=false=>(gA hg (gF q)))<|aB p0<|aN)<|aT i0<|aB q0<|aG (b5==false)<|aG (b5==false)<|aG ((b5==false)&&((!i0)==true))<|aG ((b5==false)&&((!i0)==true))<|aC (fun hg:(b5==false)=true=>aC (gi (b5==false))<|aC (fun q:(!i0)=true=>(gA hg (gT q)))<|aB t0<|aN)<|aF b5<|aN)<|iC k0 (fun k0=>?_) (fun k0=>?_)
 ·exact Rg [.a] (sl 51 [(4,vB false)] []) (aN)<|hR<|Tr<|bQ _ (kB k0)
 refine hK<|Tn<|hS<|Gg [.a] (u [6,42] [(43,vB m0)]) (aN)<|iC k0 (fun k0=>?_) (fun k0=>?_)
 ·obtain⟨r9,x0,k0⟩:=bS k0
  exact Rg [.a,.a,(.c (vB r9)),.a] (sl 51 [(4,vB r9)] []) (aC (EE x0)<|aN)<|hR<|Tr<|bQ _ (kB k0)
 exact hK<|Tn<|Rg [.a,.a,.a,(.v (vB (a0.Filter==(⟨0,0,0,0,0,0,0,[],0,0,(⟨0,0⟩:Ac),(⟨0,0⟩:Ac),(⟨0,0⟩:Ac)⟩:Ag)))),.a] (sl 51 [(4,vB (a0.Filter==(⟨0,0,0,0,0,0,0,[],0,0,(⟨0,0⟩:Ac),(⟨0,0⟩:Ac),(⟨0,0⟩:Ac)⟩:Ag)))] []) (aC (And.intro trivial OJ)<|aC (congrArg (fun z=>V.c (.bool (z))) (Nb a0.Filter (⟨0,0,0,0,0,0,0,[],0,0,(⟨0,0⟩:Ac),(⟨0,0⟩:Ac),(⟨0,0⟩:Ac)⟩:Ag)))<|aN)<|hR<|bQ _ (kB k0)
def Gc (a0:Bm):Option (Bool):=
 (some (if(decide (a0.Kind<0))=true then true else decide (7<a0.Kind))).bind fun b1=>
 (gd (b1==false) (LO a0)).bind fun r2=>
 (some (if b1=true then true else !(r2==(⟨0,0,0,(⟨0,0,0,0,0,0,0,[],0,0,(⟨0,0⟩:Ac),(⟨0,0⟩:Ac),(⟨0,0⟩:Ac)⟩:Ag)⟩:Bm)))).bind fun b3=>
 (if b3=true then
  some false
 else
  (if(a0.Kind==0)=true then
   (some (if(decide (0≤a0.N))=true then decide (a0.N≤1000000)else false)).bind fun b6=>
   some b6
  else
   (if(a0.Kind==2)=true then
    (some (if(decide (1≤a0.N))=true then decide (a0.N≤99)else false)).bind fun b8=>
    (gd (b8==true) (C4 a0.Filter)).bind fun r9=>
    (some (if b8=true then r9 else false)).bind fun b10=>
    some b10
   else
    (if(a0.Kind==4)=true then
     (GT a0.Counter).bind fun r12=>
     some (r12 != ([]:List UInt8))
    else
     some true))))
def cJ (a0:Bm) (r:Bool):Prop:=Af Tryz.prog I0 182 [vA Br a0] (· =vB r)
theorem ZY {a0:Bm} {r:Bool} (h:Gc a0=some r):cJ a0 r:=by
 refine Af.bo Ae Tryz.func182 rfl Tryz.ntmps182 [.tmp 2] fun _ _ _ _=>?_
 unfold Gc at h
 refine Rg [.a,.a] (sl 50 [(1,vP [1] (0))] [bx [1] (Br a0)]) (aN)<|hS ?_
 obtain⟨b1,n0,r2,t0,b3,o0,h⟩:=I8 h
 refine Gg [.a,.a,.a,.a,.a,.a,.a,(.v (vB b1)),.a,.a,(.c (vA Br r2)),.a,(.v (vB (!(r2==(⟨0,0,0,(⟨0,0,0,0,0,0,0,[],0,0,(⟨0,0⟩:Ac),(⟨0,0⟩:Ac),(⟨0,0⟩:Ac)⟩:Ag)⟩:Bm))))),(.v (vB b3))] (u [] [(16,vB b3)]) (aG ((decide (a0.Kind<0))==false)<|aG ((decide (a0.Kind<0))==false)<|aF (decide (a0.Kind<0))<|aB n0<|aC (c1 t0 Ww)<|aC (fun hg:(b1==false)=true=>aC (And.intro trivial Zu)<|aN)<|aC (fun hg:(b1==false)=true=>aC (gi (b1==false))<|aC (gi (b1==false))<|aC (congrArg (fun z=>V.c (.bool (!z))) (Ty r2 (⟨0,0,0,(⟨0,0,0,0,0,0,0,[],0,0,(⟨0,0⟩:Ac),(⟨0,0⟩:Ac),(⟨0,0⟩:Ac)⟩:Ag)⟩:Bm)))<|aN)<|aF b1<|aB o0<|aN)<|iC h (fun h=>?_) (fun h=>?_)
 ·exact Rg [.a] (sl 50 [(2,vB false)] []) (aN)<|hR<|Tr<|bQ _ (kB h)
 refine hK<|Tn<|hS<|Gg [.a,.a] (u [16] [(18,vI a0.Kind)]) (aN)<|hB<|Gg [.a,.a] (u [] [(19,vB (a0.Kind==0))]) (aN)<|iC h (fun h=>?_) (fun h=>?_)
 ·obtain⟨b6,p0,h⟩:=bS h
  exact Rg [.a,.a,.a,.a,.a,.a,.a,(.v (vB b6)),.a] (sl 50 [(2,vB b6)] []) (aG ((decide (0≤a0.N))==true)<|aG ((decide (0≤a0.N))==true)<|aT (decide (0≤a0.N))<|aB p0<|aN)<|hR<|qR<|Tr<|bQ _ (kB h)
 refine Gg [.a,.a] (u [19] [(29,vB (a0.Kind==2))]) (aN)<|iC h (fun h=>?_) (fun h=>?_)
 ·obtain⟨b8,q0,r9,x0,i0,k0,h⟩:=I8 h
  exact Rg [.a,.a,.a,.a,.a,.a,.a,(.v (vB b8)),.a,.a,.a,(.c (vB r9)),(.v (vB i0)),.a] (sl 50 [(2,vB i0)] []) (aG ((decide (1≤a0.N))==true)<|aG ((decide (1≤a0.N))==true)<|aT (decide (1≤a0.N))<|aB q0<|aG (b8==true)<|aC (c1 x0 EE)<|aT b8<|aB k0<|aN)<|hR<|qR<|Tr<|bQ _ (kB h)
 refine Gg [.a,.a] (u [18,29] [(44,vB (a0.Kind==4))]) (aN)<|iC h (fun h=>?_) (fun h=>?_)
 ·obtain⟨j0,m0,h⟩:=bS h
  exact Rg [.a,.a,(.c (vS j0)),.a,.a] (sl 50 [(2,vB (j0 != ([]:List UInt8)))] []) (aC (L8 m0)<|aN)<|hR<|qR<|Tr<|bQ _ (kB h)
 exact hK<|qN<|Tn<|Rg [.a] (sl 50 [(2,vB true)] []) (aN)<|hR<|bQ _ (kB h)
def EJ (a0:Bs) (r3:Bool×Bool) (zone_t5_8:Int):Option (Bool):=
 (if r3.2=true then
  (C4 a0.Filter).bind fun r11=>
  (some (if r11=true then a0.Filter.Zone==zone_t5_8 else false)).bind fun b12=>
  some b12
 else
  some (a0.Filter==(⟨0,0,0,0,0,0,0,[],0,0,(⟨0,0⟩:Ac),(⟨0,0⟩:Ac),(⟨0,0⟩:Ac)⟩:Ag)))
def DS (a0:Bs):Option (Bool):=
 (some (if(decide (a0.When<1))=true then true else decide (14<a0.When))).bind fun b1=>
 (if b1=true then
  some false
 else
  (Fw a0.When).bind fun r3=>
  (some (if(!r3.1)=true then a0.Who != 0 else false)).bind fun b4=>
  (gd (b4==false) (Fc a0.Who)).bind fun r5=>
  (some (if b4=true then true else r5==([]:List UInt8))).bind fun b6=>
  (if b6=true then
   some false
  else
   (if(a0.When==9)=true then
    EJ a0 r3 (5:Int)
   else
    EJ a0 r3 (0:Int))))
def ZZ (a0:Bs) (r:Bool):Prop:=Af Tryz.prog I0 95 [vA Fs a0] (· =vB r)
theorem XE {a0:Bs} {r:Bool} (h:DS a0=some r):ZZ a0 r:=by
 refine Af.bo Ae Tryz.func95 rfl Tryz.ntmps95 [.tmp 2] fun _ _ _ _=>?_
 unfold DS at h
 refine Rg [.a,.a] (sl 51 [(1,vP [1] (0))] [bx [1] (Fs a0)]) (aN)<|hS ?_
 obtain⟨b1,p0,h⟩:=bS h
 refine Gg [.a,.a,.a,.a,.a,.a,.a,(.v (vB b1))] (u [] [(13,vB b1)]) (aG ((decide (a0.When<1))==false)<|aG ((decide (a0.When<1))==false)<|aF (decide (a0.When<1))<|aB p0<|aN)<|iC h (fun h=>?_) (fun h=>?_)
 ·exact Rg [.a] (sl 51 [(2,vB false)] []) (aN)<|hR<|Tr<|bQ _ (kB h)
 refine hK<|Tn ?_
 obtain⟨r3,x0,h⟩:=bS h
 refine Gg [.a,.a,(.c (.tup [vB r3.1,vB r3.2])),.a,.a,.a,.a,.a] (u [13] [(3,vB r3.1),(4,vB r3.2)]) (aC (UR x0)<|aC (show True∧0<[V.undef,V.undef].length from⟨trivial,(by decide)⟩)<|aC (show True∧1<[V.undef,V.undef].length from⟨trivial,(by decide)⟩)<|aN)<|hS ?_
 obtain⟨b4,q0,r5,y0,b6,t0,h⟩:=I8 h
 refine Gg [.a,.a,.a,.a,.a,.a,(.v (vB b4)),.a,.a,.a,(.c (vS r5)),.a,(.v (vB b6))] (u [3] [(32,vB b6)]) (aG ((!r3.1)==true)<|aG ((!r3.1)==true)<|aT (!r3.1)<|aB q0<|aG (b4==false)<|aC (c1 y0 RY)<|aG (b4==false)<|aF b4<|aB t0<|aN)<|iC h (fun h=>?_) (fun h=>?_)
 ·exact Rg [.a] (sl 51 [(2,vB false)] []) (aN)<|hR<|Tr<|bQ _ (kB h)
 refine hK<|Tn<|Gg [.a] (u [32] [(5,vI 0)]) (aN)<|Gj (X:=Int) (fun v=>(u [] [(5,vI v)])) (fun v=>EJ a0 r3 v=some r) ?_ ?_
 ·refine Gg (nA 3) (u [] [(35,vB (a0.When==9))]) (aN)<|iC h (fun h=>?_) (fun h=>?_)
  ·refine Ge [.a] (u [] [(5,vI 5)]) (aN)<|Tn ⟨5,h,wT⟩
  refine hK<|Tn ⟨0,h,wT⟩
 rintro k0 i0
 replace i0:EJ a0 r3 k0=some r:=i0
 unfold EJ at i0
 refine hS<|Gg [.a] (u [4] [(36,vB r3.2)]) (aN)<|iC i0 (fun i0=>?_) (fun i0=>?_)
 ·obtain⟨j0,o0,m0,n0,i0⟩:=Ex i0
  exact Rg [.a,.a,(.c (vB j0)),.a,.a,.a,.a,.a,.a,(.v (vB m0)),.a] (sl 51 [(2,vB m0)] []) (aC (EE o0)<|aG (j0==true)<|aG (j0==true)<|aH (j0==true)<|aT j0<|aB n0<|aN)<|hR<|Tr<|bQ _ (kB i0)
 exact hK<|Tn<|Rg [.a,.a,.a,(.v (vB (a0.Filter==(⟨0,0,0,0,0,0,0,[],0,0,(⟨0,0⟩:Ac),(⟨0,0⟩:Ac),(⟨0,0⟩:Ac)⟩:Ag)))),.a] (sl 51 [(2,vB (a0.Filter==(⟨0,0,0,0,0,0,0,[],0,0,(⟨0,0⟩:Ac),(⟨0,0⟩:Ac),(⟨0,0⟩:Ac)⟩:Ag)))] []) (aC (And.intro trivial OJ)<|aC (congrArg (fun z=>V.c (.bool (z))) (Nb a0.Filter (⟨0,0,0,0,0,0,0,[],0,0,(⟨0,0⟩:Ac),(⟨0,0⟩:Ac),(⟨0,0⟩:Ac)⟩:Ag)))<|aN)<|hR<|bQ _ (kB i0)
def De (a0:List (E9)) (a1:List (E9)):Option (Bool):=
 (Bn a0 a1).bind fun r1=>
 some r1
def Jb (a0:List (E9)) (a1:List (E9)) (r:Bool):Prop:=Af Tryz.prog I0 36 [vL AF a0,vL AF a1, .c (.fn 37)] (· =vB r)
theorem ID {a0:List (E9)} {a1:List (E9)} {r:Bool} (h:De a0 a1=some r):Jb a0 a1 r:=by
 refine Af.bo Ae Tryz.func36 rfl Tryz.ntmps36 [.tmp 6] fun _ _ _ _=>?_
 unfold De at h
 refine Gg [.a] (u [] []) (aN) ?_
 obtain⟨r1,i0,h⟩:=bS h
 exact Rg [.a,.a,.a,(.c (vB r1)),.a] (sl 11 [(6,vB r1)] []) (aC (CT i0)<|aN)<|hR<|bQ _ (kB h)
def QB (a0:Ai) (a1:Int):Option (Int):=
 (PA a0 a1).bind fun r1=>
 (if(decide (0<(r1.length:Int)))=true then
  (idx r1 (0:Int)).bind fun e3=>
  some e3
 else
  (some (if(decide (0≤a1))=true then decide (a1<(a0.Players.length:Int))else false)).bind fun b4=>
  (gd (b4==true) (idx a0.Players a1)).bind fun e5=>
  (some (if b4=true then !e5.Lost else false)).bind fun b6=>
  (if b6=true then
   some a1
  else
   some (-1:Int)))
def XF (a0:Ai) (a1:Int) (r:Int):Prop:=Af Tryz.prog I0 13 [vA Aj a0,vI a1] (· =vI r)
theorem WP {a0:Ai} {a1:Int} {r:Int} (h:QB a0 a1=some r):XF a0 a1 r:=by
 refine Af.bo Ae Tryz.func13 rfl Tryz.ntmps13 [.tmp 4] fun _ _ _ _=>?_
 unfold QB at h
 refine Gg [.a,.a] (uo [0] [(2,vP [2] (0))] [.e (bx [2] (Aj a0))]) (aN)<|hS ?_
 obtain⟨r1,n0,h⟩:=bS h
 refine Gg [.a,.a,(.c (vL (eI .i64) r1)),.a] (u [] [(5,vL (eI .i64) r1)]) (aC (U6 n0)<|aN)<|Gg (nA 3) (u [] [(11,vB (decide (0<(r1.length:Int))))]) (aN)<|iC h (fun h=>?_) (fun h=>?_)
 ·obtain⟨e3,i0,h⟩:=bS h
  exact Rg [.a,.a,(.v (vI e3)),.a] (sl 34 [(4,vI e3)] []) (aC (AI i0)<|aC (DI i0 (Fq .i64) 0 1 false (vI e3))<|aC (Eq.refl (vI e3))<|aN)<|hR<|Tr<|bQ _ (congrArg vI (sI h))
 refine hK<|Tn<|hS ?_
 obtain⟨b4,k0,e5,j0,b6,m0,h⟩:=I8 h
 refine Rg [.a,.a,.a,.a,.a,.a,.a,.a,(.v (vB b4)),.a,.a,.a,.a,.a,.a,(.v (vB e5.Lost)),.a,(.v (vB b6))] (sl 34 [(1,vI a1),(32,vB b6)] []) (aG ((decide (0≤a1))==true)<|aG ((decide (0≤a1))==true)<|aH ((decide (0≤a1))==true)<|aT (decide (0≤a1))<|aB k0<|aG (b4==true)<|aC (fun hg:(b4==true)=true=>aC (gi (b4==true))<|aC (gi (b4==true))<|aC (KW j0 hg).1<|aN)<|aG (b4==true)<|aC (fun hg:(b4==true)=true=>aC (gi (b4==true))<|aC (DI (G8 j0 hg) Cp 10 1 false (vB e5.Lost))<|aC (Eq.refl (vB e5.Lost))<|aN)<|aG (b4==true)<|aT b4<|aB m0<|aN)<|iC h (fun h=>?_) (fun h=>?_)
 ·exact Rg [.a,.a] (sl 34 [(4,vI a1)] []) (aN)<|hR<|Tr<|bQ _ (congrArg vI (sI h))
 exact hK<|Tn<|Rg [.a] (sl 34 [(4,vI (-1:Int))] []) (aN)<|hR<|bQ _ (congrArg vI (sI h))
def Js (b5_2:Ai):Option (Ai):=
 some b5_2
def R5 (a0:Ai) (a1:Int):Option (Ai):=
 (TY a0).bind fun r1=>
 (some (if(r1.Over==0)=true then decide (0≤a1)else false)).bind fun b4=>
 (some (if b4=true then decide (a1<(r1.Players.length:Int))else false)).bind fun b5=>
 (if b5=true then
  Js ({{r1 with Over:=(1:Int)}with Winner:=a1})
 else
  Js r1)
def Z0 (a0:Ai) (a1:Int) (r:Ai):Prop:=Af Tryz.prog I0 14 [vA Aj a0,vI a1] (· =vA Aj r)
theorem XG {a0:Ai} {a1:Int} {r:Ai} (h:R5 a0 a1=some r):Z0 a0 a1 r:=by
 refine Af.bo Ae Tryz.func14 rfl Tryz.ntmps14 [.cell 4 31] fun _ _ _ _=>?_
 unfold R5 at h
 refine Rg [.a,.a] (sl 26 [(1,vI a1),(2,vP [2] (0)),(4,vP [4] (0))] [bx [4] [.nils,.nils,.nils,.nils,.nils,.nils,.nils,Aa 0,Aa 0,Aa 0,.bool false,Aa 0,Aa 0,Aa 0,Aa 0,.int .u64 0,.nils,Aa 0,Aa 0],bx [2] (Aj a0)]) (aN) ?_
 obtain⟨r1,n0,h⟩:=bS h
 refine Gg [.a,(.c (vA Aj r1)),.a,.a] (uo [2] [(5,vP [5] (0))] [.e (bx [5] (Aj r1)),.k 0]) (aC (ZU n0)<|aN)<|Gj (X:=Ai) (fun v=>(uo [1] [] [.e (bx [5] (Aj v)),.k 1])) (fun v=>Js v=some r) ?_ ?_
 ·obtain⟨b4,k0,b5,m0,h⟩:=Ex h
  refine Gg [.a,.a,.a,.a,.a,.a,(.v (vB b4)),.a,.a,.a,.a,.a,.a,(.v (vB b5))] (u [] [(21,vB b5)]) (aG ((r1.Over==0)==true)<|aT (r1.Over==0)<|aB k0<|aG (b4==true)<|aG (b4==true)<|aH (b4==true)<|aT b4<|aB m0<|aN)<|iC h (fun h=>?_) (fun h=>?_)
  ·refine Ge (nA 5) (uo [] [(22,vI a1),(23,vP [5] (17)),(24,vP [5] (18))] [.e (bx [5] (Aj ({{r1 with Over:=(1:Int)}with Winner:=a1}))),.k 1]) (aN)<|Tn ⟨({{r1 with Over:=(1:Int)}with Winner:=a1}),h,wT⟩
  refine hK<|Tn ⟨r1,h,wT⟩
 rintro i0 j0
 replace j0:Js i0=some r:=j0
 unfold Js at j0
 exact Gg [.a,.a] (uo [5] [] [.e (bx [4] (Aj i0))]) (aN)<|hR<|bE (vA Aj i0) (.agg (Aj i0)) (congrArg (vA Aj) (sI j0))
def LU:Option (Bool):=
 some true
def GJ (a0:Ai) (a1:List (Int)) (a2:Int) (a3:Int) (i_t9_3:Int):Option ((Int)⊕(Unit⊕Unit)):=
 (if(decide (i_t9_3<(a1.length:Int)))=true then
  (idx a1 i_t9_3).bind fun e6=>
  (K9 a0 e6).bind fun r7=>
  (some (if(!r7.2)=true then true else r7.1.Zone != a2)).bind fun b8=>
  (some (if(decide (0≤a3))=true then r7.1.Owner != a3 else false)).bind fun b9=>
  (gd ((if b8=true then true else b9)==false) (idx a1 i_t9_3)).bind fun e10=>
  (gd ((if b8=true then true else b9)==false) (MK a1 e10)).bind fun r11=>
  (some (if(if b8=true then true else b9)=true then true else r11 != 1)).bind fun b12=>
  (if b12=true then
   some (.inr (.inr ()))
  else
   some (.inl (Ab (i_t9_3+1))))
 else
  some (.inr (.inl ())))
def KB (a0:Ai) (a1:List (Int)) (a2:Int) (a3:Int):Option (Bool):=
 (iter (fun(v:Int)=>GJ a0 a1 a2 a3 v) FU (0:Int)).bind (Sum.elim (fun o0=>LU) (fun o1=>some false))
def fL (a0:Ai) (a1:List (Int)) (a2:Int) (a3:Int) (r:Bool):Prop:=Af Tryz.prog I0 50 [vA Aj a0,vL (eI .i64) a1,vI a2,vI a3] (· =vB r)
theorem LV {a0:Ai} {a1:List (Int)} {a2:Int} {a3:Int} {r:Bool} (h:KB a0 a1 a2 a3=some r):fL a0 a1 a2 a3 r:=by
 refine Af.bo Ae Tryz.func50 rfl Tryz.ntmps50 [.tmp 8] fun _ _ _ _=>?_
 unfold KB at h
 refine Gg [.a,.a] (uo [0] [(4,vP [4] (0))] [.e (bx [4] (Aj a0))]) (aN)<|Sj (X:=Unit) (fun v=>(sl 54 [] [])) (fun v=>LU=some r) ?_ ?_
 ·refine Gg [.a] (u [] [(9,vI 0)]) (aN)<|hB ?_
  obtain⟨n1,y0,h⟩:=bS h
  refine Gi (fun(v:Int)=>(u [] [(9,vI v)])) y0 (wT) ?_
  rintro i0 m1 j0 o0
  replace j0:GJ a0 a1 a2 a3 i0=some m1:=j0
  unfold GJ at j0
  refine hS<|Gg (nA 4) (u [] [(15,vB (decide (i0<(a1.length:Int))))]) (aN)<|iC j0 (fun j0=>?_) (fun j0=>?_)
  ·refine hK<|Tn<|hS<|hB<|hS ?_
   obtain⟨e6,q0,r7,j1,j0⟩:=Ex j0
   refine Ak.regN [0,1,2,4,512,513,514,516,517,518,519,526,527,542,543,575,639,767,895,1023,2047,4095,1791,515,5,6,7,14,15,30,31,63,127,255,383,511,3] 4095 [.a,.a,.a,.a,(.v (vI e6)),(.c (.tup [vA Ad r7.1,vB r7.2])),.a,.a,.a,.a,.a,.a] [[10],[4]] (fun n=>⟨[.undef,vL (eI .i64) a1,vI a2,vI a3,vP [4] (0),.undef,.undef,.undef,.undef,vI i0,cond (Nat.testBit n 9) (vP [10] (0)) (.undef),cond (Nat.testBit n 11) (vB r7.2) (.undef),.undef,.undef,.undef,vB (decide (i0<(a1.length:Int))),.undef,.undef,cond (Nat.testBit n 6) (.tup [vA Ad r7.1,vB r7.2]) (.undef),cond (Nat.testBit n 0) (vA Aj a0) (.undef),cond (Nat.testBit n 1) (vL (eI .i64) a1) (.undef),cond (Nat.testBit n 2) (vI i0) (.undef),cond (Nat.testBit n 3) (vX (eI .i64) a1 ((i0).toNat *1)) (.undef),cond (Nat.testBit n 4) (vI e6) (.undef),cond (Nat.testBit n 5) (.tup [vA Ad r7.1,vB r7.2]) (.undef),cond (Nat.testBit n 7) (vA Ad r7.1) (.undef),cond (Nat.testBit n 8) (vB r7.2) (.undef),.undef,.undef,.undef,.undef,.undef,.undef,.undef,.undef,.undef,.undef,.undef,.undef,.undef,.undef,.undef,.undef,.undef,.undef,.undef,.undef,.undef,.undef,.undef,.undef,.undef,.undef,.undef],List.filterMap id [cond (Nat.testBit n 10) (some (bx [10] (Ad r7.1))) (cond (Nat.testBit n 9) (some (bx [10] [Aa 0,Aa 0,Aa 0,Aa 0,Aa 0,.bool false,.bool false,.bool false,.bool false,Aa 0,Aa (((⟨0,0,0⟩:A3 (Int))).x0),Aa (((⟨0,0,0⟩:A3 (Int))).x1),Aa (((⟨0,0,0⟩:A3 (Int))).x2),Aa 0,Aa 0,Aa 0,.bool false,Aa 0,Aa 0])) ((none:Option C3))),some (bx [4] (Aj a0))],[],[]⟩) [[],[],[],[0≤i0∧i0<(a1.length:Int)],[(i0).toNat *1+1≤(a1.flatMap (eI .i64)).length ∧O6 false ((i0).toNat *1) 1 (a1.flatMap (eI .i64))=vI e6,(vI e6:V)=vI e6],[S0 a0 e6 r7],[],[True∧0<[V.undef,V.undef].length],[True∧1<[V.undef,V.undef].length],[],[],[]] BF (by kernel_rfl) (by kernel_rfl) (by decide) (D4.t (by kernel_rfl)) (by kernel_rfl) ⟨trivial,trivial,trivial,⟨(AI q0),trivial⟩,⟨(DI q0 (Fq .i64) 0 1 false (vI e6)),rfl,trivial⟩,⟨(RA j1),trivial⟩,trivial,⟨⟨trivial,(by decide)⟩,trivial⟩,⟨⟨trivial,(by decide)⟩,trivial⟩,trivial,trivial,trivial,trivial⟩<|Tn<|Gs (u [15,18,19,20,21,22,23,24,25,26] []) ?_
   obtain⟨b8,d1,b9,i1,m0,n0,k1,z0,j0⟩:=D2 j0
   obtain⟨p0,t0,j0⟩:=bS j0
   refine Gg [.a,.a,.a,.a,.a,.a,.a,(.v (vB b8)),.a,.a,.a,.a,.a,.a,.a,.a,(.v (vB b9)),.a,.a,.a,.a,.a,.a,(.v (vI m0)),(.c (vI k1)),.a,(.v (vB p0))] (uo [10,11] [(53,vB p0)] [.k 1]) (aG ((!r7.2)==false)<|aH ((!r7.2)==false)<|aF (!r7.2)<|aB d1<|aG (b8==false)<|aG (b8==false)<|aG ((b8==false)&&((decide (0≤a3))==true))<|aH ((b8==false)&&((decide (0≤a3))==true))<|aC (fun hg:(b8==false)=true=>aC (gi (b8==false))<|aC (fun q:(decide (0≤a3))=true=>(gA hg (gT q)))<|aB i1<|aN)<|aF b8<|aC (fun hg:((if b8=true then true else b9)==false)=true=>aC (gi ((if b8=true then true else b9)==false))<|aC (gi ((if b8=true then true else b9)==false))<|aC (KW n0 hg).1<|aN)<|aC (fun hg:((if b8=true then true else b9)==false)=true=>aC (gi ((if b8=true then true else b9)==false))<|aC (DI (G8 n0 hg) (Fq .i64) 0 1 false (vI m0))<|aC (Eq.refl (vI m0))<|aN)<|aC (c2 z0 SQ)<|aG ((if b8=true then true else b9)==false)<|aF (if b8=true then true else b9)<|aB t0<|aN)<|iC j0 (fun j0=>?_) (fun j0=>?_)
   ·refine Rg [.a] (sl 54 [(8,vB false)] []) (aN)<|hR<|qR<|Tr ?_
    obtain rfl:=o0 _ (sI j0).symm
    replace h:=Cy h
    exact Tr<|qR<|Tr<|bQ _ (kB h)
   refine hK<|qN<|Tn<|Ge (nA 3) (u [] [(9,vI (Ab (i0+1))),(16,vI i0),(17,vI (Ab (i0+1)))]) (aN)<|Tn ⟨(Ab (i0+1)),(sI j0).symm,wT⟩
  refine hE<|Te ?_
  obtain rfl:=o0 _ (sI j0).symm
  replace h:=CZ h
  refine Te<|qX<|Tn ⟨(),h,wT⟩
 rintro _ k0
 replace k0:LU=some r:=k0
 unfold LU at k0
 exact Rg [.a] (sl 54 [(8,vB true)] []) (aN)<|hR<|bQ _ (kB k0)
def H2:Option (Bool):=
 some true
def D8 (a0:List (E1)) (a1:Ai) (i_t5_4:Int):Option ((Int)⊕(Unit⊕Unit)):=
 (if(decide (i_t5_4<(a1.Objects.length:Int)))=true then
  (idx a1.Objects i_t5_4).bind fun e7=>
  (WK e7 (a0.length:Int) (a1.Players.length:Int)).bind fun r8=>
  (some (if(!r8)=true then true else decide (a1.NextId≤e7.Id))).bind fun b9=>
  (some (if b9=true then true else decide (a1.NextStamp≤e7.Stamp))).bind fun b10=>
  (gd ((b10==false)&&((decide (0<i_t5_4))==true)) (idx a1.Objects (Ab (i_t5_4 - 1)))).bind fun e11=>
  (some (if(decide (0<i_t5_4))=true then decide (e7.Id≤e11.Id)else false)).bind fun b12=>
  (some (if b10=true then true else b12)).bind fun b13=>
  (if b13=true then
   some (.inr (.inr ()))
  else
   (Ny a1 e7).bind fun r15=>
   (if(!r15)=true then
    some (.inr (.inr ()))
   else
    some (.inl (Ab (i_t5_4+1)))))
 else
  some (.inr (.inl ())))
def J8 (a0:List (E1)) (a1:Ai):Option (Bool):=
 (if(decide (2048<(a1.Objects.length:Int)))=true then
  some false
 else
  (iter (fun(v:Int)=>D8 a0 a1 v) FU (0:Int)).bind (Sum.elim (fun o0=>H2) (fun o1=>some false)))
def XH (a0:List (E1)) (a1:Ai) (r:Bool):Prop:=Af Tryz.prog I0 24 [vL G9 a0,vA Aj a1] (· =vB r)
theorem WQ {a0:List (E1)} {a1:Ai} {r:Bool} (h:J8 a0 a1=some r):XH a0 a1 r:=by
 refine Af.bo Ae Tryz.func24 rfl Tryz.ntmps24 [.tmp 4] fun _ _ _ _=>?_
 unfold J8 at h
 refine Gg [.a,.a] (uo [1] [(3,vP [3] (0))] [.e (bx [3] (Aj a1))]) (aN)<|hS<|Gg (nA 4) (u [] [(10,vB (decide (2048<(a1.Objects.length:Int))))]) (aN)<|iC h (fun h=>?_) (fun h=>?_)
 ·exact Rg [.a] (sl 65 [(4,vB false)] []) (aN)<|hR<|Tr<|bQ _ (kB h)
 refine hK<|Tn<|Sj (X:=Unit) (fun v=>(sl 65 [] [])) (fun v=>H2=some r) ?_ ?_
 ·refine Gg [.a] (u [10] [(5,vI 0)]) (aN)<|hB ?_
  obtain⟨p1,i1,h⟩:=bS h
  refine Gi (fun(v:Int)=>(u [] [(5,vI v)])) i1 (wT) ?_
  rintro i0 o1 j0 m0
  replace j0:D8 a0 a1 i0=some o1:=j0
  unfold D8 at j0
  refine hS<|Gg (nA 5) (u [] [(15,vB (decide (i0<(a1.Objects.length:Int))))]) (aN)<|iC j0 (fun j0=>?_) (fun j0=>?_)
  ·refine hK<|Tn<|hS<|hB ?_
   obtain⟨e7,t0,j0⟩:=bS j0
   refine Gg [.a,.a,.a,.a,(.v (vA Ad e7)),.a,.a] (uo [15] [(6,vP [6] (0))] [.e (bx [6] (Ad e7)),.k 0]) (aC (AI t0)<|aC (DI t0 Eh 0 19 true (vA Ad e7))<|aC (Eq.refl (vA Ad e7))<|aN)<|hS ?_
   obtain⟨r8,n1,b9,m1,k0,y0,o0,p0,j0⟩:=D2 j0
   obtain⟨k1,z0,q0,d1,j0⟩:=Ex j0
   refine Gq BF [.a,.a,.a,.a,.a,.a,(.c (vB r8)),.a,.a,.a,.a,.a,.a,.a,(.v (vB b9)),.a,.a,.a,.a,.a,.a,(.v (vB k0)),.a,.a,.a,.a,.a,.a,.a,.a,.a,.a,(.v (vI o0.Id)),.a,.a,.a,(.v (vB k1)),(.v (vB q0))] (u [] [(60,vB q0)]) (aC (jG n1)<|aG ((!r8)==false)<|aG ((!r8)==false)<|aH ((!r8)==false)<|aF (!r8)<|aB m1<|aG (b9==false)<|aG (b9==false)<|aH (b9==false)<|aF b9<|aB y0<|aG (k0==false)<|aG (k0==false)<|aG ((k0==false)&&((decide (0<i0))==true))<|aG ((k0==false)&&((decide (0<i0))==true))<|aC (fun hg:((k0==false)&&((decide (0<i0))==true))=true=>aC (gi ((k0==false)&&((decide (0<i0))==true)))<|aC (gi ((k0==false)&&((decide (0<i0))==true)))<|aC (KW p0 hg).1<|aN)<|aG ((k0==false)&&((decide (0<i0))==true))<|aC (fun hg:((k0==false)&&((decide (0<i0))==true))=true=>aC (gi ((k0==false)&&((decide (0<i0))==true)))<|aC (DI (G8 p0 hg) Eh 0 1 false (vI o0.Id))<|aC (Eq.refl (vI o0.Id))<|aN)<|aG ((k0==false)&&((decide (0<i0))==true))<|aH ((k0==false)&&((decide (0<i0))==true))<|aC (fun hg:(k0==false)=true=>aC (gi (k0==false))<|aC (fun q:(decide (0<i0))=true=>(gA hg (gT q)))<|aB z0<|aN)<|aF k0<|aB d1<|aN)<|iC j0 (fun j0=>?_) (fun j0=>?_)
   ·refine Rg [.a] (sl 65 [(4,vB false)] []) (aN)<|hR<|Tr<|qR<|Tr ?_
    obtain rfl:=m0 _ (sI j0).symm
    replace h:=Cy h
    exact Tr<|qR<|Tr<|bQ _ (kB h)
   refine hK<|Tn ?_
   obtain⟨x0,j1,j0⟩:=bS j0
   refine Rg [.a,.a,(.c (vB x0)),.a] (sl 65 [(0,vL G9 a0),(3,vP [3] (0)),(5,vI i0),(64,vB (!x0))] [bx [3] (Aj a1)]) (aC (XC j1)<|aN)<|iC j0 (fun j0=>?_) (fun j0=>?_)
   ·refine Rg [.a] (sl 65 [(4,vB false)] []) (aN)<|hR<|qR<|Tr ?_
    obtain rfl:=m0 _ (sI j0).symm
    replace h:=Cy h
    exact Tr<|qR<|Tr<|bQ _ (kB h)
   refine hK<|qN<|Tn<|Ge (nA 3) (u [] [(5,vI (Ab (i0+1))),(16,vI i0),(17,vI (Ab (i0+1)))]) (aN)<|Tn ⟨(Ab (i0+1)),(sI j0).symm,wT⟩
  refine hE<|Te ?_
  obtain rfl:=m0 _ (sI j0).symm
  replace h:=CZ h
  refine Te<|qX<|Tn ⟨(),h,wT⟩
 rintro _ n0
 replace n0:H2=some r:=n0
 unfold H2 at n0
 exact Rg [.a] (sl 65 [(4,vB true)] []) (aN)<|hR<|bQ _ (kB n0)
def LW (a0:Ay) (a1:Ay):Option (Bool):=
 (some (if(a0.Kind==a1.Kind)=true then a0.Filter==a1.Filter else false)).bind fun b3=>
 (gd (b3==true) (Iq a0.Mods a1.Mods)).bind fun r4=>
 (some (if b3=true then r4 else false)).bind fun b5=>
 (some (if b5=true then a0.Price==a1.Price else false)).bind fun b6=>
 (some (if b6=true then a0.Slow==a1.Slow else false)).bind fun b7=>
 (some (if b7=true then a0.Trigger==a1.Trigger else false)).bind fun b8=>
 (some (if b8=true then a0.May==a1.May else false)).bind fun b9=>
 (gd (b9==true) (Kz a0.Effects a1.Effects)).bind fun r10=>
 (some (if b9=true then r10 else false)).bind fun b11=>
 (some (if b11=true then a0.Replace==a1.Replace else false)).bind fun b12=>
 some b12
def KC (a0:Ay) (a1:Ay) (i_t5_14:Int):Option ((Int)⊕(Unit⊕Unit)):=
 (if(decide (i_t5_14<(a0.Specs.length:Int)))=true then
  (idx a0.Specs i_t5_14).bind fun e17=>
  (idx a1.Specs i_t5_14).bind fun e18=>
  (if(!(e17==e18))=true then
   some (.inr (.inr ()))
  else
   some (.inl (Ab (i_t5_14+1))))
 else
  some (.inr (.inl ())))
def OY (a0:Ay) (a1:Ay):Option (Bool):=
 (if((a0.Specs.length:Int) != (a1.Specs.length:Int))=true then
  some false
 else
  (iter (fun(v:Int)=>KC a0 a1 v) FU (0:Int)).bind (Sum.elim (fun o0=>LW a0 a1) (fun o1=>some false)))
def fM (a0:Ay) (a1:Ay) (r:Bool):Prop:=Af Tryz.prog I0 106 [vA Bc a0,vA Bc a1] (· =vB r)
theorem cK {a0:Ay} {a1:Ay} {r:Bool} (h:OY a0 a1=some r):fM a0 a1 r:=by
 refine Af.bo Ae Tryz.func106 rfl Tryz.ntmps106 [.tmp 4] fun _ _ _ _=>?_
 unfold OY at h
 refine Rg (nA 3) (sl 92 [(2,vP [2] (0)),(3,vP [3] (0))] [bx [3] (Bc a1),bx [2] (Bc a0)]) (aN)<|hS<|Gg (nA 7) (u [] [(12,vB ((a0.Specs.length:Int) != (a1.Specs.length:Int)))]) (aN)<|iC h (fun h=>?_) (fun h=>?_)
 ·exact Rg [.a] (sl 92 [(4,vB false)] []) (aN)<|hR<|Tr<|bQ _ (kB h)
 refine hK<|Tn<|Gj (X:=Unit) (fun v=>(u [12] [])) (fun v=>LW a0 a1=some r) ?_ ?_
 ·refine Gg [.a] (u [12] [(5,vI 0)]) (aN)<|hB ?_
  obtain⟨y1,x0,h⟩:=bS h
  refine Gi (fun(v:Int)=>(u [] [(5,vI v)])) x0 (wT) ?_
  rintro j0 j1 i0 p0
  replace i0:KC a0 a1 j0=some j1:=i0
  unfold KC at i0
  refine hS<|Gg (nA 5) (u [] [(17,vB (decide (j0<(a0.Specs.length:Int))))]) (aN)<|iC i0 (fun i0=>?_) (fun i0=>?_)
  ·refine hK<|Tn<|hS<|hB ?_
   obtain⟨n0,q0,o0,t0,i0⟩:=Ex i0
   refine Gq BF [.a,.a,.a,.a,(.v (vA AZ n0)),.a,.a,.a,.a,(.v (vA AZ o0)),(.v (vB (!(n0==o0))))] (u [17] [(30,vB (!(n0==o0)))]) (aC (AI q0)<|aC (DI q0 Na 0 18 true (vA AZ n0))<|aC (Eq.refl (vA AZ n0))<|aC (AI t0)<|aC (DI t0 Na 0 18 true (vA AZ o0))<|aC (Eq.refl (vA AZ o0))<|aC (congrArg (fun z=>V.c (.bool (!z))) (lu n0 o0))<|aN)<|iC i0 (fun i0=>?_) (fun i0=>?_)
   ·refine Rg [.a] (sl 92 [(4,vB false)] []) (aN)<|hR<|qR<|Tr ?_
    obtain rfl:=p0 _ (sI i0).symm
    replace h:=Cy h
    exact Tr<|qR<|Tr<|bQ _ (kB h)
   refine hK<|qN<|Tn<|Ge (nA 3) (u [] [(5,vI (Ab (j0+1))),(18,vI j0),(19,vI (Ab (j0+1)))]) (aN)<|Tn ⟨(Ab (j0+1)),(sI i0).symm,wT⟩
  refine hE<|Te ?_
  obtain rfl:=p0 _ (sI i0).symm
  replace h:=CZ h
  refine Te<|qX<|Tn ⟨(),h,wT⟩
 rintro _ k0
 replace k0:LW a0 a1=some r:=k0
 unfold LW at k0
 obtain⟨b3,k1,r4,t1,b5,m1,b6,n1,k0⟩:=D2 k0
 obtain⟨b7,o1,b8,p1,b9,q1,x1,i1,k0⟩:=D2 k0
 obtain⟨m0,z0,y0,d1,k0⟩:=Ex k0
 exact Rg [.a,.a,.a,.a,.a,.a,.a,.a,.a,.a,(.v (vB (a0.Filter==a1.Filter))),(.v (vB b3)),.a,.a,.a,.a,.a,(.c (vB r4)),(.v (vB b5)),.a,.a,.a,.a,.a,(.v (vB (a0.Price==a1.Price))),(.v (vB b6)),.a,.a,.a,.a,.a,.a,(.v (vB b7)),.a,.a,.a,.a,.a,(.v (vB (a0.Trigger==a1.Trigger))),(.v (vB b8)),.a,.a,.a,.a,.a,.a,(.v (vB b9)),.a,.a,.a,.a,.a,(.c (vB x1)),(.v (vB m0)),.a,.a,.a,.a,.a,(.v (vB (a0.Replace==a1.Replace))),(.v (vB y0)),.a] (sl 92 [(4,vB y0)] []) (aG ((a0.Kind==a1.Kind)==true)<|aG ((a0.Kind==a1.Kind)==true)<|aC (fun hg:((a0.Kind==a1.Kind)==true)=true=>aC (gi ((a0.Kind==a1.Kind)==true))<|aC (gi ((a0.Kind==a1.Kind)==true))<|aC (congrArg (fun z=>V.c (.bool (z))) (Nb a0.Filter a1.Filter))<|aN)<|aT (a0.Kind==a1.Kind)<|aB k1<|aG (b3==true)<|aG (b3==true)<|aC (c2 t1 PK)<|aT b3<|aB m1<|aG (b5==true)<|aG (b5==true)<|aC (fun hg:(b5==true)=true=>aC (gi (b5==true))<|aC (gi (b5==true))<|aC (congrArg (fun z=>V.c (.bool (z))) (gZ a0.Price a1.Price))<|aN)<|aT b5<|aB n1<|aG (b6==true)<|aG (b6==true)<|aC (fun hg:(b6==true)=true=>aC (gi (b6==true))<|aC (gi (b6==true))<|aC Wo<|aN)<|aT b6<|aB o1<|aG (b7==true)<|aG (b7==true)<|aC (fun hg:(b7==true)=true=>aC (gi (b7==true))<|aC (gi (b7==true))<|aC (congrArg (fun z=>V.c (.bool (z))) (g0 a0.Trigger a1.Trigger))<|aN)<|aT b7<|aB p1<|aG (b8==true)<|aG (b8==true)<|aC (fun hg:(b8==true)=true=>aC (gi (b8==true))<|aC (gi (b8==true))<|aC Wo<|aN)<|aT b8<|aB q1<|aG (b9==true)<|aG (b9==true)<|aC (c2 i1 U7)<|aT b9<|aB z0<|aG (m0==true)<|aG (m0==true)<|aC (fun hg:(m0==true)=true=>aC (gi (m0==true))<|aC (gi (m0==true))<|aC (congrArg (fun z=>V.c (.bool (z))) (bK a0.Replace a1.Replace))<|aN)<|aT m0<|aB d1<|aN)<|hR<|bQ _ (kB k0)
def Lc (a0:Ag):Option (Bool):=
 (some (if(decide (a0.Zone<0))=true then true else decide (5<a0.Zone))).bind fun b1=>
 (some (if b1=true then true else decide (a0.Who<0))).bind fun b2=>
 (some (if b2=true then true else decide (2<a0.Who))).bind fun b3=>
 (some (if b3=true then true else decide (a0.Self<0))).bind fun b4=>
 (some (if b4=true then true else decide (2<a0.Self))).bind fun b5=>
 (some (if b5=true then true else decide (a0.Tap<0))).bind fun b6=>
 (some (if b6=true then true else decide (2<a0.Tap))).bind fun b7=>
 (if b7=true then
  some false
 else
  (Ht a0.Types a0.NotTypes (63:Int)).bind fun r9=>
  (gd ((!r9)==false) (Ht a0.Colors a0.NotColors (31:Int))).bind fun r10=>
  (some (if(!r9)=true then true else !r10)).bind fun b11=>
  (if b11=true then
   some false
  else
   (gd ((a0.Sub != ([]:List UInt8))==true) (MO a0.Sub)).bind fun r13=>
   (some (if(a0.Sub != ([]:List UInt8))=true then !r13 else false)).bind fun b14=>
   (some (if b14=true then true else decide (a0.Keys<0))).bind fun b15=>
   (some (if b15=true then true else decide (131071<a0.Keys))).bind fun b16=>
   (if b16=true then
    some false
   else
    (K4 a0.Power).bind fun r18=>
    (gd (r18==true) (K4 a0.Tough)).bind fun r19=>
    (some (if r18=true then r19 else false)).bind fun b20=>
    (gd (b20==true) (K4 a0.Value)).bind fun r21=>
    (some (if b20=true then r21 else false)).bind fun b22=>
    some b22)))
def lP (a0:Ag) (r:Bool):Prop:=Af Tryz.prog I0 107 [vA As a0] (· =vB r)
theorem IE {a0:Ag} {r:Bool} (h:Lc a0=some r):lP a0 r:=by
 refine Af.bo Ae Tryz.func107 rfl Tryz.ntmps107 [.tmp 2] fun _ _ _ _=>?_
 unfold Lc at h
 refine Rg [.a,.a] (sl 87 [(1,vP [1] (0))] [bx [1] (As a0)]) (aN)<|hS ?_
 obtain⟨b1,o1,b2,p1,b3,q1,b4,t1,h⟩:=D2 h
 obtain⟨b5,x1,b6,y1,b7,z1,h⟩:=I8 h
 refine Gg [.a,.a,.a,.a,.a,.a,.a,(.v (vB b1)),.a,.a,.a,.a,(.v (vB b2)),.a,.a,.a,.a,(.v (vB b3)),.a,.a,.a,.a,(.v (vB b4)),.a,.a,.a,.a,(.v (vB b5)),.a,.a,.a,.a,(.v (vB b6)),.a,.a,.a,.a,(.v (vB b7))] (u [] [(40,vB b7)]) (aG ((decide (a0.Zone<0))==false)<|aG ((decide (a0.Zone<0))==false)<|aF (decide (a0.Zone<0))<|aB o1<|aG (b1==false)<|aG (b1==false)<|aF b1<|aB p1<|aG (b2==false)<|aG (b2==false)<|aF b2<|aB q1<|aG (b3==false)<|aG (b3==false)<|aF b3<|aB t1<|aG (b4==false)<|aG (b4==false)<|aF b4<|aB x1<|aG (b5==false)<|aG (b5==false)<|aF b5<|aB y1<|aG (b6==false)<|aG (b6==false)<|aF b6<|aB z1<|aN)<|iC h (fun h=>?_) (fun h=>?_)
 ·exact Rg [.a] (sl 87 [(2,vB false)] []) (aN)<|hR<|Tr<|bQ _ (kB h)
 refine hK<|Tn<|hS ?_
 obtain⟨r9,d2,i2,i1,n0,q0,h⟩:=I8 h
 refine Gg [.a,.a,.a,.a,(.c (vB r9)),.a,.a,.a,.a,.a,.a,(.c (vB i2)),.a,(.v (vB n0))] (u [40] [(54,vB n0)]) (aC (SS d2)<|aG ((!r9)==false)<|aG ((!r9)==false)<|aC (c2 i1 SS)<|aG ((!r9)==false)<|aF (!r9)<|aB q0<|aN)<|iC h (fun h=>?_) (fun h=>?_)
 ·exact Rg [.a] (sl 87 [(2,vB false)] []) (aN)<|hR<|Tr<|bQ _ (kB h)
 refine hK<|Tn<|hS ?_
 obtain⟨j2,j1,i0,t0,j0,x0,o0,y0,h⟩:=D2 h
 refine Gg [.a,.a,.a,.a,.a,.a,(.c (vB j2)),.a,(.v (vB i0)),.a,.a,.a,.a,(.v (vB j0)),.a,.a,.a,.a,(.v (vB o0))] (u [54] [(73,vB o0)]) (aG ((a0.Sub != ([]:List UInt8))==true)<|aC (c1 j1 S1)<|aG ((a0.Sub != ([]:List UInt8))==true)<|aT (a0.Sub != ([]:List UInt8))<|aB t0<|aG (i0==false)<|aG (i0==false)<|aF i0<|aB x0<|aG (j0==false)<|aG (j0==false)<|aF j0<|aB y0<|aN)<|iC h (fun h=>?_) (fun h=>?_)
 ·exact Rg [.a] (sl 87 [(2,vB false)] []) (aN)<|hR<|Tr<|bQ _ (kB h)
 refine hK<|Tn ?_
 obtain⟨m0,k1,k2,m1,k0,z0,m2,n1,h⟩:=D2 h
 obtain⟨p0,d1,h⟩:=bS h
 exact Rg [.a,.a,(.c (vB m0)),.a,.a,.a,(.c (vB k2)),(.v (vB k0)),.a,.a,.a,(.c (vB m2)),(.v (vB p0)),.a] (sl 87 [(2,vB p0)] []) (aC (Pr k1)<|aG (m0==true)<|aC (c1 m1 Pr)<|aT m0<|aB z0<|aG (k0==true)<|aC (c1 n1 Pr)<|aT k0<|aB d1<|aN)<|hR<|bQ _ (kB h)
def JD (mask_t3_1:Int):Option ((List UInt8)):=
 (EI mask_t3_1).bind fun r3=>
 some r3
def Me (a0:Int) (mask_t3_6:Int) (k_t4_7:Int):Option ((Int×Int)⊕(Int)):=
 (if(decide (k_t4_7<a0))=true then
  some (.inl ((Ab (mask_t3_6*(2:Int))),(Ab (k_t4_7+1))))
 else
  some (.inr mask_t3_6))
def KD (a0:Int):Option ((List UInt8)):=
 (iter (fun(v:Int×Int)=>Me a0 v.1 v.2) FU ((1:Int),(0:Int))).bind (fun o0=>JD o0)
def WR (a0:Int) (r:(List UInt8)):Prop:=Af Tryz.prog I0 218 [vI a0] (· =vS r)
theorem PN {a0:Int} {r:(List UInt8)} (h:KD a0=some r):WR a0 r:=by
 refine Af.bo Ae Tryz.func218 rfl Tryz.ntmps218 [.tmp 2] fun _ _ _ _=>?_
 unfold KD at h
 refine Gg [.a] (u [] []) (aN)<|Gg [.a] (u [] [(3,vI 1)]) (aN)<|Sj (X:=Int) (fun v=>(sl 14 [(3,vI v)] [])) (fun v=>JD v=some r) ?_ ?_
 ·refine Gg [.a] (u [] [(4,vI 0)]) (aN)<|hB ?_
  obtain⟨x0,o0,h⟩:=bS h
  refine Gi (fun(v:Int×Int)=>(u [] [(3,vI v.1),(4,vI v.2)])) o0 (wT) ?_
  rintro⟨i0,j0⟩ t0 k0 p0
  replace k0:Me a0 i0 j0=some t0:=k0
  unfold Me at k0
  refine hS<|Gg (nA 3) (u [] [(7,vB (decide (j0<a0)))]) (aN)<|iC k0 (fun k0=>?_) (fun k0=>?_)
  ·refine hK<|Tn<|hS<|hB<|Ge (nA 3) (u [] [(3,vI (Ab (i0*(2:Int)))),(10,vI i0),(11,vI (Ab (i0*(2:Int))))]) (aN)<|qN<|Tn<|Ge (nA 3) (u [] [(4,vI (Ab (j0+1))),(8,vI j0),(9,vI (Ab (j0+1)))]) (aN)<|Tn ⟨((Ab (i0*(2:Int))),(Ab (j0+1))),(sI k0).symm,wT⟩
  refine hE<|Te ?_
  obtain rfl:=p0 _ (sI k0).symm
  refine Te<|qX<|Tn ⟨i0,h,wT⟩
 rintro n0 m0
 replace m0:JD n0=some r:=m0
 unfold JD at m0
 obtain⟨r3,q0,m0⟩:=bS m0
 exact Rg [.a,(.c (vS r3)),.a] (sl 14 [(2,vS r3)] []) (aC (La q0)<|aN)<|hR<|bQ _ (congrArg vS (sI m0))
def IF (a0:A6 (Int)):Option ((List UInt8)):=
 (SW a0).bind fun r1=>
 (QA r1).bind fun r2=>
 some r2
def WS (a0:A6 (Int)) (r:(List UInt8)):Prop:=Af Tryz.prog I0 205 [vA (QY (eI .i64)) a0] (· =vS r)
theorem Va {a0:A6 (Int)} {r:(List UInt8)} (h:IF a0=some r):WS a0 r:=by
 refine Af.bo Ae Tryz.func205 rfl Tryz.ntmps205 [.tmp 2] fun _ _ _ _=>?_
 unfold IF at h
 refine Rg [.a,.a] (sl 6 [(1,vP [1] (0))] [bx [1] (QY (eI .i64) a0)]) (aN) ?_
 obtain⟨r1,i0,r2,j0,h⟩:=Ex h
 exact Rg [.a,(.c (vA Bu r1)),(.c (vS r2)),.a] (sl 6 [(2,vS r2)] []) (aC (cw i0)<|aC (cH j0)<|aN)<|hR<|bQ _ (congrArg vS (sI h))
end Go.PL
