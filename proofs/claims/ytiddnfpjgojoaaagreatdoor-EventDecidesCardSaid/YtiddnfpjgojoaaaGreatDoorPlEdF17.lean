/- Functions of the program, as partial functions in Lean, with proofs. -/
import Derived.Test.YtiddnfpjgojoaaaGreatDoorPlEdB
import Derived.Test.YtiddnfpjgojoaaaGreatDoorPlEdF16
import Derived.Test.YtiddnfpjgojoaaaGreatDoorPlEdF8
namespace Go.PL
open Go Go.RowKit Go.Proofs
set_option maxRecDepth 100000
set_option linter.all false
set_option maxHeartbeats 4000000
attribute [local irreducible] Aj BO Bz
def Nd (a0:List (AV)):Option (Bool):=
 (some (if(decide (1≤(a0.length:Int)))=true then decide ((a0.length:Int)≤8)else false)).bind fun b2=>
 some b2
def Nf (a0:List (AV)) (a1:Int) (i_t5_4:Int):Option ((Int)⊕(Unit⊕Bool)):=
 (if(decide (i_t5_4<(a0.length:Int)))=true then
  (idx a0 i_t5_4).bind fun e8=>
  (d9 e8 a1).bind fun r9=>
  (if(!r9)=true then
   some (.inr (.inr false))
  else
   some (.inl (Ac (i_t5_4+1))))
 else
  some (.inr (.inl ())))
def Jf (a0:List (AV)) (a1:Int):Option (Bool):=
 jn (fun(v:Unit)=>Nd a0) (fun jJ1=>
 (iter (fun(v:Int)=>Nf a0 a1 v) FU (0:Int)).bind (Sum.elim (fun o0=>jJ1 ()) (fun o1=>some o1)))
def Zn:CE TE Tryz.prog I0:=AK [sf] Ab Ad 9 84 Tryz.f84 (Tryz.f84.body.getD .skip) (.s .n (.j ⟨[0],[],[],[]⟩ (.s .n (.l ⟨[0,1],[(5, .c (.v (.k (.int .i64))))],[],[]⟩ [(1,⟨[0],[],[],[]⟩),(0,⟨[],[(4, .c (.v (.k (.bool))))],[],[]⟩)] .n)) .n)) [.k (.lst 119), .k (.int .i64)] [.k (.bool)] (fun x=>Jf x.1 x.2.1) Tryz.func84 rfl (by kernel_rfl)
def GH (a1:List (Int)) (l12_1:List (Int)) (l1000003_13_4:List (List (Bool))):Option (Int):=
 (M5 a1 l12_1 l1000003_13_4).bind fun r6=>
 some r6
def Fn (a_t10_9:Int) (l1000003_13_14:List (List (Bool))):Option ((Int×(List (List (Bool))))⊕((List (List (Bool))))):=
 some (.inl ((Ac (a_t10_9+1)),l1000003_13_14))
def Fo (a0:AD) (a1:List (Int)) (a2:Int) (a_t10_9:Int) (b_t11_18:Int) (l1000003_13_19:List (List (Bool))):Option ((Int×(List (List (Bool))))⊕((List (List (Bool))))):=
 (if(decide (b_t11_18<(a1.length:Int)))=true then
  (idx a1 a_t10_9).bind fun e23=>
  (idx l1000003_13_19 e23).bind fun e24=>
  (idx a1 b_t11_18).bind fun e25=>
  (idx a1 a_t10_9).bind fun e26=>
  (idx a1 b_t11_18).bind fun e27=>
  (Kq a0 e26 e27 a2).bind fun r28=>
  (idx e24 e25).bind fun e29=>
  (some (l1000003_13_19.set (e23).toNat (e24.set (e25).toNat r28))).bind fun l30=>
  some (.inl ((Ac (b_t11_18+1)),l30))
 else
  some (.inr l1000003_13_19))
def Fp (a0:AD) (a1:List (Int)) (a2:Int) (a_t10_9:Int) (l1000003_13_10:List (List (Bool))):Option ((Int×(List (List (Bool))))⊕((List (List (Bool))))):=
 (if(decide (a_t10_9<(a1.length:Int)))=true then
  (iter (fun(v:Int×(List (List (Bool))))=>Fo a0 a1 a2 a_t10_9 v.1 v.2) FU ((0:Int),l1000003_13_10)).bind (fun o0=>Fn a_t10_9 o0)
 else
  some (.inr l1000003_13_10))
def GI (a0:AD) (a1:List (Int)) (a2:Int) (l12_1:List (Int)) (l1000003_13_2:List (List (Bool))):Option (Int):=
 (iter (fun(v:Int×(List (List (Bool))))=>Fp a0 a1 a2 v.1 v.2) FU ((0:Int),l1000003_13_2)).bind (fun o0=>GH a1 l12_1 o0)
def Fq (a0:AD) (i_t9_34:Int) (l12_35:List (Int)) (l1000003_13_36:List (List (Bool))):Option ((Int×(List (Int))×(List (List (Bool))))⊕(((List (Int))×(List (List (Bool)))))):=
 (if(decide (i_t9_34<(a0.L.length:Int)))=true then
  (idx a0.L i_t9_34).bind fun e41=>
  (app 8 l12_35 ([e41.Stamp]:List (Int))).bind fun l42=>
  (need (0≤(a0.L.length:Int)∧(a0.L.length:Int)≤(a0.L.length:Int)∧(a0.L.length:Int)*1≤140737488355328∧(a0.L.length:Int)≤maxLen)).bind fun u44=>
  (some (List.replicate ((a0.L.length:Int)).toNat false)).bind fun l43=>
  (app 24 l1000003_13_36 ([l43]:List (List (Bool)))).bind fun l45=>
  some (.inl ((Ac (i_t9_34+1)),l42,l45))
 else
  some (.inr (l12_35,l1000003_13_36)))
def Kr (a0:AD) (a1:List (Int)) (a2:Int):Option (Int):=
 (iter (fun(v:Int×(List (Int))×(List (List (Bool))))=>Fq a0 v.1 v.2.1 v.2.2) FU ((0:Int),([]:List (Int)),([]:List (List (Bool))))).bind (fun o0=>GI a0 a1 a2 o0.1 o0.2)
def me (a0:AD) (a1:List (Int)) (a2:Int) (r:Int):Prop:=AQ Tryz.prog I0 40 [vA Av a0,vL (eI .i64) a1,vI a2] (· =vI r)
theorem iQ {a0:AD} {a1:List (Int)} {a2:Int} {r:Int} (h:Kr a0 a1 a2=some r):me a0 a1 a2 r:=by
 refine AQ.bo Ab Tryz.func40 rfl Tryz.ntmps40 [.tmp 6] fun _ _ _ _=>?_
 unfold Kr at h
 refine Gg [.a,.a] (uo [0] [(3,vP [3] (0))] [.e (bx [3] (Av a0))]) (aN)<|Gg [.a,.a] (uo [] [(7,vO [12])] [.e (BA [12] 3 1 (eI .i64) ([]:List (Int))),.k 0]) (aN)<|Gg [(.D (.nw none)),.a] (uo [] [(8,vO [1000003,13])] [.e (BA [1000003,13] 52 1 (L4 4 1 (eB)) ([]:List (List (Bool)))),.k 0,.k 1]) (aC (show (([]:List C).all xp=true)from rfl)<|aN)<|Gj (X:=(List (Int))×(List (List (Bool)))) (fun v=>(uo [] [] [.e (BA [1000003,13] 52 1 (L4 4 1 (eB)) v.2),.e (BA [12] 3 1 (eI .i64) v.1),.k 2])) (fun v=>GI a0 a1 a2 v.1 v.2=some r) ?_ ?_
 ·refine Gg [.a] (u [] [(9,vI 0)]) (aN)<|hB ?_
  obtain⟨j4,k3,h⟩:=bS h
  refine Gi (fun(v:Int×(List (Int))×(List (List (Bool))))=>(uo [] [(9,vI v.1)] [.e (BA [1000003,13] 52 1 (L4 4 1 (eB)) v.2.2),.e (BA [12] 3 1 (eI .i64) v.2.1),.k 2])) k3 (wT) ?_
  rintro⟨q0,y1,n0⟩ y3 p0 o3
  replace p0:Fq a0 q0 y1 n0=some y3:=p0
  unfold Fq at p0
  refine hS<|Gg (nA 5) (u [] [(18,vB (decide (q0<(a0.L.length:Int))))]) (aN)<|iC p0 (fun p0=>?_) (fun p0=>?_)
  ·refine hK<|Tn<|hS<|hB ?_
   obtain⟨n2,y2,t1,d3,p0⟩:=YG p0
   refine Gg [.a,.a,.a,.a,.a,.a,(.v (vI n2.Stamp)),.a,(.e t1.length (t1.flatMap (eI .i64))),.a] (uo [18] [] [.e (BA [12] 3 1 (eI .i64) t1),.k 0,.k 2]) (aC (BS y2)<|aC (Pg y2 NW 3 1 false (vI n2.Stamp))<|aC (Eq.refl (vI n2.Stamp))<|aC (Z7 d3 (eI .i64))<|aC (DL d3)<|aN) ?_
   obtain⟨m4,t3,m2,p3,n1,d2,p0⟩:=wd p0
   refine Re [.a,.a,.a,.a,(.e m2.length (m2.flatMap eB)),(.D .bs),(.D (.aa n1.length (n1.flatMap (L4 4 1 (eB))))),.a] (sl 76 [(1,vL (eI .i64) a1),(2,vI a2),(3,vP [3] (0)),(7,vO [12]),(8,vO [1000003,13]),(9,vI q0),(31,vP [3] (20)),(32,vL AA a0.L),(33,vI (a0.L.length:Int)),(35,vO [35]),(36,vO [1000003,13])] [⟨[35],some (52,1,1),[.any],false⟩,BA [12] 3 1 (eI .i64) t1,BA [1000003,13] 52 1 (L4 4 1 (eB)) n1,bx [3] (Av a0)]) (aC (yA p3 eB)<|aC (Mk t3)<|aC (show n0.flatMap (L4 4 1 (eB))++[.isl 4 1 m2.length (m2.flatMap (eB))]=n1.flatMap (L4 4 1 (eB))from(tI d2 4 1 (eB)))<|aC (DL d2)<|aC (show n0.length+1=n1.length from(wg d2))<|aN)<|qN<|Tn<|Re (nA 3) (sl 76 [(1,vL (eI .i64) a1),(2,vI a2),(3,vP [3] (0)),(7,vO [12]),(8,vO [1000003,13]),(9,vI (Ac (q0+1))),(19,vI q0),(20,vI (Ac (q0+1))),(31,vP [3] (20)),(32,vL AA a0.L),(33,vI (a0.L.length:Int)),(35,vO [35]),(36,vO [1000003,13])] [⟨[35],some (52,1,1),[.any],false⟩,BA [12] 3 1 (eI .i64) t1,BA [1000003,13] 52 1 (L4 4 1 (eB)) n1,bx [3] (Av a0)]) (aN)<|Tn ⟨((Ac (q0+1)),t1,n1),(sI p0).symm,wU⟩
  refine hE<|Te ?_
  obtain rfl:=o3 _ (sI p0).symm
  refine Te<|qX<|Tn ⟨(y1,n0),h,wT⟩
 rintro⟨d1,k1⟩ o1
 replace o1:GI a0 a1 a2 d1 k1=some r:=o1
 unfold GI at o1
 refine Gj (X:=(List (List (Bool)))) (fun v=>(uo [2,3] [] [.e (BA [1000003,13] 52 1 (L4 4 1 (eB)) v),.k 1])) (fun v=>GH a1 d1 v=some r) ?_ ?_
 ·refine Gg [.a] (u [] [(10,vI 0)]) (aN)<|hB ?_
  obtain⟨d4,i3,o1⟩:=bS o1
  refine Gi (fun(v:Int×(List (List (Bool))))=>(uo [] [(10,vI v.1)] [.e (BA [1000003,13] 52 1 (L4 4 1 (eB)) v.2),.k 1,.k 2])) i3 (wT) ?_
  rintro⟨j0,t0⟩ i2 x0 m3
  replace x0:Fp a0 a1 a2 j0 t0=some i2:=x0
  unfold Fp at x0
  refine hS<|Gg (nA 4) (u [] [(40,vB (decide (j0<(a1.length:Int))))]) (aN)<|iC x0 (fun x0=>?_) (fun x0=>?_)
  ·refine hK<|Tn<|Sj (X:=(List (List (Bool)))) (fun v=>(sl 76 [(1,vL (eI .i64) a1),(2,vI a2),(3,vP [3] (0)),(7,vO [12]),(8,vO [1000003,13]),(10,vI j0)] [BA [1000003,13] 52 1 (L4 4 1 (eB)) v,BA [12] 3 1 (eI .i64) d1,bx [3] (Av a0)])) (fun v=>Fn j0 v=some i2) ?_ ?_
   ·refine hB<|Rg [.a] (sl 76 [(1,vL (eI .i64) a1),(2,vI a2),(3,vP [3] (0)),(7,vO [12]),(8,vO [1000003,13]),(10,vI j0),(11,vI 0)] [BA [1000003,13] 52 1 (L4 4 1 (eB)) t0,BA [12] 3 1 (eI .i64) d1,bx [3] (Av a0)]) (aN)<|hB ?_
    obtain⟨i4,j3,x0⟩:=bS x0
    refine Gi (fun(v:Int×(List (List (Bool))))=>(uo [] [(11,vI v.1)] [.e (BA [1000003,13] 52 1 (L4 4 1 (eB)) v.2),.k 1,.k 2])) j3 (wT) ?_
    rintro⟨k0,i0⟩ x3 o0 n3
    replace o0:Fo a0 a1 a2 j0 k0 i0=some x3:=o0
    unfold Fo at o0
    refine hS<|Gg (nA 4) (u [] [(46,vB (decide (k0<(a1.length:Int))))]) (aN)<|iC o0 (fun o0=>?_) (fun o0=>?_)
    ·refine hK<|Tn<|hS<|hB ?_
     obtain⟨i1,o2,y0,m1,j1,p2,j2,q2,o0⟩:=pT o0
     obtain⟨k2,t2,z1,q3,k4,x2,q1,z2,o0⟩:=pT o0
     refine Aj.regS Ad [[],[],[],[1,2],[1,2,3],[0,1,2,3,4],[0,1,2,3,4,5],[],[],[7,8],[7,8,9],[],[],[],[12,13],[12,13,14],[],[],[16,17],[16,17,18],[],[11,12,13,14,15,16,17,18,19,20],[0,1,2,3,4,5,6,7,8,9,10,11,12,13,14,15,16,17,18,19,20,21],[0,1,2,3,4,5,6,7,8,9,10,11,12,13,14,15,16,17,18,19,20,21,22]] [23] [[false],[true]] [.a,.a,.a,.a,(.v (vI i1)),.a,(.D (.ld 4 1 y0.length (y0.flatMap (eB)))),.a,.a,.a,(.v (vI j1)),.a,.a,.a,.a,(.v (vI j2)),.a,.a,.a,(.v (vI k2)),.a,(.c (vB z1)),(.D (.ix 4 1 y0.length (y0.flatMap (eB)))),(.D (.st 4 1 y0.length q1.length (y0.flatMap (eB)) (q1.flatMap (L4 4 1 (eB)))))] [[1000003,13],[12],[3]] ⟨nk 76 0 [(1,[],vL (eI .i64) a1),(2,[],vI a2),(3,[],vP [3] (0)),(7,[],vO [12]),(8,[],vO [1000003,13]),(10,[],vI j0),(11,[],vI k0),(46,[],vB (decide (k0<(a1.length:Int)))),(49,[(0,vO [1000003,13])],.undef),(50,[(1,vL (eI .i64) a1)],.undef),(51,[(2,vI j0)],.undef),(52,[(3,vX (eI .i64) a1 ((j0).toNat *1))],.undef),(53,[(4,vI i1)],.undef),(54,[(5,vP [1000003,13] ((i1).toNat *1))],.undef),(55,[(6,.c (.osl (1000007::((i1).toNat *1)::[1000003,13])))],.undef),(56,[(7,vL (eI .i64) a1)],.undef),(57,[(8,vI k0)],.undef),(58,[(9,vX (eI .i64) a1 ((k0).toNat *1))],.undef),(59,[(10,vI j1)],.undef),(60,[(11,vA Av a0)],.undef),(61,[(12,vL (eI .i64) a1)],.undef),(62,[(13,vI j0)],.undef),(63,[(14,vX (eI .i64) a1 ((j0).toNat *1))],.undef),(64,[(15,vI j2)],.undef),(65,[(16,vL (eI .i64) a1)],.undef),(66,[(17,vI k0)],.undef),(67,[(18,vX (eI .i64) a1 ((k0).toNat *1))],.undef),(68,[(19,vI k2)],.undef),(69,[(20,vI a2)],.undef),(70,[(21,vB z1)],.undef),(71,[(22,.c (.ptr (1000007::((i1).toNat *1)::[1000003,13]) ((j1).toNat *1)))],.undef)],[([(23,BA [1000003,13] 52 1 (L4 4 1 (eB)) q1)],some (BA [1000003,13] 52 1 (L4 4 1 (eB)) i0)),([],some (BA [12] 3 1 (eI .i64) d1)),([],some (bx [3] (Av a0)))],[],[]⟩ _ (bC (aN)<|bC (aN)<|bC (aN)<|bC (aC (BS o2)<|aN)<|bC (aC (Pg o2 (U9 .i64) 0 1 false (vI i1))<|aC (Eq.refl (vI i1))<|aN)<|bC (aC (BS m1)<|aN)<|bC (aC (show (i0.flatMap (L4 4 1 (eB)))[((i1).toNat *1)]? =some (.isl 4 1 y0.length (y0.flatMap (eB)))from(cy m1 4 1 (eB)))<|aN)<|bC (aN)<|bC (aN)<|bC (aC (BS p2)<|aN)<|bC (aC (Pg p2 (U9 .i64) 0 1 false (vI j1))<|aC (Eq.refl (vI j1))<|aN)<|bC (aN)<|bC (aN)<|bC (aN)<|bC (aC (BS q2)<|aN)<|bC (aC (Pg q2 (U9 .i64) 0 1 false (vI j2))<|aC (Eq.refl (vI j2))<|aN)<|bC (aN)<|bC (aN)<|bC (aC (BS t2)<|aN)<|bC (aC (Pg t2 (U9 .i64) 0 1 false (vI k2))<|aC (Eq.refl (vI k2))<|aN)<|bC (aN)<|bC (aC (ec q3)<|aN)<|bC (aC (show (i0.flatMap (L4 4 1 (eB)))[((i1).toNat *1)]? =some (.isl 4 1 y0.length (y0.flatMap (eB)))from(cy m1 4 1 (eB)))<|aC (BS x2)<|aN)<|bC (aC (show (i0.flatMap (L4 4 1 (eB)))[((i1).toNat *1)]? =some (.isl 4 1 y0.length (y0.flatMap (eB)))from(cy m1 4 1 (eB)))<|aC (show (j1).toNat *1+1≤(y0.flatMap (eB)).length ∧(i0.flatMap (L4 4 1 (eB))).set ((i1).toNat *1) (.isl 4 1 y0.length ((y0.flatMap (eB)).take ((j1).toNat *1)++([.bool z1]:List C)++(y0.flatMap (eB)).drop ((j1).toNat *1+([.bool z1]:List C).length)))=(q1.flatMap (L4 4 1 (eB)))from(we m1 x2 z2 lenB' 4 1 ([.bool z1]:List C)))<|aC (show ((some (52,1,q1.length):Option (TypeId×Nat×Nat))=some (52,1,i0.length))from(by rw [←sI z2,List.length_set]))<|aN)<|bN)<|qN<|Tn<|Ge (nA 3) (u [] [(11,vI (Ac (k0+1))),(47,vI k0),(48,vI (Ac (k0+1)))]) (aN)<|Tn ⟨((Ac (k0+1)),q1),(sI o0).symm,wT⟩
    refine hE<|Te ?_
    obtain rfl:=n3 _ (sI o0).symm
    refine Te<|qX<|qN<|Tn ⟨i0,x0,wT⟩
   rintro z0 x1
   replace x1:Fn j0 z0=some i2:=x1
   unfold Fn at x1
   refine Ge (nA 3) (u [] [(10,vI (Ac (j0+1))),(41,vI j0),(42,vI (Ac (j0+1)))]) (aN)<|Tn ⟨((Ac (j0+1)),z0),(sI x1).symm,wT⟩
  refine hE<|Te ?_
  obtain rfl:=m3 _ (sI x0).symm
  refine Te<|qX<|Tn ⟨t0,o1,wT⟩
 rintro m0 p1
 replace p1:GH a1 d1 m0=some r:=p1
 unfold GH at p1
 refine Fd [1000003,13] 52 1 m0.length (m0.flatMap (L4 4 1 (eB))) (m0.flatMap (eL (eB))) (sl 76 [(1,vL (eI .i64) a1),(7,vO [12]),(8,vL (eL (eB)) m0)] [BA [12] 3 1 (eI .i64) d1]) (tJ m0 4 1 (eB)) ?_
 obtain⟨r6,z3,p1⟩:=bS p1
 exact Rg [.a,.a,.a,(.c (vI r6)),.a] (sl 76 [(6,vI r6)] []) (aC (iH z3)<|aN)<|hR<|bQ _ (congrArg vI (sI p1))def E_r30_next:CE TE Tryz.prog I0:=⟨40,[.s 55, .k (.lst 3), .k (.int .i64)],[.k (.int .i64)],fun x=>Kr x.1 x.2.1 x.2.2.1,fun x r h=>Cz (by kernel_rfl) (iQ (r:=r) h)⟩
end Go.PL
