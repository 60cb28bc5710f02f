/- Functions of the program, as partial functions in Lean, with proofs. -/
import Derived.Test.YtiddnfpjgojoaaaGreatDoorPlEdB
import Derived.Test.YtiddnfpjgojoaaaGreatDoorPlEdF11
import Derived.Test.YtiddnfpjgojoaaaGreatDoorPlEdF2
import Derived.Test.YtiddnfpjgojoaaaGreatDoorPlEdF8
namespace Go.PL
open Go Go.RowKit Go.Proofs
set_option maxRecDepth 100000
set_option linter.all false
set_option maxHeartbeats 4000000
attribute [local irreducible] Aj BO Bz
def Fl (a1:Ao) (r1:(List (AU))) (l1019_5_2:List (Ah)):Option (AD):=
 (need (0≤(r1.length:Int)∧(r1.length:Int)≤(r1.length:Int)∧(r1.length:Int)*1≤140737488355328∧(r1.length:Int)≤maxLen)).bind fun u5=>
 (some (List.replicate ((r1.length:Int)).toNat false)).bind fun l4=>
 (need (0≤(r1.length:Int)∧(r1.length:Int)≤(r1.length:Int)∧(r1.length:Int)*24≤140737488355328∧(r1.length:Int)≤maxLen)).bind fun u7=>
 (some (List.replicate ((r1.length:Int)).toNat ([]:List (Int)))).bind fun l6=>
 (need (0≤(a1.Objects.length:Int)∧(a1.Objects.length:Int)≤(a1.Objects.length:Int)∧(a1.Objects.length:Int)*1≤140737488355328∧(a1.Objects.length:Int)≤maxLen)).bind fun u9=>
 (some (List.replicate ((a1.Objects.length:Int)).toNat false)).bind fun l8=>
 some (⟨a1,l1019_5_2,r1,l4,l6,l8⟩:AD)
def Ey (a0:List (A1)) (a1:Ao) (i_t6_12:Int) (l1019_5_13:List (Ah)):Option ((Int×(List (Ah)))⊕((List (Ah)))):=
 (if(decide (i_t6_12<(a1.Objects.length:Int)))=true then
  (idx a1.Objects i_t6_12).bind fun e17=>
  (SR a0 e17).bind fun r18=>
  (app 176 l1019_5_13 ([r18]:List (Ah))).bind fun l19=>
  some (.inl ((Ac (i_t6_12+1)),l19))
 else
  some (.inr l1019_5_13))
def Hx (a0:List (A1)) (a1:Ao):Option (AD):=
 (Ir a0 a1).bind fun r1=>
 (iter (fun(v:Int×(List (Ah)))=>Ey a0 a1 v.1 v.2) FU ((0:Int),([]:List (Ah)))).bind (fun o0=>Fl a1 r1 o0)
def iN (a0:List (A1)) (a1:Ao) (r:AD):Prop:=AQ Tryz.prog I0 15 [vL B8 a0,vA A4 a1] (· =vA Av r)
theorem d7 {a0:List (A1)} {a1:Ao} {r:AD} (h:Hx a0 a1=some r):iN a0 a1 r:=by
 refine AQ.bo Ab Tryz.func15 rfl Tryz.ntmps15 [.cell 4 55] fun _ _ _ _=>?_
 unfold Hx at h
 refine Gg [.a,.a] (uo [1] [(3,vP [3] (0)),(4,vP [4] (0))] [.e (bx [4] [.nils,.nils,.nils,.nils,.nils,.nils,.nils,Aa 0,Aa 0,Aa 0,.bool false,Aa 0,Aa 0,Aa 0,Aa 0,.int .u64 0,.nils,Aa 0,Aa 0,.nils,.nils,.nils,.nils,.nils]),.e (bx [3] (A4 a1))]) (aN)<|hS ?_
 obtain⟨r1,n1,h⟩:=bS h
 refine Aj.regN [0,1,2,4,32,33,34,36,37,38,39,46,47,63,127,35,5,6,7,14,15,31,3] 127 [.a,.a,.a,(.c (vL AA r1)),.a,.a,.a] [[5],[4],[3]] (fun n=>⟨[vL B8 a0,.undef,.undef,vP [3] (0),vP [4] (0),cond (Nat.testBit n 5) (vP [5] (0)) (.undef),.undef,cond (Nat.testBit n 0) (vA A4 a1) (.undef),cond (Nat.testBit n 1) (vL B8 a0) (.undef),cond (Nat.testBit n 2) (vA A4 a1) (.undef),cond (Nat.testBit n 3) (vL AA r1) (.undef),cond (Nat.testBit n 4) (.agg [.sl ((a1).Players).length (((a1).Players).flatMap (Ay)),.sl ((a1).Objects).length (((a1).Objects).flatMap (Ai)),.sl ((a1).Battlefield).length (((a1).Battlefield).flatMap (eI .i64)),.sl ((a1).Exile).length (((a1).Exile).flatMap (eI .i64)),.sl ((a1).Stack).length (((a1).Stack).flatMap (Bn)),.sl ((a1).Waiting).length (((a1).Waiting).flatMap (AS)),.sl ((a1).Conts).length (((a1).Conts).flatMap (Bo)),Aa ((a1).Turn),Aa ((a1).Active),Aa ((a1).Step),.bool ((a1).Begun),Aa ((a1).Priority),Aa ((a1).Passes),Aa ((a1).NextId),Aa ((a1).NextStamp),.int .u64 ((a1).Seed),.sl ((a1).Extra).length (((a1).Extra).flatMap (eI .i64)),Aa ((a1).Over),Aa ((a1).Winner),.nils,.sl r1.length (r1.flatMap (AA)),.nils,.nils,.nils]) (.undef),.undef,.undef,.undef,.undef,.undef,.undef,.undef,.undef,.undef,.undef,.undef,.undef,.undef,.undef,.undef,.undef,.undef,.undef,.undef,.undef,.undef,.undef,.undef,.undef,.undef,.undef,.undef,.undef,.undef,.undef,.undef,.undef,.undef,.undef,.undef],List.filterMap id [cond (Nat.testBit n 6) (some (bx [5] [.sl ((a1).Players).length (((a1).Players).flatMap (Ay)),.sl ((a1).Objects).length (((a1).Objects).flatMap (Ai)),.sl ((a1).Battlefield).length (((a1).Battlefield).flatMap (eI .i64)),.sl ((a1).Exile).length (((a1).Exile).flatMap (eI .i64)),.sl ((a1).Stack).length (((a1).Stack).flatMap (Bn)),.sl ((a1).Waiting).length (((a1).Waiting).flatMap (AS)),.sl ((a1).Conts).length (((a1).Conts).flatMap (Bo)),Aa ((a1).Turn),Aa ((a1).Active),Aa ((a1).Step),.bool ((a1).Begun),Aa ((a1).Priority),Aa ((a1).Passes),Aa ((a1).NextId),Aa ((a1).NextStamp),.int .u64 ((a1).Seed),.sl ((a1).Extra).length (((a1).Extra).flatMap (eI .i64)),Aa ((a1).Over),Aa ((a1).Winner),.nils,.sl r1.length (r1.flatMap (AA)),.nils,.nils,.nils])) (cond (Nat.testBit n 5) (some (bx [5] [.nils,.nils,.nils,.nils,.nils,.nils,.nils,Aa 0,Aa 0,Aa 0,.bool false,Aa 0,Aa 0,Aa 0,Aa 0,.int .u64 0,.nils,Aa 0,Aa 0,.nils,.nils,.nils,.nils,.nils])) ((none:Option AM))),some (bx [4] [.nils,.nils,.nils,.nils,.nils,.nils,.nils,Aa 0,Aa 0,Aa 0,.bool false,Aa 0,Aa 0,Aa 0,Aa 0,.int .u64 0,.nils,Aa 0,Aa 0,.nils,.nils,.nils,.nils,.nils]),some (bx [3] (A4 a1))],[],[]⟩) [[],[],[],[Rv a0 a1 r1],[(True∧(True∧True))∧Ov Tryz.prog 55=true],[],[]] Ad (by kernel_rfl) (by kernel_rfl) (by decide) (Cb.t (by kernel_rfl)) (by kernel_rfl) ⟨trivial,trivial,trivial,⟨(Zg n1),trivial⟩,⟨⟨⟨trivial,⟨trivial,trivial⟩⟩,by kernel_rfl⟩,trivial⟩,trivial,trivial,trivial⟩<|Tn<|Gs (u [7,8,9,10,11] [])<|Ow [5] 19 [1019,5] 70 17 (sl 47 [(0,vL B8 a0),(3,vP [3] (0)),(4,vP [4] (0)),(5,vP [5] (0))] [BA [1019,5] 70 17 Ag ([]:List (Ah)),bx [5] [.sl ((a1).Players).length (((a1).Players).flatMap (Ay)),.sl ((a1).Objects).length (((a1).Objects).flatMap (Ai)),.sl ((a1).Battlefield).length (((a1).Battlefield).flatMap (eI .i64)),.sl ((a1).Exile).length (((a1).Exile).flatMap (eI .i64)),.sl ((a1).Stack).length (((a1).Stack).flatMap (Bn)),.sl ((a1).Waiting).length (((a1).Waiting).flatMap (AS)),.sl ((a1).Conts).length (((a1).Conts).flatMap (Bo)),Aa ((a1).Turn),Aa ((a1).Active),Aa ((a1).Step),.bool ((a1).Begun),Aa ((a1).Priority),Aa ((a1).Passes),Aa ((a1).NextId),Aa ((a1).NextStamp),.int .u64 ((a1).Seed),.sl ((a1).Extra).length (((a1).Extra).flatMap (eI .i64)),Aa ((a1).Over),Aa ((a1).Winner),.osl [1019,5],.sl r1.length (r1.flatMap (AA)),.nils,.nils,.nils],bx [4] [.nils,.nils,.nils,.nils,.nils,.nils,.nils,Aa 0,Aa 0,Aa 0,.bool false,Aa 0,Aa 0,Aa 0,Aa 0,.int .u64 0,.nils,Aa 0,Aa 0,.nils,.nils,.nils,.nils,.nils],bx [3] (A4 a1)])<|Gj (X:=(List (Ah))) (fun v=>(uo [0] [] [.e (BA [1019,5] 70 17 Ag v),.k 1,.k 2,.k 3])) (fun v=>Fl a1 r1 v=some r) ?_ ?_
 ·refine Gg [.a] (u [] [(6,vI 0)]) (aN)<|hB ?_
  obtain⟨t1,y0,h⟩:=bS h
  refine Gi (fun(v:Int×(List (Ah)))=>(uo [] [(6,vI v.1)] [.e (BA [1019,5] 70 17 Ag v.2),.k 1,.k 2,.k 3])) y0 (wT) ?_
  rintro⟨i0,k0⟩ i1 j0 z0
  replace j0:Ey a0 a1 i0 k0=some i1:=j0
  unfold Ey at j0
  refine hS<|Gg (nA 5) (u [] [(16,vB (decide (i0<(a1.Objects.length:Int))))]) (aN)<|iC j0 (fun j0=>?_) (fun j0=>?_)
  ·refine hK<|Tn<|hS<|hB ?_
   obtain⟨o0,q0,x0,d1,p0,t0,j0⟩:=wd j0
   refine Aj.regS Ad [[],[0],[],[],[3],[],[3,4,5],[3,4,5,6],[2,3,4,5,6,7],[2,3,4,5,6,7,8],[0,1,2,3,4,5,6,7,8,9],[0,1,2,3,4,5,6,7,8,9,10],[0,1,2,3,4,5,6,7,8,9,10,11]] [9,10,12] [[false,false,false],[true,false,false],[true,true,false],[true,true,true]] [.a,.a,.a,.a,.a,.a,.a,(.v (vA Ai o0)),(.c (vA Ag x0)),.a,(.e p0.length (p0.flatMap (Ag))),.a,.a] [[28],[1019,5],[5],[4],[3]] ⟨nk 47 0 [(0,[],vL B8 a0),(3,[],vP [3] (0)),(4,[],vP [4] (0)),(5,[],vP [5] (0)),(6,[],vI i0),(16,[],vB (decide (i0<(a1.Objects.length:Int)))),(19,[(0,vP [5] (19))],.undef),(20,[(1,vO [1019,5]),(10,.undef)],.undef),(21,[(2,vL B8 a0)],.undef),(22,[(3,vP [3] (1))],.undef),(23,[(4,vL Ai a1.Objects)],.undef),(24,[(5,vI i0)],.undef),(25,[(6,vX Ai a1.Objects ((i0).toNat *19))],.undef),(26,[(7,vA Ai o0)],.undef),(27,[(8,vA Ag x0)],.undef),(28,[(9,vO [28])],.undef),(29,[(10,vO [1019,5])],.undef),(30,[(11,vP [5] (19))],.undef)],[([(9,BA [28] 70 17 Ag ([x0]:List (Ah)))],none),([(10,BA [1019,5] 70 17 Ag p0)],some (BA [1019,5] 70 17 Ag k0)),([(10,bx [5] [.sl ((a1).Players).length (((a1).Players).flatMap (Ay)),.sl ((a1).Objects).length (((a1).Objects).flatMap (Ai)),.sl ((a1).Battlefield).length (((a1).Battlefield).flatMap (eI .i64)),.sl ((a1).Exile).length (((a1).Exile).flatMap (eI .i64)),.sl ((a1).Stack).length (((a1).Stack).flatMap (Bn)),.sl ((a1).Waiting).length (((a1).Waiting).flatMap (AS)),.sl ((a1).Conts).length (((a1).Conts).flatMap (Bo)),Aa ((a1).Turn),Aa ((a1).Active),Aa ((a1).Step),.bool ((a1).Begun),Aa ((a1).Priority),Aa ((a1).Passes),Aa ((a1).NextId),Aa ((a1).NextStamp),.int .u64 ((a1).Seed),.sl ((a1).Extra).length (((a1).Extra).flatMap (eI .i64)),Aa ((a1).Over),Aa ((a1).Winner),.any,.sl r1.length (r1.flatMap (AA)),.nils,.nils,.nils]),(12,bx [5] [.sl ((a1).Players).length (((a1).Players).flatMap (Ay)),.sl ((a1).Objects).length (((a1).Objects).flatMap (Ai)),.sl ((a1).Battlefield).length (((a1).Battlefield).flatMap (eI .i64)),.sl ((a1).Exile).length (((a1).Exile).flatMap (eI .i64)),.sl ((a1).Stack).length (((a1).Stack).flatMap (Bn)),.sl ((a1).Waiting).length (((a1).Waiting).flatMap (AS)),.sl ((a1).Conts).length (((a1).Conts).flatMap (Bo)),Aa ((a1).Turn),Aa ((a1).Active),Aa ((a1).Step),.bool ((a1).Begun),Aa ((a1).Priority),Aa ((a1).Passes),Aa ((a1).NextId),Aa ((a1).NextStamp),.int .u64 ((a1).Seed),.sl ((a1).Extra).length (((a1).Extra).flatMap (eI .i64)),Aa ((a1).Over),Aa ((a1).Winner),.osl [1019,5],.sl r1.length (r1.flatMap (AA)),.nils,.nils,.nils])],some (bx [5] [.sl ((a1).Players).length (((a1).Players).flatMap (Ay)),.sl ((a1).Objects).length (((a1).Objects).flatMap (Ai)),.sl ((a1).Battlefield).length (((a1).Battlefield).flatMap (eI .i64)),.sl ((a1).Exile).length (((a1).Exile).flatMap (eI .i64)),.sl ((a1).Stack).length (((a1).Stack).flatMap (Bn)),.sl ((a1).Waiting).length (((a1).Waiting).flatMap (AS)),.sl ((a1).Conts).length (((a1).Conts).flatMap (Bo)),Aa ((a1).Turn),Aa ((a1).Active),Aa ((a1).Step),.bool ((a1).Begun),Aa ((a1).Priority),Aa ((a1).Passes),Aa ((a1).NextId),Aa ((a1).NextStamp),.int .u64 ((a1).Seed),.sl ((a1).Extra).length (((a1).Extra).flatMap (eI .i64)),Aa ((a1).Over),Aa ((a1).Winner),.osl [1019,5],.sl r1.length (r1.flatMap (AA)),.nils,.nils,.nils])),([],some (bx [4] [.nils,.nils,.nils,.nils,.nils,.nils,.nils,Aa 0,Aa 0,Aa 0,.bool false,Aa 0,Aa 0,Aa 0,Aa 0,.int .u64 0,.nils,Aa 0,Aa 0,.nils,.nils,.nils,.nils,.nils])),([],some (bx [3] (A4 a1)))],[],[]⟩ _ (bC (aN)<|bC (aN)<|bC (aN)<|bC (aN)<|bC (aN)<|bC (aN)<|bC (aC (BS q0)<|aN)<|bC (aC (Pg q0 H5 0 19 true (vA Ai o0))<|aC (Eq.refl (vA Ai o0))<|aN)<|bC (aC (pJ d1)<|aN)<|bC (aN)<|bC (aC (Z7 t0 Ag)<|aC (DL t0)<|aN)<|bC (aN)<|bC (aN)<|bN)<|qN<|Tn<|Ge (nA 3) (u [] [(6,vI (Ac (i0+1))),(17,vI i0),(18,vI (Ac (i0+1)))]) (aN)<|Tn ⟨((Ac (i0+1)),p0),(sI j0).symm,wT⟩
  refine hE<|Te ?_
  obtain rfl:=z0 _ (sI j0).symm
  refine Te<|qX<|Tn ⟨k0,h,wT⟩
 rintro n0 m0
 replace m0:Fl a1 r1 n0=some r:=m0
 unfold Fl at m0
 obtain⟨u5,o1,l4,j1,m0⟩:=YG m0
 refine Gg [.a,.a,.a,(.e l4.length (l4.flatMap eB)),.a,.a] (uo [] [] [.e (BA [34] 4 1 eB l4),.k 0,.s 1 [(21,.osl [34])],.k 2,.k 3]) (aC (yA j1 eB)<|aC (Mk o1)<|aN) ?_
 obtain⟨u7,p1,l6,k1,m0⟩:=YG m0
 refine Gg [.a,.a,.a,(.e l6.length (l6.flatMap (eL (eI .i64)))),.a,.a] (uo [] [] [.e (BA [39] 25 1 (eL (eI .i64)) l6),.k 0,.k 1,.s 2 [(22,.osl [39])],.k 3,.k 4]) (aC (yA k1 (eL (eI .i64)))<|aC (Mk p1)<|aN) ?_
 obtain⟨u9,q1,l8,m1,m0⟩:=YG m0
 exact Gg [.a,.a,.a,(.e l8.length (l8.flatMap eB)),.a,.a] (uo [3] [] [.e (BA [44] 4 1 eB l8),.k 0,.k 1,.k 2,.s 3 [(23,.osl [44])],.k 4]) (aC (yA m1 eB)<|aC (Mk q1)<|aN)<|Gg [.a,.a] (uo [5] [] [.k 0,.k 1,.k 2,.k 3,.e (bx [4] [.sl ((a1).Players).length (((a1).Players).flatMap (Ay)),.sl ((a1).Objects).length (((a1).Objects).flatMap (Ai)),.sl ((a1).Battlefield).length (((a1).Battlefield).flatMap (eI .i64)),.sl ((a1).Exile).length (((a1).Exile).flatMap (eI .i64)),.sl ((a1).Stack).length (((a1).Stack).flatMap (Bn)),.sl ((a1).Waiting).length (((a1).Waiting).flatMap (AS)),.sl ((a1).Conts).length (((a1).Conts).flatMap (Bo)),Aa ((a1).Turn),Aa ((a1).Active),Aa ((a1).Step),.bool ((a1).Begun),Aa ((a1).Priority),Aa ((a1).Passes),Aa ((a1).NextId),Aa ((a1).NextStamp),.int .u64 ((a1).Seed),.sl ((a1).Extra).length (((a1).Extra).flatMap (eI .i64)),Aa ((a1).Over),Aa ((a1).Winner),.osl [1019,5],.sl r1.length (r1.flatMap (AA)),.osl [34],.osl [39],.osl [44]])]) (aN)<|hR<|bE (.agg [.sl ((a1).Players).length (((a1).Players).flatMap (Ay)),.sl ((a1).Objects).length (((a1).Objects).flatMap (Ai)),.sl ((a1).Battlefield).length (((a1).Battlefield).flatMap (eI .i64)),.sl ((a1).Exile).length (((a1).Exile).flatMap (eI .i64)),.sl ((a1).Stack).length (((a1).Stack).flatMap (Bn)),.sl ((a1).Waiting).length (((a1).Waiting).flatMap (AS)),.sl ((a1).Conts).length (((a1).Conts).flatMap (Bo)),Aa ((a1).Turn),Aa ((a1).Active),Aa ((a1).Step),.bool ((a1).Begun),Aa ((a1).Priority),Aa ((a1).Passes),Aa ((a1).NextId),Aa ((a1).NextStamp),.int .u64 ((a1).Seed),.sl ((a1).Extra).length (((a1).Extra).flatMap (eI .i64)),Aa ((a1).Over),Aa ((a1).Winner),.osl [1019,5],.sl r1.length (r1.flatMap (AA)),.osl [34],.osl [39],.osl [44]]) (.agg (Av (⟨a1,n0,r1,l4,l6,l8⟩:AD))) (congrArg (vA Av) (sI m0))def E_r30_first:CE TE Tryz.prog I0:=⟨15,[.k (.lst 73), .s 31],[.s 55],fun x=>Hx x.1 x.2.1,fun x r h=>Cz (by kernel_rfl) (d7 (r:=r) h)⟩
def Je (l11_1:List (Int)):Option ((List (Int))):=
 some l11_1
def Ed (i_t12_5:Int) (l11_10:List (Int)):Option ((Int×(List (Int)))⊕((List (Int)))):=
 some (.inl ((Ac (i_t12_5+1)),l11_10))
def GG (a0:Ao) (a1:List (Ah)) (a2:Int) (a3:Int) (a4:Ar) (i_t12_5:Int) (l11_6:List (Int)):Option ((Int×(List (Int)))⊕((List (Int)))):=
 (if(decide (i_t12_5<(a0.Objects.length:Int)))=true then
  (idx a0.Objects i_t12_5).bind fun e12=>
  (XO a1 i_t12_5).bind fun r13=>
  (FS e12 r13 a2 a3 a4).bind fun r14=>
  (if r14=true then
   (idx a0.Objects i_t12_5).bind fun e16=>
   (app 8 l11_6 ([e16.Id]:List (Int))).bind fun l17=>
   Ed i_t12_5 l17
  else
   Ed i_t12_5 l11_6)
 else
  some (.inr l11_6))
def Nb (a0:Ao) (a1:List (Ah)) (a2:Int) (a3:Int) (a4:Ar):Option ((List (Int))):=
 (iter (fun(v:Int×(List (Int)))=>GG a0 a1 a2 a3 a4 v.1 v.2) FU ((0:Int),([]:List (Int)))).bind (fun o0=>Je o0)
def mc (a0:Ao) (a1:List (Ah)) (a2:Int) (a3:Int) (a4:Ar) (r:(List (Int))):Prop:=AQ Tryz.prog I0 109 [vA A4 a0,vL Ag a1,vI a2,vI a3,vA B0 a4] (· =vL (eI .i64) r)
theorem iO {a0:Ao} {a1:List (Ah)} {a2:Int} {a3:Int} {a4:Ar} {r:(List (Int))} (h:Nb a0 a1 a2 a3 a4=some r):mc a0 a1 a2 a3 a4 r:=by
 refine AQ.bo Ab Tryz.func109 rfl Tryz.ntmps109 [.tmp 10] fun _ _ _ _=>?_
 unfold Nb at h
 refine Gg (nA 3) (uo [0,4] [(5,vP [5] (0)),(9,vP [9] (0))] [.e (bx [9] (B0 a4)),.e (bx [5] (A4 a0))]) (aN)<|Gg [.a] (uo [] [(11,vO [11])] [.e (BA [11] 3 1 (eI .i64) ([]:List (Int))),.k 0,.k 1]) (aN)<|Sj (X:=(List (Int))) (fun v=>(sl 42 [(11,vO [11])] [BA [11] 3 1 (eI .i64) v])) (fun v=>Je v=some r) ?_ ?_
 ·refine Gg [.a] (u [] [(12,vI 0)]) (aN)<|hB ?_
  obtain⟨q1,m1,h⟩:=bS h
  refine Gi (fun(v:Int×(List (Int)))=>(uo [] [(12,vI v.1)] [.e (BA [11] 3 1 (eI .i64) v.2),.k 1,.k 2])) m1 (wT) ?_
  rintro⟨i0,k0⟩ i1 j0 n1
  replace j0:GG a0 a1 a2 a3 a4 i0 k0=some i1:=j0
  unfold GG at j0
  refine hS<|Gg (nA 5) (u [] [(17,vB (decide (i0<(a0.Objects.length:Int))))]) (aN)<|iC j0 (fun j0=>?_) (fun j0=>?_)
  ·refine hK<|Tn<|Gj (X:=(List (Int))) (fun v=>(uo [17] [] [.e (BA [11] 3 1 (eI .i64) v),.k 1,.k 2])) (fun v=>Ed i0 v=some i1) ?_ ?_
   ·refine hB<|hS ?_
    obtain⟨p0,y0,j1,o1,k1,p1,j0⟩:=wd j0
    refine Aj.regS Ad [[],[0],[],[0,1,2],[0,1,2,3],[],[],[5,6],[],[],[],[0,1,2,3,4,5,6,7,8,9,10]] [] [[]] [.a,.a,.a,.a,(.v (vA Ai p0)),.a,.a,(.c (vA Ag j1)),.a,.a,.a,(.c (vB k1))] [[11],[9],[5]] ⟨nk 42 0 [(1,[],vL Ag a1),(2,[],vI a2),(3,[],vI a3),(5,[],vP [5] (0)),(9,[],vP [9] (0)),(11,[],vO [11]),(12,[],vI i0),(17,[],vB (decide (i0<(a0.Objects.length:Int)))),(20,[(0,vP [5] (1))],.undef),(21,[(1,vL Ai a0.Objects)],.undef),(22,[(2,vI i0)],.undef),(23,[(3,vX Ai a0.Objects ((i0).toNat *19))],.undef),(24,[(4,vA Ai p0)],.undef),(25,[(5,vL Ag a1)],.undef),(26,[(6,vI i0)],.undef),(27,[(7,vA Ag j1)],.undef),(28,[(8,vI a2)],.undef),(29,[(9,vI a3)],.undef),(30,[(10,vA B0 a4)],.undef),(31,[(11,vB k1)],.undef)],[([],some (BA [11] 3 1 (eI .i64) k0)),([],some (bx [9] (B0 a4))),([],some (bx [5] (A4 a0)))],[],[]⟩ _ (bC (aN)<|bC (aN)<|bC (aN)<|bC (aC (BS y0)<|aN)<|bC (aC (Pg y0 H5 0 19 true (vA Ai p0))<|aC (Eq.refl (vA Ai p0))<|aN)<|bC (aN)<|bC (aN)<|bC (aC (pA o1)<|aN)<|bC (aN)<|bC (aN)<|bC (aN)<|bC (aC (Zh p1)<|aN)<|bN)<|Tn<|Gs (u [17,20,21,22,23,24,25,26,27,28,29,30] [])<|iC j0 (fun j0=>?_) (fun j0=>?_)
    ·obtain⟨n0,z0,x0,d1,j0⟩:=YG j0
     refine Ge [.a,.a,.a,.a,.a,.a,(.v (vI n0.Id)),.a,(.e x0.length (x0.flatMap (eI .i64))),.a] (uo [] [(33,vP [5] (1)),(34,vL Ai a0.Objects),(35,vI i0),(36,vX Ai a0.Objects ((i0).toNat *19)),(37,vX Ai a0.Objects ((i0).toNat *19+0)),(38,vI n0.Id),(39,vO [39]),(40,vO [11])] [.e (BA [11] 3 1 (eI .i64) x0),.e (BA [39] 3 1 (eI .i64) ([n0.Id]:List (Int))),.k 1,.k 2]) (aC (BS z0)<|aC (Pg z0 H5 0 1 false (vI n0.Id))<|aC (Eq.refl (vI n0.Id))<|aC (Z7 d1 (eI .i64))<|aC (DL d1)<|aN)<|qN<|Tn ⟨x0,j0,wT⟩
    refine hK<|qN<|Tn ⟨k0,j0,wT⟩
   rintro o0 m0
   replace m0:Ed i0 o0=some i1:=m0
   unfold Ed at m0
   refine Ge (nA 3) (u [] [(12,vI (Ac (i0+1))),(18,vI i0),(19,vI (Ac (i0+1)))]) (aN)<|Tn ⟨((Ac (i0+1)),o0),(sI m0).symm,wT⟩
  refine hE<|Te ?_
  obtain rfl:=n1 _ (sI j0).symm
  refine Te<|qX<|Tn ⟨k0,h,wT⟩
 rintro t0 q0
 replace q0:Je t0=some r:=q0
 unfold Je at q0
 exact Gg [.a,.a] (u [11] [(10,vO [11])]) (aN)<|hR<|bE (vO [11]) (vL (eI .i64) t0) (congrArg (vL (eI .i64)) (sI q0))
end Go.PL
