/- Functions of the program, as partial functions in Lean, with proofs. -/
import Derived.Test.YtiddnfpjgojoaaaGreatDoorPlEdB
import Derived.Test.YtiddnfpjgojoaaaGreatDoorPlEdF4
import Derived.Test.YtiddnfpjgojoaaaGreatDoorPlEdF5
import Derived.Test.YtiddnfpjgojoaaaGreatDoorPlEdF6
namespace Go.PL
open Go Go.RowKit Go.Proofs
set_option maxRecDepth 100000
set_option linter.all false
set_option maxHeartbeats 4000000
attribute [local irreducible] Aj BO Bz
def C1 (a0:AD) (l1019_3_1:List (Ah)):Option (AD):=
 some (⟨a0.S,l1019_3_1,a0.L,a0.Begun,a0.Sets,a0.Blank⟩:AD)
def CD (k_t4_5:Int) (l1019_3_6:List (Ah)) (b5_12:Ah):Option ((Int×(List (Ah)))⊕((List (Ah)))):=
 (app 176 l1019_3_6 ([b5_12]:List (Ah))).bind fun l14=>
 some (.inl ((Ac (k_t4_5+1)),l14))
def D2 (a0:AD) (k_t4_5:Int) (l1019_3_6:List (Ah)):Option ((Int×(List (Ah)))⊕((List (Ah)))):=
 (if(decide (k_t4_5<(a0.All.length:Int)))=true then
  (idx a0.All k_t4_5).bind fun e10=>
  (idx a0.S.Objects k_t4_5).bind fun e11=>
  (some (if(e11.Zone==0)=true then(Int.tmod (Ac (Int.tdiv e10.Line.Types (1:Int))) (2:Int))==(1:Int)else false)).bind fun b15=>
  (if b15=true then
   (Km e11.Counters).bind fun r17=>
   (Gb e10.Power r17).bind fun r18=>
   (Gb (({e10 with Power:=r18}).Tough) r17).bind fun r19=>
   CD k_t4_5 l1019_3_6 ({{e10 with Power:=r18}with Tough:=r19})
  else
   CD k_t4_5 l1019_3_6 e10)
 else
  some (.inr l1019_3_6))
def EU (a0:AD):Option (AD):=
 (iter (fun(v:Int×(List (Ah)))=>D2 a0 v.1 v.2) FU ((0:Int),([]:List (Ah)))).bind (fun o0=>C1 a0 o0)
def Zc (a0:AD) (r:AD):Prop:=AQ Tryz.prog I0 38 [vA Av a0] (· =vA Av r)
theorem Yb {a0:AD} {r:AD} (h:EU a0=some r):Zc a0 r:=by
 refine AQ.bo Ab Tryz.func38 rfl Tryz.ntmps38 [.cell 2 55] fun _ _ _ _=>?_
 unfold EU at h
 refine Rg [.a,.a] (sl 59 [(1,vP [1] (0)),(2,vP [2] (0))] [bx [2] [.nils,.nils,.nils,.nils,.nils,.nils,.nils,Aa 0,Aa 0,Aa 0,.bool false,Aa 0,Aa 0,Aa 0,Aa 0,.int .u64 0,.nils,Aa 0,Aa 0,.nils,.nils,.nils,.nils,.nils],bx [1] (Av a0)]) (aN)<|Gg (nA 3) (uo [] [(3,vP [3] (0))] [.e (bx [3] (Av a0)),.k 0,.k 1]) (aN)<|Gg [.a,.a] (uo [] [] [.e (bx [3] [.sl ((a0.S).Players).length (((a0.S).Players).flatMap (Ay)),.sl ((a0.S).Objects).length (((a0.S).Objects).flatMap (Ai)),.sl ((a0.S).Battlefield).length (((a0.S).Battlefield).flatMap (eI .i64)),.sl ((a0.S).Exile).length (((a0.S).Exile).flatMap (eI .i64)),.sl ((a0.S).Stack).length (((a0.S).Stack).flatMap (Bn)),.sl ((a0.S).Waiting).length (((a0.S).Waiting).flatMap (AS)),.sl ((a0.S).Conts).length (((a0.S).Conts).flatMap (Bo)),Aa ((a0.S).Turn),Aa ((a0.S).Active),Aa ((a0.S).Step),.bool ((a0.S).Begun),Aa ((a0.S).Priority),Aa ((a0.S).Passes),Aa ((a0.S).NextId),Aa ((a0.S).NextStamp),.int .u64 ((a0.S).Seed),.sl ((a0.S).Extra).length (((a0.S).Extra).flatMap (eI .i64)),Aa ((a0.S).Over),Aa ((a0.S).Winner),.nils,.sl a0.L.length (a0.L.flatMap (AA)),.sl a0.Begun.length (a0.Begun.flatMap (eB)),.sl a0.Sets.length (a0.Sets.flatMap (eL (eI .i64))),.sl a0.Blank.length (a0.Blank.flatMap (eB))]),.k 1,.k 2]) (aN)<|Ow [3] 19 [1019,3] 70 17 (sl 59 [(1,vP [1] (0)),(2,vP [2] (0)),(3,vP [3] (0))] [BA [1019,3] 70 17 Ag ([]:List (Ah)),bx [3] [.sl ((a0.S).Players).length (((a0.S).Players).flatMap (Ay)),.sl ((a0.S).Objects).length (((a0.S).Objects).flatMap (Ai)),.sl ((a0.S).Battlefield).length (((a0.S).Battlefield).flatMap (eI .i64)),.sl ((a0.S).Exile).length (((a0.S).Exile).flatMap (eI .i64)),.sl ((a0.S).Stack).length (((a0.S).Stack).flatMap (Bn)),.sl ((a0.S).Waiting).length (((a0.S).Waiting).flatMap (AS)),.sl ((a0.S).Conts).length (((a0.S).Conts).flatMap (Bo)),Aa ((a0.S).Turn),Aa ((a0.S).Active),Aa ((a0.S).Step),.bool ((a0.S).Begun),Aa ((a0.S).Priority),Aa ((a0.S).Passes),Aa ((a0.S).NextId),Aa ((a0.S).NextStamp),.int .u64 ((a0.S).Seed),.sl ((a0.S).Extra).length (((a0.S).Extra).flatMap (eI .i64)),Aa ((a0.S).Over),Aa ((a0.S).Winner),.osl [1019,3],.sl a0.L.length (a0.L.flatMap (AA)),.sl a0.Begun.length (a0.Begun.flatMap (eB)),.sl a0.Sets.length (a0.Sets.flatMap (eL (eI .i64))),.sl a0.Blank.length (a0.Blank.flatMap (eB))],bx [2] [.nils,.nils,.nils,.nils,.nils,.nils,.nils,Aa 0,Aa 0,Aa 0,.bool false,Aa 0,Aa 0,Aa 0,Aa 0,.int .u64 0,.nils,Aa 0,Aa 0,.nils,.nils,.nils,.nils,.nils],bx [1] (Av a0)])<|Gj (X:=(List (Ah))) (fun v=>(uo [1] [] [.e (BA [1019,3] 70 17 Ag v),.k 1,.k 2])) (fun v=>C1 a0 v=some r) ?_ ?_
 ·refine Gg [.a] (u [] [(4,vI 0)]) (aN)<|hB ?_
  obtain⟨z1,p1,h⟩:=bS h
  refine Gi (fun(v:Int×(List (Ah)))=>(uo [] [(4,vI v.1)] [.e (BA [1019,3] 70 17 Ag v.2),.k 1,.k 2,.k 3])) p1 (wT) ?_
  rintro⟨j0,k0⟩ m1 i0 q1
  replace i0:D2 a0 j0 k0=some m1:=i0
  unfold D2 at i0
  refine hS<|Gg (nA 5) (u [] [(14,vB (decide (j0<(a0.All.length:Int))))]) (aN)<|iC i0 (fun i0=>?_) (fun i0=>?_)
  ·refine hK<|Tn<|hS<|hB ?_
   obtain⟨n0,d1,i0⟩:=bS i0
   refine Gg [.a,.a,.a,.a,(.v (vA Ag n0)),.a,.a] (uo [14] [(5,vP [5] (0))] [.e (bx [5] (Ag n0)),.k 0,.k 1,.k 2,.k 3]) (aC (BS d1)<|aC (Pg d1 KS 0 17 true (vA Ag n0))<|aC (Eq.refl (vA Ag n0))<|aN) ?_
   obtain⟨m0,i1,i0⟩:=bS i0
   refine Gg [.a,.a,.a,.a,.a,(.v (vA Ai m0)),.a,.a] (uo [] [(6,vP [6] (0))] [.e (bx [6] (Ai m0)),.k 0,.k 1,.k 2,.k 3,.k 4]) (aC (BS i1)<|aC (Pg i1 H5 0 19 true (vA Ai m0))<|aC (Eq.refl (vA Ai m0))<|aN)<|Sj (X:=Ah) (fun v=>(sl 59 [(1,vP [1] (0)),(2,vP [2] (0)),(3,vP [3] (0)),(4,vI j0),(5,vP [5] (0))] [bx [5] (Ag v),BA [1019,3] 70 17 Ag k0,bx [3] [.sl ((a0.S).Players).length (((a0.S).Players).flatMap (Ay)),.sl ((a0.S).Objects).length (((a0.S).Objects).flatMap (Ai)),.sl ((a0.S).Battlefield).length (((a0.S).Battlefield).flatMap (eI .i64)),.sl ((a0.S).Exile).length (((a0.S).Exile).flatMap (eI .i64)),.sl ((a0.S).Stack).length (((a0.S).Stack).flatMap (Bn)),.sl ((a0.S).Waiting).length (((a0.S).Waiting).flatMap (AS)),.sl ((a0.S).Conts).length (((a0.S).Conts).flatMap (Bo)),Aa ((a0.S).Turn),Aa ((a0.S).Active),Aa ((a0.S).Step),.bool ((a0.S).Begun),Aa ((a0.S).Priority),Aa ((a0.S).Passes),Aa ((a0.S).NextId),Aa ((a0.S).NextStamp),.int .u64 ((a0.S).Seed),.sl ((a0.S).Extra).length (((a0.S).Extra).flatMap (eI .i64)),Aa ((a0.S).Over),Aa ((a0.S).Winner),.osl [1019,3],.sl a0.L.length (a0.L.flatMap (AA)),.sl a0.Begun.length (a0.Begun.flatMap (eB)),.sl a0.Sets.length (a0.Sets.flatMap (eL (eI .i64))),.sl a0.Blank.length (a0.Blank.flatMap (eB))],bx [2] [.nils,.nils,.nils,.nils,.nils,.nils,.nils,Aa 0,Aa 0,Aa 0,.bool false,Aa 0,Aa 0,Aa 0,Aa 0,.int .u64 0,.nils,Aa 0,Aa 0,.nils,.nils,.nils,.nils,.nils],bx [1] (Av a0)])) (fun v=>CD j0 k0 v=some m1) ?_ ?_
   ·obtain⟨n1,o1,i0⟩:=bS i0
    refine Rg [.a,.a,.a,.a,.a,.a,.a,.a,.a,.a,(.v (vB n1))] (sl 59 [(1,vP [1] (0)),(2,vP [2] (0)),(3,vP [3] (0)),(4,vI j0),(5,vP [5] (0)),(6,vP [6] (0)),(38,vB n1)] [bx [6] (Ai m0),bx [5] (Ag n0),BA [1019,3] 70 17 Ag k0,bx [3] [.sl ((a0.S).Players).length (((a0.S).Players).flatMap (Ay)),.sl ((a0.S).Objects).length (((a0.S).Objects).flatMap (Ai)),.sl ((a0.S).Battlefield).length (((a0.S).Battlefield).flatMap (eI .i64)),.sl ((a0.S).Exile).length (((a0.S).Exile).flatMap (eI .i64)),.sl ((a0.S).Stack).length (((a0.S).Stack).flatMap (Bn)),.sl ((a0.S).Waiting).length (((a0.S).Waiting).flatMap (AS)),.sl ((a0.S).Conts).length (((a0.S).Conts).flatMap (Bo)),Aa ((a0.S).Turn),Aa ((a0.S).Active),Aa ((a0.S).Step),.bool ((a0.S).Begun),Aa ((a0.S).Priority),Aa ((a0.S).Passes),Aa ((a0.S).NextId),Aa ((a0.S).NextStamp),.int .u64 ((a0.S).Seed),.sl ((a0.S).Extra).length (((a0.S).Extra).flatMap (eI .i64)),Aa ((a0.S).Over),Aa ((a0.S).Winner),.osl [1019,3],.sl a0.L.length (a0.L.flatMap (AA)),.sl a0.Begun.length (a0.Begun.flatMap (eB)),.sl a0.Sets.length (a0.Sets.flatMap (eL (eI .i64))),.sl a0.Blank.length (a0.Blank.flatMap (eB))],bx [2] [.nils,.nils,.nils,.nils,.nils,.nils,.nils,Aa 0,Aa 0,Aa 0,.bool false,Aa 0,Aa 0,Aa 0,Aa 0,.int .u64 0,.nils,Aa 0,Aa 0,.nils,.nils,.nils,.nils,.nils],bx [1] (Av a0)]) (aG ((m0.Zone==0)==true)<|aG ((m0.Zone==0)==true)<|aC (fun hg:((m0.Zone==0)==true)=true=>aC (gi ((m0.Zone==0)==true))<|aC (show (1:Int) ≠ 0 from(by decide))<|aN)<|aC (fun hg:((m0.Zone==0)==true)=true=>aC (gi ((m0.Zone==0)==true))<|aC (show (2:Int) ≠ 0 from(by decide))<|aN)<|aG ((m0.Zone==0)==true)<|aT (m0.Zone==0)<|aB o1<|aN)<|iC i0 (fun i0=>?_) (fun i0=>?_)
    ·obtain⟨k1,t1,i0⟩:=bS i0
     refine Gg [.a,.a,(.c (vI k1)),.a] (uo [6,38] [(7,vI k1)] [.k 1,.k 2,.k 3,.k 4,.k 5]) (aC (dM t1)<|aN) ?_
     obtain⟨t0,x1,i0⟩:=bS i0
     refine Gg [.a,.a,.a,(.c (vI t0)),.a,.a] (uo [] [] [.e (bx [5] (Ag ({n0 with Power:=t0}))),.k 1,.k 2,.k 3,.k 4]) (aC (XY x1)<|aN) ?_
     obtain⟨z0,y1,i0⟩:=bS i0
     refine Ge [.a,.a,.a,(.c (vI z0)),.a,.a] (uo [] [(47,vP [5] (13)),(48,vI (({n0 with Power:=t0}).Tough)),(49,vI k1),(50,vI z0),(51,vP [5] (13))] [.e (bx [5] (Ag ({{n0 with Power:=t0}with Tough:=z0}))),.k 1,.k 2,.k 3,.k 4]) (aC (XY y1)<|aN)<|Tn ⟨({{n0 with Power:=t0}with Tough:=z0}),i0,wT⟩
    refine hK<|Tn ⟨n0,i0,wT⟩
   rintro q0 o0
   replace o0:CD j0 k0 q0=some m1:=o0
   unfold CD at o0
   obtain⟨y0,j1,o0⟩:=bS o0
   refine Ge [.a,.a,.a,.a,(.e y0.length (y0.flatMap (Ag))),.a,.a] (uo [] [(52,vP [3] (19)),(54,vA Ag q0),(55,vO [55]),(56,vO [1019,3]),(57,vP [3] (19))] [.e (BA [1019,3] 70 17 Ag y0),.e (BA [55] 70 17 Ag ([q0]:List (Ah))),.k 0,.k 2,.k 3,.k 4]) (aC (Z7 j1 Ag)<|aC (DL j1)<|aN)<|qN<|Tn<|Ge (nA 3) (u [] [(4,vI (Ac (j0+1))),(15,vI j0),(16,vI (Ac (j0+1)))]) (aN)<|Tn ⟨((Ac (j0+1)),y0),(sI o0).symm,wT⟩
  refine hE<|Te ?_
  obtain rfl:=q1 _ (sI i0).symm
  refine Te<|qX<|Tn ⟨k0,h,wT⟩
 rintro p0 x0
 replace x0:C1 a0 p0=some r:=x0
 unfold C1 at x0
 exact Gg [.a,.a] (uo [3] [] [.k 0,.e (bx [2] [.sl ((a0.S).Players).length (((a0.S).Players).flatMap (Ay)),.sl ((a0.S).Objects).length (((a0.S).Objects).flatMap (Ai)),.sl ((a0.S).Battlefield).length (((a0.S).Battlefield).flatMap (eI .i64)),.sl ((a0.S).Exile).length (((a0.S).Exile).flatMap (eI .i64)),.sl ((a0.S).Stack).length (((a0.S).Stack).flatMap (Bn)),.sl ((a0.S).Waiting).length (((a0.S).Waiting).flatMap (AS)),.sl ((a0.S).Conts).length (((a0.S).Conts).flatMap (Bo)),Aa ((a0.S).Turn),Aa ((a0.S).Active),Aa ((a0.S).Step),.bool ((a0.S).Begun),Aa ((a0.S).Priority),Aa ((a0.S).Passes),Aa ((a0.S).NextId),Aa ((a0.S).NextStamp),.int .u64 ((a0.S).Seed),.sl ((a0.S).Extra).length (((a0.S).Extra).flatMap (eI .i64)),Aa ((a0.S).Over),Aa ((a0.S).Winner),.osl [1019,3],.sl a0.L.length (a0.L.flatMap (AA)),.sl a0.Begun.length (a0.Begun.flatMap (eB)),.sl a0.Sets.length (a0.Sets.flatMap (eL (eI .i64))),.sl a0.Blank.length (a0.Blank.flatMap (eB))])]) (aN)<|hR<|bE (.agg [.sl ((a0.S).Players).length (((a0.S).Players).flatMap (Ay)),.sl ((a0.S).Objects).length (((a0.S).Objects).flatMap (Ai)),.sl ((a0.S).Battlefield).length (((a0.S).Battlefield).flatMap (eI .i64)),.sl ((a0.S).Exile).length (((a0.S).Exile).flatMap (eI .i64)),.sl ((a0.S).Stack).length (((a0.S).Stack).flatMap (Bn)),.sl ((a0.S).Waiting).length (((a0.S).Waiting).flatMap (AS)),.sl ((a0.S).Conts).length (((a0.S).Conts).flatMap (Bo)),Aa ((a0.S).Turn),Aa ((a0.S).Active),Aa ((a0.S).Step),.bool ((a0.S).Begun),Aa ((a0.S).Priority),Aa ((a0.S).Passes),Aa ((a0.S).NextId),Aa ((a0.S).NextStamp),.int .u64 ((a0.S).Seed),.sl ((a0.S).Extra).length (((a0.S).Extra).flatMap (eI .i64)),Aa ((a0.S).Over),Aa ((a0.S).Winner),.osl [1019,3],.sl a0.L.length (a0.L.flatMap (AA)),.sl a0.Begun.length (a0.Begun.flatMap (eB)),.sl a0.Sets.length (a0.Sets.flatMap (eL (eI .i64))),.sl a0.Blank.length (a0.Blank.flatMap (eB))]) (.agg (Av (⟨a0.S,p0,a0.L,a0.Begun,a0.Sets,a0.Blank⟩:AD))) (congrArg (vA Av) (sI x0))def E_r30_counted:CE TE Tryz.prog I0:=⟨38,[.s 55],[.s 55],fun x=>EU x.1,fun x r h=>Cz (by kernel_rfl) (Yb (r:=r) h)⟩
def Ex (a0:BZ) (a1:List UInt8) (l1:List (List UInt8)) (at_t6_7:Int):Option (BZ):=
 (lsub l1 0 at_t6_7).bind fun l9=>
 (app 16 ([]:List (List UInt8)) l9).bind fun l10=>
 (app 16 l10 ([a1]:List (List UInt8))).bind fun l11=>
 (lsub l1 at_t6_7 (l1.length:Int)).bind fun l12=>
 (app 16 l11 l12).bind fun l13=>
 some (⟨a0.Super,a0.Types,l13⟩:BZ)
def Fj (a1:List UInt8) (l1:List (List UInt8)) (at_t6_15:Int):Option ((Int)⊕(Int)):=
 (gd ((decide (at_t6_15<(l1.length:Int)))==true) (idx l1 at_t6_15)).bind fun e18=>
 (some (if(decide (at_t6_15<(l1.length:Int)))=true then Op.bytesLess e18 a1 else false)).bind fun b19=>
 (if b19=true then
  some (.inl (Ac (at_t6_15+1)))
 else
  some (.inr at_t6_15))
def FR (a0:BZ) (a1:List UInt8):Option (BZ):=
 (app 16 ([]:List (List UInt8)) a0.Subs).bind fun l1=>
 (ES a1).bind fun r2=>
 (gd ((!r2)==false) (FN a0 a1)).bind fun r3=>
 (some (if(!r2)=true then true else r3)).bind fun b4=>
 (some (if b4=true then true else decide (4≤(l1.length:Int)))).bind fun b5=>
 (if b5=true then
  some (⟨a0.Super,a0.Types,l1⟩:BZ)
 else
  (iter (fun(v:Int)=>Fj a1 l1 v) FU (0:Int)).bind (fun o0=>Ex a0 a1 l1 o0))
def dQ (a0:BZ) (a1:List UInt8) (r:BZ):Prop:=AQ Tryz.prog I0 151 [vA Dl a0,vS a1] (· =vA Dl r)
theorem Zd {a0:BZ} {a1:List UInt8} {r:BZ} (h:FR a0 a1=some r):dQ a0 a1 r:=by
 refine AQ.bo Ab Tryz.func151 rfl Tryz.ntmps151 [.cell 4 67] fun _ _ _ _=>?_
 unfold FR at h
 refine Rg [.a,.a] (sl 64 [(1,vS a1),(2,vP [2] (0)),(4,vP [4] (0))] [bx [4] [Aa 0,Aa 0,.nils],bx [2] (Dl a0)]) (aN) ?_
 obtain⟨l1,n1,h⟩:=bS h
 refine Gg [.a,.a,.a,(.e l1.length (l1.flatMap (eS))),.a] (uo [] [(5,vO [8])] [.e (BA [8] 9 1 eS l1),.k 0,.k 1]) (aC (show (a0.Subs.flatMap (eS)).length =a0.Subs.length*1 from(Cg (enc:=eS) (n:=1) cw _))<|aC (Z7 n1 eS)<|aC (DL n1)<|aN)<|hS ?_
 obtain⟨r2,y1,r3,z1,b4,t1,b5,x1,h⟩:=pT h
 refine Gg [.a,(.c (vB r2)),.a,.a,.a,.a,(.c (vB r3)),(.v (vB b4)),.a,.a,.a,.a,(.v (vB b5))] (u [] [(24,vB b5)]) (aC (dJ y1)<|aC (c2 z1 Y3)<|aF (!r2)<|aB t1<|aG (b4==false)<|aG (b4==false)<|aF b4<|aB x1<|aN)<|iC h (fun h=>?_) (fun h=>?_)
 ·exact Gg (nA 7) (uo [1,2,5,24] [] [.k 0,.e (bx [4] [Aa a0.Super,Aa a0.Types,.osl [8]])]) (aC (And.intro (show True∧(True∧(True∧True))from⟨trivial,⟨trivial,⟨trivial,trivial⟩⟩⟩) vm)<|aN)<|hR<|Tr<|bE (.agg [Aa a0.Super,Aa a0.Types,.osl [8]]) (.agg (Dl (⟨a0.Super,a0.Types,l1⟩:BZ))) (congrArg (vA Dl) (sI h))
 refine hK<|Tn<|Gg [.a] (u [24] [(6,vI 0)]) (aN)<|Gj (X:=Int) (fun v=>(u [] [(6,vI v)])) (fun v=>Ex a0 a1 l1 v=some r) ?_ ?_
 ·refine hB ?_
  obtain⟨d2,j1,h⟩:=bS h
  refine Gi (fun(v:Int)=>(u [] [(6,vI v)])) j1 (wT) ?_
  rintro i0 q1 j0 k1
  replace j0:Fj a1 l1 i0=some q1:=j0
  unfold Fj at j0
  refine hS ?_
  obtain⟨q0,t0,m1,p1,j0⟩:=YG j0
  refine Gg [.a,.a,.a,.a,.a,.a,.a,.a,(.v (vS q0)),.a,.a,(.v (vB m1))] (u [] [(42,vB m1)]) (aC (fun hg:((decide (i0<(l1.length:Int)))==true)=true=>aC (gi ((decide (i0<(l1.length:Int)))==true))<|aC (gi ((decide (i0<(l1.length:Int)))==true))<|aC (Sf t0 hg).1<|aN)<|aC (fun hg:((decide (i0<(l1.length:Int)))==true)=true=>aC (gi ((decide (i0<(l1.length:Int)))==true))<|aC (Pg (U7 t0 hg) cw 0 1 false (vS q0))<|aC (Eq.refl (vS q0))<|aN)<|aH ((decide (i0<(l1.length:Int)))==true)<|aT (decide (i0<(l1.length:Int)))<|aB p1<|aN)<|iC j0 (fun j0=>?_) (fun j0=>?_)
  ·refine hK<|Tn<|hB<|Ge (nA 3) (u [] [(6,vI (Ac (i0+1))),(43,vI i0),(44,vI (Ac (i0+1)))]) (aN)<|qN<|Tn ⟨(Ac (i0+1)),(sI j0).symm,wT⟩
  refine hE<|Te ?_
  obtain rfl:=k1 _ (sI j0).symm
  refine Te<|qX<|Tn ⟨i0,h,wT⟩
 rintro m0 k0
 replace k0:Ex a0 a1 l1 m0=some r:=k0
 unfold Ex at k0
 obtain⟨l9,o1,i1,x0,k0⟩:=YG k0
 refine Gg [.a,.a,.a,(.v (vL eS l9)),(.e i1.length (i1.flatMap (eS))),.a] (uo [] [(5,vL eS l1),(7,vO [45])] [.e (BA [45] 9 1 eS i1),.k 1,.k 2]) (aC (cx o1)<|aC (flat_len' cw l1)<|aC (v8 o1 cw)<|aC (show (l9.flatMap (eS)).length =l9.length*1 from(Cg (enc:=eS) (n:=1) cw _))<|aC (Z7 x0 eS)<|aC (DL x0)<|aN) ?_
 obtain⟨n0,y0,k0⟩:=bS k0
 refine Gg [.a,.a,.a,(.e n0.length (n0.flatMap (eS))),.a] (uo [1] [] [.e (BA [45] 9 1 eS n0),.k 1,.k 2]) (aC (Z7 y0 eS)<|aC (DL y0)<|aN)<|hS ?_
 obtain⟨o0,z0,p0,d1,k0⟩:=YG k0
 exact Aj.regS Ad [[],[0],[],[2],[],[],[],[5,6],[4,5,6,7],[0,1,2,3,4,5,6,7,8],[0,1,2,3,4,5,6,7,8,9]] [0,1,2,3,8,10] [[false,false,false,false,false,false],[true,false,false,false,false,false],[false,false,true,false,false,false],[false,false,false,false,true,false],[true,true,false,false,false,false],[true,false,true,false,false,false],[true,false,false,false,true,false],[false,false,true,true,false,false],[false,false,true,false,true,false],[true,true,true,false,false,false],[true,true,false,false,true,false],[true,false,true,true,false,false],[true,false,true,false,true,false],[false,false,true,true,true,false],[true,true,true,true,false,false],[true,true,true,false,true,false],[true,false,true,true,true,false],[true,true,true,true,true,false],[true,true,true,true,true,true]] [.a,.a,.a,.a,.a,.a,.a,(.v (vL eS o0)),(.e p0.length (p0.flatMap (eS))),.a,.a] [[45],[4],[2]] ⟨nk 64 0 [(2,[],vP [2] (0)),(4,[],vP [4] (0)),(5,[],vL eS l1),(6,[],vI m0),(7,[(8,.undef)],vO [45]),(54,[(0,vP [2] (0))],.undef),(55,[(1,vI a0.Super)],.undef),(56,[(2,vP [2] (1))],.undef),(57,[(3,vI a0.Types)],.undef),(58,[(4,vO [45]),(8,.undef)],.undef),(59,[(5,vL eS l1)],.undef),(60,[(6,vI m0)],.undef),(61,[(7,vL eS o0)],.undef),(62,[(8,vO [45])],.undef),(63,[(9,.agg [Aa a0.Super,Aa a0.Types,.osl [45]])],.undef)],[([(8,BA [45] 9 1 eS p0)],some (BA [45] 9 1 eS n0)),([(10,bx [4] [Aa a0.Super,Aa a0.Types,.osl [45]])],some (bx [4] [Aa 0,Aa 0,.nils])),([],some (bx [2] (Dl a0)))],[],[]⟩ _ (bC (aN)<|bC (aN)<|bC (aN)<|bC (aN)<|bC (aN)<|bC (aN)<|bC (aN)<|bC (aC (cx z0)<|aC (flat_len' cw l1)<|aC (v8 z0 cw)<|aN)<|bC (aC (show (o0.flatMap (eS)).length =o0.length*1 from(Cg (enc:=eS) (n:=1) cw _))<|aC (Z7 d1 eS)<|aC (DL d1)<|aN)<|bC (aC (And.intro (show True∧(True∧(True∧True))from⟨trivial,⟨trivial,⟨trivial,trivial⟩⟩⟩) vm)<|aN)<|bC (aN)<|bN)<|Tn<|Gs (uo [2,5,6,54,55,56,57,59,60,61,62,63] [] [.k 0,.k 1])<|hR<|bE (.agg [Aa a0.Super,Aa a0.Types,.osl [45]]) (.agg (Dl (⟨a0.Super,a0.Types,p0⟩:BZ))) (congrArg (vA Dl) (sI k0))def E_r10_AddSub:CE TE Tryz.prog I0:=⟨151,[.s 67, .k (.str)],[.s 67],fun x=>FR x.1 x.2.1,fun x r h=>Cz (by kernel_rfl) (Zd (r:=r) h)⟩
end Go.PL
