/- Functions of the program, as partial functions in Lean, with proofs. -/
import Derived.Test.YthppcliidflkjaaGreatDoorPlCsB
namespace Go.PL
open Go Go.RowKit Go.Proofs
set_option maxRecDepth 100000
set_option linter.all false
set_option maxHeartbeats 4000000
attribute [local irreducible] Ah CP Dq
def I5:Option (Bool):=
 some true
def Ho (a0:Eg) (i_t3_7:Int):Option ((Int)⊕(Unit⊕Unit)):=
 (if(decide (i_t3_7<5))=true then
  (Gk a0.Color.l i_t3_7).bind fun e10=>
  (gd ((decide (e10<0))==false) (Gk a0.Color.l i_t3_7)).bind fun e11=>
  (some (if(decide (e10<0))=true then true else decide (9<e11))).bind fun b12=>
  (if b12=true then
   some (.inr (.inr ()))
  else
   some (.inl (A3 (i_t3_7+1))))
 else
  some (.inr (.inl ())))
def Qy (a0:Eg):Option (Bool):=
 (some (if(decide (a0.Generic<0))=true then true else decide (99<a0.Generic))).bind fun b1=>
 (some (if b1=true then true else decide (a0.X<0))).bind fun b2=>
 (some (if b2=true then true else decide (2<a0.X))).bind fun b3=>
 (if b3=true then
  some false
 else
  (iter (fun(v:Int)=>Ho a0 v) FU (0:Int)).bind (Sum.elim (fun o0=>I5) (fun o1=>some false)))
def fE (a0:Eg) (r:Bool):Prop:=Bp Tryz.prog I0 44 [vA BC a0] (· =vB r)
theorem bV {a0:Eg} {r:Bool} (h:Qy a0=some r):fE a0 r:=by
 refine Bp.bo DQ Tryz.func44 rfl Tryz.ntmps44 [.tmp 2] fun _ _ _ _=>?_
 unfold Qy at h
 refine Rg [.a,.a] (sl 38 [(1,vP [1] (0))] [bx [1] (BC a0)]) (aN)<|hS ?_
 obtain⟨b1,z0,b2,d1,b3,i1,h⟩:=o4 h
 refine Gg [.a,.a,.a,.a,.a,.a,.a,(.v (vB b1)),.a,.a,.a,.a,(.v (vB b2)),.a,.a,.a,.a,(.v (vB b3))] (u [] [(21,vB b3)]) (aG ((decide (a0.Generic<0))==false)<|aG ((decide (a0.Generic<0))==false)<|aF (decide (a0.Generic<0))<|aB z0<|aG (b1==false)<|aG (b1==false)<|aF b1<|aB d1<|aG (b2==false)<|aG (b2==false)<|aF b2<|aB i1<|aN)<|iC h (fun h=>?_) (fun h=>?_)
 ·exact Rg [.a] (sl 38 [(2,vB false)] []) (aN)<|hR<|Tr<|bQ _ (kB h)
 refine hK<|Tn<|Sj (X:=Unit) (fun v=>(sl 38 [] [])) (fun v=>I5=some r) ?_ ?_
 ·refine Gg [.a] (u [21] [(3,vI 0)]) (aN)<|hB ?_
  obtain⟨k1,y0,h⟩:=bS h
  refine Gi (fun(v:Int)=>(u [] [(3,vI v)])) y0 (wT) ?_
  rintro j0 j1 i0 q0
  replace i0:Ho a0 j0=some j1:=i0
  unfold Ho at i0
  refine hS<|Gg [.a,.a] (u [] [(23,vB (decide (j0<5)))]) (aN)<|iC i0 (fun i0=>?_) (fun i0=>?_)
  ·refine hK<|Tn<|hS<|hB ?_
   obtain⟨k0,o0,n0,p0,t0,x0,i0⟩:=o4 i0
   refine Gg [.a,.a,.a,(.v (vI k0)),.a,.a,.a,.a,.a,(.v (vI n0)),.a,(.v (vB t0))] (u [23] [(37,vB t0)]) (aC (Fh o0)<|aC (oU o0 (kq .i64) (BC a0) 2 7 0 1 false (vI k0))<|aC (Eq.refl (vI k0))<|aC (fun hg:((decide (k0<0))==false)=true=>aC (gi ((decide (k0<0))==false))<|aC (gi ((decide (k0<0))==false))<|aC (kh p0 hg).1<|aN)<|aC (fun hg:((decide (k0<0))==false)=true=>aC (gi ((decide (k0<0))==false))<|aC (oU (Xy p0 hg) (kq .i64) (BC a0) 2 7 0 1 false (vI n0))<|aC (Eq.refl (vI n0))<|aN)<|aG ((decide (k0<0))==false)<|aF (decide (k0<0))<|aB x0<|aN)<|iC i0 (fun i0=>?_) (fun i0=>?_)
   ·refine Rg [.a] (sl 38 [(2,vB false)] []) (aN)<|hR<|qR<|Tr ?_
    obtain rfl:=q0 _ (sI i0).symm
    replace h:=mY h
    exact Tr<|qR<|Tr<|bQ _ (kB h)
   refine hK<|qN<|Tn<|Ge (nA 3) (u [] [(3,vI (A3 (j0+1))),(24,vI j0),(25,vI (A3 (j0+1)))]) (aN)<|Tn ⟨(A3 (j0+1)),(sI i0).symm,wT⟩
  refine hE<|Te ?_
  obtain rfl:=q0 _ (sI i0).symm
  replace h:=mX h
  refine Te<|qX<|Tn ⟨(),h,wT⟩
 rintro _ m0
 replace m0:I5=some r:=m0
 unfold I5 at m0
 exact Rg [.a] (sl 38 [(2,vB true)] []) (aN)<|hR<|bQ _ (kB m0)
def D9 (a0:Ar) (l1:List (Lw)) (l2:List (BT)) (l1049_3_3:List (Bc)):Option (Ar):=
 some (⟨a0.Kind,a0.Filter,l1,a0.Price,a0.Slow,a0.Trigger,a0.May,l2,l1049_3_3,a0.Replace⟩:Ar)
def B5 (a0:Ar) (i_t4_7:Int) (l1049_3_8:List (Bc)):Option ((Int×(List (Bc)))⊕((List (Bc)))):=
 (if(decide (i_t4_7<(a0.Effects.length:Int)))=true then
  (Gk a0.Effects i_t4_7).bind fun e12=>
  (U3 176 ([]:List (Lw)) e12.Mods).bind fun l13=>
  (U3 560 l1049_3_8 ([(⟨e12.Op,e12.Ref,e12.Amount,e12.Counter,e12.Zone,e12.Card,e12.Filter,e12.Pool,l13⟩:Bc)]:List (Bc))).bind fun l14=>
  some (.inl ((A3 (i_t4_7+1)),l14))
 else
  some (.inr l1049_3_8))
def E7 (a0:Ar):Option (Ar):=
 (U3 176 ([]:List (Lw)) a0.Mods).bind fun l1=>
 (U3 144 ([]:List (BT)) a0.Specs).bind fun l2=>
 (iter (fun(v:Int×(List (Bc)))=>B5 a0 v.1 v.2) FU ((0:Int),([]:List (Bc)))).bind (fun o0=>D9 a0 l1 l2 o0)
def Jj (a0:Ar) (r:Ar):Prop:=Bp Tryz.prog I0 14 [vA Ao a0] (· =vA Ao r)
theorem Qz {a0:Ar} {r:Ar} (h:E7 a0=some r):Jj a0 r:=by
 refine Bp.bo DQ Tryz.func14 rfl Tryz.ntmps14 [.cell 2 75] fun _ _ _ _=>?_
 unfold E7 at h
 refine Rg [.a,.a] (sl 42 [(1,vP [1] (0)),(2,vP [2] (0))] [bx [2] [Aa 0,Aa 0,Aa 0,Aa 0,Aa 0,Aa 0,Aa 0,Aa 0,.str ([]),Aa 0,Aa 0,Aa 0,Aa 0,Aa 0,Aa 0,Aa 0,Aa 0,.nils,Aa 0,Aa 0,Aa (((⟨0,0,0,0,0⟩:A5 (Int))).x0),Aa (((⟨0,0,0,0,0⟩:A5 (Int))).x1),Aa (((⟨0,0,0,0,0⟩:A5 (Int))).x2),Aa (((⟨0,0,0,0,0⟩:A5 (Int))).x3),Aa (((⟨0,0,0,0,0⟩:A5 (Int))).x4),.bool false,.bool false,Aa 0,.bool false,Aa 0,Aa 0,Aa 0,Aa 0,Aa 0,Aa 0,Aa 0,Aa 0,Aa 0,.str ([]),Aa 0,Aa 0,Aa 0,Aa 0,Aa 0,Aa 0,Aa 0,Aa 0,.bool false,.nils,.nils,Aa 0,Aa 0,Aa 0,Aa 0,Aa 0,Aa 0,Aa 0,Aa 0,Aa 0,.str ([]),Aa 0,Aa 0,Aa 0,Aa 0,Aa 0,Aa 0,Aa 0,Aa 0,Aa 0,Aa 0,Aa 0,Aa 0],bx [1] (Ao a0)]) (aN)<|Gg (nA 3) (uo [] [(3,vP [3] (0))] [.e (bx [3] (Ao a0)),.k 0,.k 1]) (aN) ?_
 obtain⟨l1,j1,h⟩:=bS h
 refine Gg [.a,.a,.a,(.e l1.length (l1.flatMap (Bz))),.a,.a] (uo [] [] [.e (LC [7] 147 20 Bz l1),.e (bx [3] [Aa a0.Kind,Aa ((a0.Filter).Zone),Aa ((a0.Filter).Who),Aa ((a0.Filter).Self),Aa ((a0.Filter).Types),Aa ((a0.Filter).NotTypes),Aa ((a0.Filter).Colors),Aa ((a0.Filter).NotColors),.str ((a0.Filter).Sub),Aa ((a0.Filter).Keys),Aa ((a0.Filter).Tap),Aa (((a0.Filter).Power).Kind),Aa (((a0.Filter).Power).N),Aa (((a0.Filter).Tough).Kind),Aa (((a0.Filter).Tough).N),Aa (((a0.Filter).Value).Kind),Aa (((a0.Filter).Value).N),.osl [7],Aa (((a0.Price).Mana).Generic),Aa (((a0.Price).Mana).X),Aa ((((a0.Price).Mana).Color).x0),Aa ((((a0.Price).Mana).Color).x1),Aa ((((a0.Price).Mana).Color).x2),Aa ((((a0.Price).Mana).Color).x3),Aa ((((a0.Price).Mana).Color).x4),.bool ((a0.Price).Tap),.bool ((a0.Price).Sacrifice),Aa ((a0.Price).Life),.bool a0.Slow,Aa ((a0.Trigger).When),Aa ((a0.Trigger).Who),Aa (((a0.Trigger).Filter).Zone),Aa (((a0.Trigger).Filter).Who),Aa (((a0.Trigger).Filter).Self),Aa (((a0.Trigger).Filter).Types),Aa (((a0.Trigger).Filter).NotTypes),Aa (((a0.Trigger).Filter).Colors),Aa (((a0.Trigger).Filter).NotColors),.str (((a0.Trigger).Filter).Sub),Aa (((a0.Trigger).Filter).Keys),Aa (((a0.Trigger).Filter).Tap),Aa ((((a0.Trigger).Filter).Power).Kind),Aa ((((a0.Trigger).Filter).Power).N),Aa ((((a0.Trigger).Filter).Tough).Kind),Aa ((((a0.Trigger).Filter).Tough).N),Aa ((((a0.Trigger).Filter).Value).Kind),Aa ((((a0.Trigger).Filter).Value).N),.bool a0.May,.sl a0.Specs.length (a0.Specs.flatMap (Aq)),.sl a0.Effects.length (a0.Effects.flatMap (AW)),Aa ((a0.Replace).On),Aa ((a0.Replace).Who),Aa (((a0.Replace).Filter).Zone),Aa (((a0.Replace).Filter).Who),Aa (((a0.Replace).Filter).Self),Aa (((a0.Replace).Filter).Types),Aa (((a0.Replace).Filter).NotTypes),Aa (((a0.Replace).Filter).Colors),Aa (((a0.Replace).Filter).NotColors),.str (((a0.Replace).Filter).Sub),Aa (((a0.Replace).Filter).Keys),Aa (((a0.Replace).Filter).Tap),Aa ((((a0.Replace).Filter).Power).Kind),Aa ((((a0.Replace).Filter).Power).N),Aa ((((a0.Replace).Filter).Tough).Kind),Aa ((((a0.Replace).Filter).Tough).N),Aa ((((a0.Replace).Filter).Value).Kind),Aa ((((a0.Replace).Filter).Value).N),Aa ((a0.Replace).Do),Aa ((a0.Replace).N),Aa ((a0.Replace).Zone),Aa ((a0.Replace).Counter)]),.k 1,.k 2]) (aC (show (a0.Mods.flatMap (Bz)).length =a0.Mods.length*20 from(BO (enc:=Bz) (n:=20) ZK _))<|aC (mB j1 Bz)<|aC (KS j1)<|aN) ?_
 obtain⟨l2,k1,h⟩:=bS h
 refine Gg [.a,.a,.a,(.e l2.length (l2.flatMap (Aq))),.a,.a] (uo [] [] [.e (LC [12] 42 18 Aq l2),.k 0,.s 1 [(48,.osl [12])],.k 2,.k 3]) (aC (show (a0.Specs.flatMap (Aq)).length =a0.Specs.length*18 from(BO (enc:=Aq) (n:=18) Lx _))<|aC (mB k1 Aq)<|aC (KS k1)<|aN)<|Gg [.a,.a] (uo [] [] [.k 0,.k 1,.s 2 [(49,.nils)],.k 3,.k 4]) (aN)<|Ow [3] 49 [1049,3] 129 64 (sl 42 [(1,vP [1] (0)),(2,vP [2] (0)),(3,vP [3] (0))] [LC [1049,3] 129 64 AW ([]:List (Bc)),LC [12] 42 18 Aq l2,LC [7] 147 20 Bz l1,bx [3] [Aa a0.Kind,Aa ((a0.Filter).Zone),Aa ((a0.Filter).Who),Aa ((a0.Filter).Self),Aa ((a0.Filter).Types),Aa ((a0.Filter).NotTypes),Aa ((a0.Filter).Colors),Aa ((a0.Filter).NotColors),.str ((a0.Filter).Sub),Aa ((a0.Filter).Keys),Aa ((a0.Filter).Tap),Aa (((a0.Filter).Power).Kind),Aa (((a0.Filter).Power).N),Aa (((a0.Filter).Tough).Kind),Aa (((a0.Filter).Tough).N),Aa (((a0.Filter).Value).Kind),Aa (((a0.Filter).Value).N),.osl [7],Aa (((a0.Price).Mana).Generic),Aa (((a0.Price).Mana).X),Aa ((((a0.Price).Mana).Color).x0),Aa ((((a0.Price).Mana).Color).x1),Aa ((((a0.Price).Mana).Color).x2),Aa ((((a0.Price).Mana).Color).x3),Aa ((((a0.Price).Mana).Color).x4),.bool ((a0.Price).Tap),.bool ((a0.Price).Sacrifice),Aa ((a0.Price).Life),.bool a0.Slow,Aa ((a0.Trigger).When),Aa ((a0.Trigger).Who),Aa (((a0.Trigger).Filter).Zone),Aa (((a0.Trigger).Filter).Who),Aa (((a0.Trigger).Filter).Self),Aa (((a0.Trigger).Filter).Types),Aa (((a0.Trigger).Filter).NotTypes),Aa (((a0.Trigger).Filter).Colors),Aa (((a0.Trigger).Filter).NotColors),.str (((a0.Trigger).Filter).Sub),Aa (((a0.Trigger).Filter).Keys),Aa (((a0.Trigger).Filter).Tap),Aa ((((a0.Trigger).Filter).Power).Kind),Aa ((((a0.Trigger).Filter).Power).N),Aa ((((a0.Trigger).Filter).Tough).Kind),Aa ((((a0.Trigger).Filter).Tough).N),Aa ((((a0.Trigger).Filter).Value).Kind),Aa ((((a0.Trigger).Filter).Value).N),.bool a0.May,.osl [12],.osl [1049,3],Aa ((a0.Replace).On),Aa ((a0.Replace).Who),Aa (((a0.Replace).Filter).Zone),Aa (((a0.Replace).Filter).Who),Aa (((a0.Replace).Filter).Self),Aa (((a0.Replace).Filter).Types),Aa (((a0.Replace).Filter).NotTypes),Aa (((a0.Replace).Filter).Colors),Aa (((a0.Replace).Filter).NotColors),.str (((a0.Replace).Filter).Sub),Aa (((a0.Replace).Filter).Keys),Aa (((a0.Replace).Filter).Tap),Aa ((((a0.Replace).Filter).Power).Kind),Aa ((((a0.Replace).Filter).Power).N),Aa ((((a0.Replace).Filter).Tough).Kind),Aa ((((a0.Replace).Filter).Tough).N),Aa ((((a0.Replace).Filter).Value).Kind),Aa ((((a0.Replace).Filter).Value).N),Aa ((a0.Replace).Do),Aa ((a0.Replace).N),Aa ((a0.Replace).Zone),Aa ((a0.Replace).Counter)],bx [2] [Aa 0,Aa 0,Aa 0,Aa 0,Aa 0,Aa 0,Aa 0,Aa 0,.str ([]),Aa 0,Aa 0,Aa 0,Aa 0,Aa 0,Aa 0,Aa 0,Aa 0,.nils,Aa 0,Aa 0,Aa (((⟨0,0,0,0,0⟩:A5 (Int))).x0),Aa (((⟨0,0,0,0,0⟩:A5 (Int))).x1),Aa (((⟨0,0,0,0,0⟩:A5 (Int))).x2),Aa (((⟨0,0,0,0,0⟩:A5 (Int))).x3),Aa (((⟨0,0,0,0,0⟩:A5 (Int))).x4),.bool false,.bool false,Aa 0,.bool false,Aa 0,Aa 0,Aa 0,Aa 0,Aa 0,Aa 0,Aa 0,Aa 0,Aa 0,.str ([]),Aa 0,Aa 0,Aa 0,Aa 0,Aa 0,Aa 0,Aa 0,Aa 0,.bool false,.nils,.nils,Aa 0,Aa 0,Aa 0,Aa 0,Aa 0,Aa 0,Aa 0,Aa 0,Aa 0,.str ([]),Aa 0,Aa 0,Aa 0,Aa 0,Aa 0,Aa 0,Aa 0,Aa 0,Aa 0,Aa 0,Aa 0,Aa 0],bx [1] (Ao a0)])<|Gj (X:=(List (Bc))) (fun v=>(uo [1] [] [.e (LC [1049,3] 129 64 AW v),.k 1,.k 2,.k 3,.k 4])) (fun v=>D9 a0 l1 l2 v=some r) ?_ ?_
 ·refine Gg [.a] (u [] [(4,vI 0)]) (aN)<|hB ?_
  obtain⟨n1,d1,h⟩:=bS h
  refine Gi (fun(v:Int×(List (Bc)))=>(uo [] [(4,vI v.1)] [.e (LC [1049,3] 129 64 AW v.2),.k 1,.k 2,.k 3,.k 4,.k 5])) d1 (wT) ?_
  rintro⟨k0,m0⟩ m1 j0 i1
  replace j0:B5 a0 k0 m0=some m1:=j0
  unfold B5 at j0
  refine hS<|Gg (nA 5) (u [] [(22,vB (decide (k0<(a0.Effects.length:Int))))]) (aN)<|iC j0 (fun j0=>?_) (fun j0=>?_)
  ·refine hK<|Tn<|hS<|hB ?_
   obtain⟨i0,t0,j0⟩:=bS j0
   refine Rg [.a,.a,.a,.a,(.v (vA AW i0)),.a,.a] (sl 42 [(1,vP [1] (0)),(2,vP [2] (0)),(3,vP [3] (0)),(4,vI k0),(5,vP [5] (0))] [bx [5] (AW i0),LC [1049,3] 129 64 AW m0,LC [12] 42 18 Aq l2,LC [7] 147 20 Bz l1,bx [3] [Aa a0.Kind,Aa ((a0.Filter).Zone),Aa ((a0.Filter).Who),Aa ((a0.Filter).Self),Aa ((a0.Filter).Types),Aa ((a0.Filter).NotTypes),Aa ((a0.Filter).Colors),Aa ((a0.Filter).NotColors),.str ((a0.Filter).Sub),Aa ((a0.Filter).Keys),Aa ((a0.Filter).Tap),Aa (((a0.Filter).Power).Kind),Aa (((a0.Filter).Power).N),Aa (((a0.Filter).Tough).Kind),Aa (((a0.Filter).Tough).N),Aa (((a0.Filter).Value).Kind),Aa (((a0.Filter).Value).N),.osl [7],Aa (((a0.Price).Mana).Generic),Aa (((a0.Price).Mana).X),Aa ((((a0.Price).Mana).Color).x0),Aa ((((a0.Price).Mana).Color).x1),Aa ((((a0.Price).Mana).Color).x2),Aa ((((a0.Price).Mana).Color).x3),Aa ((((a0.Price).Mana).Color).x4),.bool ((a0.Price).Tap),.bool ((a0.Price).Sacrifice),Aa ((a0.Price).Life),.bool a0.Slow,Aa ((a0.Trigger).When),Aa ((a0.Trigger).Who),Aa (((a0.Trigger).Filter).Zone),Aa (((a0.Trigger).Filter).Who),Aa (((a0.Trigger).Filter).Self),Aa (((a0.Trigger).Filter).Types),Aa (((a0.Trigger).Filter).NotTypes),Aa (((a0.Trigger).Filter).Colors),Aa (((a0.Trigger).Filter).NotColors),.str (((a0.Trigger).Filter).Sub),Aa (((a0.Trigger).Filter).Keys),Aa (((a0.Trigger).Filter).Tap),Aa ((((a0.Trigger).Filter).Power).Kind),Aa ((((a0.Trigger).Filter).Power).N),Aa ((((a0.Trigger).Filter).Tough).Kind),Aa ((((a0.Trigger).Filter).Tough).N),Aa ((((a0.Trigger).Filter).Value).Kind),Aa ((((a0.Trigger).Filter).Value).N),.bool a0.May,.osl [12],.osl [1049,3],Aa ((a0.Replace).On),Aa ((a0.Replace).Who),Aa (((a0.Replace).Filter).Zone),Aa (((a0.Replace).Filter).Who),Aa (((a0.Replace).Filter).Self),Aa (((a0.Replace).Filter).Types),Aa (((a0.Replace).Filter).NotTypes),Aa (((a0.Replace).Filter).Colors),Aa (((a0.Replace).Filter).NotColors),.str (((a0.Replace).Filter).Sub),Aa (((a0.Replace).Filter).Keys),Aa (((a0.Replace).Filter).Tap),Aa ((((a0.Replace).Filter).Power).Kind),Aa ((((a0.Replace).Filter).Power).N),Aa ((((a0.Replace).Filter).Tough).Kind),Aa ((((a0.Replace).Filter).Tough).N),Aa ((((a0.Replace).Filter).Value).Kind),Aa ((((a0.Replace).Filter).Value).N),Aa ((a0.Replace).Do),Aa ((a0.Replace).N),Aa ((a0.Replace).Zone),Aa ((a0.Replace).Counter)],bx [2] [Aa 0,Aa 0,Aa 0,Aa 0,Aa 0,Aa 0,Aa 0,Aa 0,.str ([]),Aa 0,Aa 0,Aa 0,Aa 0,Aa 0,Aa 0,Aa 0,Aa 0,.nils,Aa 0,Aa 0,Aa (((⟨0,0,0,0,0⟩:A5 (Int))).x0),Aa (((⟨0,0,0,0,0⟩:A5 (Int))).x1),Aa (((⟨0,0,0,0,0⟩:A5 (Int))).x2),Aa (((⟨0,0,0,0,0⟩:A5 (Int))).x3),Aa (((⟨0,0,0,0,0⟩:A5 (Int))).x4),.bool false,.bool false,Aa 0,.bool false,Aa 0,Aa 0,Aa 0,Aa 0,Aa 0,Aa 0,Aa 0,Aa 0,Aa 0,.str ([]),Aa 0,Aa 0,Aa 0,Aa 0,Aa 0,Aa 0,Aa 0,Aa 0,.bool false,.nils,.nils,Aa 0,Aa 0,Aa 0,Aa 0,Aa 0,Aa 0,Aa 0,Aa 0,Aa 0,.str ([]),Aa 0,Aa 0,Aa 0,Aa 0,Aa 0,Aa 0,Aa 0,Aa 0,Aa 0,Aa 0,Aa 0,Aa 0],bx [1] (Ao a0)]) (aC (Fh t0)<|aC (oa t0 YB 0 64 true (vA AW i0))<|aC (Eq.refl (vA AW i0))<|aN) ?_
   obtain⟨o0,y0,j0⟩:=bS j0
   refine Gg [.a,.a,.a,(.e o0.length (o0.flatMap (Bz))),.a,.a] (uo [] [] [.e (LC [30] 147 20 Bz o0),.e (bx [5] [Aa i0.Op,Aa ((i0.Ref).Kind),Aa ((i0.Ref).N),Aa (((i0.Ref).Filter).Zone),Aa (((i0.Ref).Filter).Who),Aa (((i0.Ref).Filter).Self),Aa (((i0.Ref).Filter).Types),Aa (((i0.Ref).Filter).NotTypes),Aa (((i0.Ref).Filter).Colors),Aa (((i0.Ref).Filter).NotColors),.str (((i0.Ref).Filter).Sub),Aa (((i0.Ref).Filter).Keys),Aa (((i0.Ref).Filter).Tap),Aa ((((i0.Ref).Filter).Power).Kind),Aa ((((i0.Ref).Filter).Power).N),Aa ((((i0.Ref).Filter).Tough).Kind),Aa ((((i0.Ref).Filter).Tough).N),Aa ((((i0.Ref).Filter).Value).Kind),Aa ((((i0.Ref).Filter).Value).N),Aa ((i0.Amount).Kind),Aa ((i0.Amount).N),Aa ((i0.Amount).Counter),Aa (((i0.Amount).Filter).Zone),Aa (((i0.Amount).Filter).Who),Aa (((i0.Amount).Filter).Self),Aa (((i0.Amount).Filter).Types),Aa (((i0.Amount).Filter).NotTypes),Aa (((i0.Amount).Filter).Colors),Aa (((i0.Amount).Filter).NotColors),.str (((i0.Amount).Filter).Sub),Aa (((i0.Amount).Filter).Keys),Aa (((i0.Amount).Filter).Tap),Aa ((((i0.Amount).Filter).Power).Kind),Aa ((((i0.Amount).Filter).Power).N),Aa ((((i0.Amount).Filter).Tough).Kind),Aa ((((i0.Amount).Filter).Tough).N),Aa ((((i0.Amount).Filter).Value).Kind),Aa ((((i0.Amount).Filter).Value).N),Aa i0.Counter,Aa i0.Zone,.str i0.Card,Aa ((i0.Filter).Zone),Aa ((i0.Filter).Who),Aa ((i0.Filter).Self),Aa ((i0.Filter).Types),Aa ((i0.Filter).NotTypes),Aa ((i0.Filter).Colors),Aa ((i0.Filter).NotColors),.str ((i0.Filter).Sub),Aa ((i0.Filter).Keys),Aa ((i0.Filter).Tap),Aa (((i0.Filter).Power).Kind),Aa (((i0.Filter).Power).N),Aa (((i0.Filter).Tough).Kind),Aa (((i0.Filter).Tough).N),Aa (((i0.Filter).Value).Kind),Aa (((i0.Filter).Value).N),Aa ((i0.Pool).x0),Aa ((i0.Pool).x1),Aa ((i0.Pool).x2),Aa ((i0.Pool).x3),Aa ((i0.Pool).x4),Aa ((i0.Pool).x5),.osl [30]]),.k 1,.k 2,.k 3,.k 4,.k 5,.k 6]) (aC (show (i0.Mods.flatMap (Bz)).length =i0.Mods.length*20 from(BO (enc:=Bz) (n:=20) ZK _))<|aC (mB y0 Bz)<|aC (KS y0)<|aN)<|Fz [[30]] (sl 42 [(1,vP [1] (0)),(2,vP [2] (0)),(3,vP [3] (0)),(4,vI k0),(5,vP [5] (0))] [bx [5] [Aa i0.Op,Aa ((i0.Ref).Kind),Aa ((i0.Ref).N),Aa (((i0.Ref).Filter).Zone),Aa (((i0.Ref).Filter).Who),Aa (((i0.Ref).Filter).Self),Aa (((i0.Ref).Filter).Types),Aa (((i0.Ref).Filter).NotTypes),Aa (((i0.Ref).Filter).Colors),Aa (((i0.Ref).Filter).NotColors),.str (((i0.Ref).Filter).Sub),Aa (((i0.Ref).Filter).Keys),Aa (((i0.Ref).Filter).Tap),Aa ((((i0.Ref).Filter).Power).Kind),Aa ((((i0.Ref).Filter).Power).N),Aa ((((i0.Ref).Filter).Tough).Kind),Aa ((((i0.Ref).Filter).Tough).N),Aa ((((i0.Ref).Filter).Value).Kind),Aa ((((i0.Ref).Filter).Value).N),Aa ((i0.Amount).Kind),Aa ((i0.Amount).N),Aa ((i0.Amount).Counter),Aa (((i0.Amount).Filter).Zone),Aa (((i0.Amount).Filter).Who),Aa (((i0.Amount).Filter).Self),Aa (((i0.Amount).Filter).Types),Aa (((i0.Amount).Filter).NotTypes),Aa (((i0.Amount).Filter).Colors),Aa (((i0.Amount).Filter).NotColors),.str (((i0.Amount).Filter).Sub),Aa (((i0.Amount).Filter).Keys),Aa (((i0.Amount).Filter).Tap),Aa ((((i0.Amount).Filter).Power).Kind),Aa ((((i0.Amount).Filter).Power).N),Aa ((((i0.Amount).Filter).Tough).Kind),Aa ((((i0.Amount).Filter).Tough).N),Aa ((((i0.Amount).Filter).Value).Kind),Aa ((((i0.Amount).Filter).Value).N),Aa i0.Counter,Aa i0.Zone,.str i0.Card,Aa ((i0.Filter).Zone),Aa ((i0.Filter).Who),Aa ((i0.Filter).Self),Aa ((i0.Filter).Types),Aa ((i0.Filter).NotTypes),Aa ((i0.Filter).Colors),Aa ((i0.Filter).NotColors),.str ((i0.Filter).Sub),Aa ((i0.Filter).Keys),Aa ((i0.Filter).Tap),Aa (((i0.Filter).Power).Kind),Aa (((i0.Filter).Power).N),Aa (((i0.Filter).Tough).Kind),Aa (((i0.Filter).Tough).N),Aa (((i0.Filter).Value).Kind),Aa (((i0.Filter).Value).N),Aa ((i0.Pool).x0),Aa ((i0.Pool).x1),Aa ((i0.Pool).x2),Aa ((i0.Pool).x3),Aa ((i0.Pool).x4),Aa ((i0.Pool).x5),.sl o0.length (o0.flatMap (Bz))],LC [1049,3] 129 64 AW m0,LC [12] 42 18 Aq l2,LC [7] 147 20 Bz l1,bx [3] [Aa a0.Kind,Aa ((a0.Filter).Zone),Aa ((a0.Filter).Who),Aa ((a0.Filter).Self),Aa ((a0.Filter).Types),Aa ((a0.Filter).NotTypes),Aa ((a0.Filter).Colors),Aa ((a0.Filter).NotColors),.str ((a0.Filter).Sub),Aa ((a0.Filter).Keys),Aa ((a0.Filter).Tap),Aa (((a0.Filter).Power).Kind),Aa (((a0.Filter).Power).N),Aa (((a0.Filter).Tough).Kind),Aa (((a0.Filter).Tough).N),Aa (((a0.Filter).Value).Kind),Aa (((a0.Filter).Value).N),.osl [7],Aa (((a0.Price).Mana).Generic),Aa (((a0.Price).Mana).X),Aa ((((a0.Price).Mana).Color).x0),Aa ((((a0.Price).Mana).Color).x1),Aa ((((a0.Price).Mana).Color).x2),Aa ((((a0.Price).Mana).Color).x3),Aa ((((a0.Price).Mana).Color).x4),.bool ((a0.Price).Tap),.bool ((a0.Price).Sacrifice),Aa ((a0.Price).Life),.bool a0.Slow,Aa ((a0.Trigger).When),Aa ((a0.Trigger).Who),Aa (((a0.Trigger).Filter).Zone),Aa (((a0.Trigger).Filter).Who),Aa (((a0.Trigger).Filter).Self),Aa (((a0.Trigger).Filter).Types),Aa (((a0.Trigger).Filter).NotTypes),Aa (((a0.Trigger).Filter).Colors),Aa (((a0.Trigger).Filter).NotColors),.str (((a0.Trigger).Filter).Sub),Aa (((a0.Trigger).Filter).Keys),Aa (((a0.Trigger).Filter).Tap),Aa ((((a0.Trigger).Filter).Power).Kind),Aa ((((a0.Trigger).Filter).Power).N),Aa ((((a0.Trigger).Filter).Tough).Kind),Aa ((((a0.Trigger).Filter).Tough).N),Aa ((((a0.Trigger).Filter).Value).Kind),Aa ((((a0.Trigger).Filter).Value).N),.bool a0.May,.osl [12],.osl [1049,3],Aa ((a0.Replace).On),Aa ((a0.Replace).Who),Aa (((a0.Replace).Filter).Zone),Aa (((a0.Replace).Filter).Who),Aa (((a0.Replace).Filter).Self),Aa (((a0.Replace).Filter).Types),Aa (((a0.Replace).Filter).NotTypes),Aa (((a0.Replace).Filter).Colors),Aa (((a0.Replace).Filter).NotColors),.str (((a0.Replace).Filter).Sub),Aa (((a0.Replace).Filter).Keys),Aa (((a0.Replace).Filter).Tap),Aa ((((a0.Replace).Filter).Power).Kind),Aa ((((a0.Replace).Filter).Power).N),Aa ((((a0.Replace).Filter).Tough).Kind),Aa ((((a0.Replace).Filter).Tough).N),Aa ((((a0.Replace).Filter).Value).Kind),Aa ((((a0.Replace).Filter).Value).N),Aa ((a0.Replace).Do),Aa ((a0.Replace).N),Aa ((a0.Replace).Zone),Aa ((a0.Replace).Counter)],bx [2] [Aa 0,Aa 0,Aa 0,Aa 0,Aa 0,Aa 0,Aa 0,Aa 0,.str ([]),Aa 0,Aa 0,Aa 0,Aa 0,Aa 0,Aa 0,Aa 0,Aa 0,.nils,Aa 0,Aa 0,Aa (((⟨0,0,0,0,0⟩:A5 (Int))).x0),Aa (((⟨0,0,0,0,0⟩:A5 (Int))).x1),Aa (((⟨0,0,0,0,0⟩:A5 (Int))).x2),Aa (((⟨0,0,0,0,0⟩:A5 (Int))).x3),Aa (((⟨0,0,0,0,0⟩:A5 (Int))).x4),.bool false,.bool false,Aa 0,.bool false,Aa 0,Aa 0,Aa 0,Aa 0,Aa 0,Aa 0,Aa 0,Aa 0,Aa 0,.str ([]),Aa 0,Aa 0,Aa 0,Aa 0,Aa 0,Aa 0,Aa 0,Aa 0,.bool false,.nils,.nils,Aa 0,Aa 0,Aa 0,Aa 0,Aa 0,Aa 0,Aa 0,Aa 0,Aa 0,.str ([]),Aa 0,Aa 0,Aa 0,Aa 0,Aa 0,Aa 0,Aa 0,Aa 0,Aa 0,Aa 0,Aa 0,Aa 0],bx [1] (Ao a0)]) ?_
   obtain⟨q0,z0,j0⟩:=bS j0
   refine Ge [.a,.a,.a,.a,(.e q0.length (q0.flatMap (AW))),.a,.a] (uo [] [(35,vP [3] (49)),(37,.agg [Aa i0.Op,Aa ((i0.Ref).Kind),Aa ((i0.Ref).N),Aa (((i0.Ref).Filter).Zone),Aa (((i0.Ref).Filter).Who),Aa (((i0.Ref).Filter).Self),Aa (((i0.Ref).Filter).Types),Aa (((i0.Ref).Filter).NotTypes),Aa (((i0.Ref).Filter).Colors),Aa (((i0.Ref).Filter).NotColors),.str (((i0.Ref).Filter).Sub),Aa (((i0.Ref).Filter).Keys),Aa (((i0.Ref).Filter).Tap),Aa ((((i0.Ref).Filter).Power).Kind),Aa ((((i0.Ref).Filter).Power).N),Aa ((((i0.Ref).Filter).Tough).Kind),Aa ((((i0.Ref).Filter).Tough).N),Aa ((((i0.Ref).Filter).Value).Kind),Aa ((((i0.Ref).Filter).Value).N),Aa ((i0.Amount).Kind),Aa ((i0.Amount).N),Aa ((i0.Amount).Counter),Aa (((i0.Amount).Filter).Zone),Aa (((i0.Amount).Filter).Who),Aa (((i0.Amount).Filter).Self),Aa (((i0.Amount).Filter).Types),Aa (((i0.Amount).Filter).NotTypes),Aa (((i0.Amount).Filter).Colors),Aa (((i0.Amount).Filter).NotColors),.str (((i0.Amount).Filter).Sub),Aa (((i0.Amount).Filter).Keys),Aa (((i0.Amount).Filter).Tap),Aa ((((i0.Amount).Filter).Power).Kind),Aa ((((i0.Amount).Filter).Power).N),Aa ((((i0.Amount).Filter).Tough).Kind),Aa ((((i0.Amount).Filter).Tough).N),Aa ((((i0.Amount).Filter).Value).Kind),Aa ((((i0.Amount).Filter).Value).N),Aa i0.Counter,Aa i0.Zone,.str i0.Card,Aa ((i0.Filter).Zone),Aa ((i0.Filter).Who),Aa ((i0.Filter).Self),Aa ((i0.Filter).Types),Aa ((i0.Filter).NotTypes),Aa ((i0.Filter).Colors),Aa ((i0.Filter).NotColors),.str ((i0.Filter).Sub),Aa ((i0.Filter).Keys),Aa ((i0.Filter).Tap),Aa (((i0.Filter).Power).Kind),Aa (((i0.Filter).Power).N),Aa (((i0.Filter).Tough).Kind),Aa (((i0.Filter).Tough).N),Aa (((i0.Filter).Value).Kind),Aa (((i0.Filter).Value).N),Aa ((i0.Pool).x0),Aa ((i0.Pool).x1),Aa ((i0.Pool).x2),Aa ((i0.Pool).x3),Aa ((i0.Pool).x4),Aa ((i0.Pool).x5),.sl o0.length (o0.flatMap (Bz))]),(38,vO [38]),(39,vO [1049,3]),(40,vP [3] (49))] [.e (LC [1049,3] 129 64 AW q0),.e (LC [38] 129 64 AW ([(⟨i0.Op,i0.Ref,i0.Amount,i0.Counter,i0.Zone,i0.Card,i0.Filter,i0.Pool,o0⟩:Bc)]:List (Bc))),.k 0,.k 2,.k 3,.k 4,.k 5,.k 6]) (aC (mB z0 AW)<|aC (KS z0)<|aN)<|qN<|Tn<|Ge (nA 3) (u [] [(4,vI (A3 (k0+1))),(23,vI k0),(24,vI (A3 (k0+1)))]) (aN)<|Tn ⟨((A3 (k0+1)),q0),(sI j0).symm,wT⟩
  refine hE<|Te ?_
  obtain rfl:=i1 _ (sI j0).symm
  refine Te<|qX<|Tn ⟨m0,h,wT⟩
 rintro n0 p0
 replace p0:D9 a0 l1 l2 n0=some r:=p0
 unfold D9 at p0
 exact Gg [.a,.a] (uo [3] [] [.k 0,.k 1,.k 2,.e (bx [2] [Aa a0.Kind,Aa ((a0.Filter).Zone),Aa ((a0.Filter).Who),Aa ((a0.Filter).Self),Aa ((a0.Filter).Types),Aa ((a0.Filter).NotTypes),Aa ((a0.Filter).Colors),Aa ((a0.Filter).NotColors),.str ((a0.Filter).Sub),Aa ((a0.Filter).Keys),Aa ((a0.Filter).Tap),Aa (((a0.Filter).Power).Kind),Aa (((a0.Filter).Power).N),Aa (((a0.Filter).Tough).Kind),Aa (((a0.Filter).Tough).N),Aa (((a0.Filter).Value).Kind),Aa (((a0.Filter).Value).N),.osl [7],Aa (((a0.Price).Mana).Generic),Aa (((a0.Price).Mana).X),Aa ((((a0.Price).Mana).Color).x0),Aa ((((a0.Price).Mana).Color).x1),Aa ((((a0.Price).Mana).Color).x2),Aa ((((a0.Price).Mana).Color).x3),Aa ((((a0.Price).Mana).Color).x4),.bool ((a0.Price).Tap),.bool ((a0.Price).Sacrifice),Aa ((a0.Price).Life),.bool a0.Slow,Aa ((a0.Trigger).When),Aa ((a0.Trigger).Who),Aa (((a0.Trigger).Filter).Zone),Aa (((a0.Trigger).Filter).Who),Aa (((a0.Trigger).Filter).Self),Aa (((a0.Trigger).Filter).Types),Aa (((a0.Trigger).Filter).NotTypes),Aa (((a0.Trigger).Filter).Colors),Aa (((a0.Trigger).Filter).NotColors),.str (((a0.Trigger).Filter).Sub),Aa (((a0.Trigger).Filter).Keys),Aa (((a0.Trigger).Filter).Tap),Aa ((((a0.Trigger).Filter).Power).Kind),Aa ((((a0.Trigger).Filter).Power).N),Aa ((((a0.Trigger).Filter).Tough).Kind),Aa ((((a0.Trigger).Filter).Tough).N),Aa ((((a0.Trigger).Filter).Value).Kind),Aa ((((a0.Trigger).Filter).Value).N),.bool a0.May,.osl [12],.osl [1049,3],Aa ((a0.Replace).On),Aa ((a0.Replace).Who),Aa (((a0.Replace).Filter).Zone),Aa (((a0.Replace).Filter).Who),Aa (((a0.Replace).Filter).Self),Aa (((a0.Replace).Filter).Types),Aa (((a0.Replace).Filter).NotTypes),Aa (((a0.Replace).Filter).Colors),Aa (((a0.Replace).Filter).NotColors),.str (((a0.Replace).Filter).Sub),Aa (((a0.Replace).Filter).Keys),Aa (((a0.Replace).Filter).Tap),Aa ((((a0.Replace).Filter).Power).Kind),Aa ((((a0.Replace).Filter).Power).N),Aa ((((a0.Replace).Filter).Tough).Kind),Aa ((((a0.Replace).Filter).Tough).N),Aa ((((a0.Replace).Filter).Value).Kind),Aa ((((a0.Replace).Filter).Value).N),Aa ((a0.Replace).Do),Aa ((a0.Replace).N),Aa ((a0.Replace).Zone),Aa ((a0.Replace).Counter)])]) (aN)<|hR<|bE (.agg [Aa a0.Kind,Aa ((a0.Filter).Zone),Aa ((a0.Filter).Who),Aa ((a0.Filter).Self),Aa ((a0.Filter).Types),Aa ((a0.Filter).NotTypes),Aa ((a0.Filter).Colors),Aa ((a0.Filter).NotColors),.str ((a0.Filter).Sub),Aa ((a0.Filter).Keys),Aa ((a0.Filter).Tap),Aa (((a0.Filter).Power).Kind),Aa (((a0.Filter).Power).N),Aa (((a0.Filter).Tough).Kind),Aa (((a0.Filter).Tough).N),Aa (((a0.Filter).Value).Kind),Aa (((a0.Filter).Value).N),.osl [7],Aa (((a0.Price).Mana).Generic),Aa (((a0.Price).Mana).X),Aa ((((a0.Price).Mana).Color).x0),Aa ((((a0.Price).Mana).Color).x1),Aa ((((a0.Price).Mana).Color).x2),Aa ((((a0.Price).Mana).Color).x3),Aa ((((a0.Price).Mana).Color).x4),.bool ((a0.Price).Tap),.bool ((a0.Price).Sacrifice),Aa ((a0.Price).Life),.bool a0.Slow,Aa ((a0.Trigger).When),Aa ((a0.Trigger).Who),Aa (((a0.Trigger).Filter).Zone),Aa (((a0.Trigger).Filter).Who),Aa (((a0.Trigger).Filter).Self),Aa (((a0.Trigger).Filter).Types),Aa (((a0.Trigger).Filter).NotTypes),Aa (((a0.Trigger).Filter).Colors),Aa (((a0.Trigger).Filter).NotColors),.str (((a0.Trigger).Filter).Sub),Aa (((a0.Trigger).Filter).Keys),Aa (((a0.Trigger).Filter).Tap),Aa ((((a0.Trigger).Filter).Power).Kind),Aa ((((a0.Trigger).Filter).Power).N),Aa ((((a0.Trigger).Filter).Tough).Kind),Aa ((((a0.Trigger).Filter).Tough).N),Aa ((((a0.Trigger).Filter).Value).Kind),Aa ((((a0.Trigger).Filter).Value).N),.bool a0.May,.osl [12],.osl [1049,3],Aa ((a0.Replace).On),Aa ((a0.Replace).Who),Aa (((a0.Replace).Filter).Zone),Aa (((a0.Replace).Filter).Who),Aa (((a0.Replace).Filter).Self),Aa (((a0.Replace).Filter).Types),Aa (((a0.Replace).Filter).NotTypes),Aa (((a0.Replace).Filter).Colors),Aa (((a0.Replace).Filter).NotColors),.str (((a0.Replace).Filter).Sub),Aa (((a0.Replace).Filter).Keys),Aa (((a0.Replace).Filter).Tap),Aa ((((a0.Replace).Filter).Power).Kind),Aa ((((a0.Replace).Filter).Power).N),Aa ((((a0.Replace).Filter).Tough).Kind),Aa ((((a0.Replace).Filter).Tough).N),Aa ((((a0.Replace).Filter).Value).Kind),Aa ((((a0.Replace).Filter).Value).N),Aa ((a0.Replace).Do),Aa ((a0.Replace).N),Aa ((a0.Replace).Zone),Aa ((a0.Replace).Counter)]) (.agg (Ao (⟨a0.Kind,a0.Filter,l1,a0.Price,a0.Slow,a0.Trigger,a0.May,l2,n0,a0.Replace⟩:Ar))) (congrArg (vA Ao) (sI p0))
def QW:Option (Ar):=
 some (⟨0,(⟨0,0,0,0,0,0,0,[],0,0,(⟨0,0⟩:Bw),(⟨0,0⟩:Bw),(⟨0,0⟩:Bw)⟩:BW),([]:List (Lw)),(⟨(⟨0,0,(⟨0,0,0,0,0⟩:A5 (Int))⟩:Eg),false,false,0⟩:MA),false,(⟨0,0,(⟨0,0,0,0,0,0,0,[],0,0,(⟨0,0⟩:Bw),(⟨0,0⟩:Bw),(⟨0,0⟩:Bw)⟩:BW)⟩:Hk),false,([]:List (BT)),([]:List (Bc)),(⟨0,0,(⟨0,0,0,0,0,0,0,[],0,0,(⟨0,0⟩:Bw),(⟨0,0⟩:Bw),(⟨0,0⟩:Bw)⟩:BW),0,0,0,0⟩:Hm)⟩:Ar)
def Di (a0:Bq) (vt8_3:Int):Option ((Int)⊕(Unit⊕Ar)):=
 (if(decide (vt8_3<(a0.Abilities.length:Int)))=true then
  (Gk a0.Abilities vt8_3).bind fun e7=>
  (if(e7.Kind==2)=true then
   some (.inr (.inr e7))
  else
   some (.inl (A3 (vt8_3+1))))
 else
  some (.inr (.inl ())))
def ED (a0:Bq):Option (Ar):=
 jn (fun(v:Unit)=>QW) (fun jJ1=>
 (iter (fun(v:Int)=>Di a0 v) FU (0:Int)).bind (Sum.elim (fun o0=>jJ1 ()) (fun o1=>some o1)))
def UG:mN:=mC [] 16 Tryz.f16 (.s .n (.j ⟨[2],[],[[2]],[]⟩ (.s .n (.l ⟨[2,6,7],[pV 8],[[2]],[]⟩ [(1,⟨[2],[],[[2]],[]⟩),(0,⟨[2],[],[],[([2], .box [.v (.s 75)])]⟩)] .n)) .n)) [.s 33] [.s 75] (fun x=>ED x.1) Tryz.func16 (by kernel_rfl)
def AM (a0:List (BT)):Option (List (BT)):=if a0.length*144≤140737488355328∧a0.length≤maxLen then some a0 else none
theorem Dz {a0 r:List (BT)} (h:AM a0=some r):GI Tryz.prog I0 15 [vL (Aq) a0] 42 18 (fun len cs=>len=r.length∧cs=r.flatMap (Aq)):=by
 refine GI.of (t:=2) (m:=8) DQ (by kernel_rfl) Tryz.func15 rfl rfl Tryz.ntmps15 ?_
 intro w0 av old gv
 unfold AM at h
 split at h
 ·rename_i hb
  injection h with h;subst h
  refine Rg [.a] (sl 8 [(0,vL (Aq) a0)] []) (aN) ?_
  refine Ah.seq ?_
  refine Ah.seq ?_
  refine Ah.region ?_
  refine Rp 1 [.a] (sl 8 [(0,vL (Aq) a0),(3,vL (Aq) a0)] []) (aN) ?_
  refine Run.inl rfl rfl (Dk.nilq (len:=a0.length) (cs:=a0.flatMap (Aq)) rfl (fun b hbn=>?_))
  refine Rw [] (sl 8 [(0,vL (Aq) a0),(3,vL (Aq) a0),(4,vB b)] []) (aN) ?_
  refine Tn ?_
  refine Ah.ifB b (by kernel_rfl) (fun hb1=>?_) (fun hb1=>?_)
  ·have h0:a0=[]:=List.length_eq_zero_iff.1 (hbn hb1)
   refine Rg [.a] (sl 8 [(2, .c (.osl [2]))] [LC [2] 42 18 (Aq) ([]:List (BT))]) (aN) ?_
   refine Ah.ret ?_
   refine Tr ?_
   exact⟨.inr rfl, .inl ⟨[2],LC [2] 42 18 (Aq) ([]:List (BT)),0,by kernel_rfl,by kernel_rfl,by kernel_rfl,by kernel_rfl,by rw [h0];exact⟨rfl,rfl⟩⟩⟩
  ·refine Ah.skip ?_
   refine Tn ?_
   have hr:U3 144 ([]:List (BT)) a0=some a0:=by unfold U3;rw [if_pos ⟨by simpa using hb.1,by simpa using hb.2⟩];rfl
   refine Rg [.a, .a,(.e a0.length (a0.flatMap (Aq))), .a] (sl 8 [(2, .c (.osl [5]))] [LC [5] 42 18 (Aq) a0]) (aC (show (a0.flatMap (Aq)).length =a0.length*18 from BO (enc:=Aq) (n:=18) Lx _)<|aC (mB hr (Aq))<|aC (KS hr)<|aN) ?_
   refine Ah.ret ?_
   exact⟨.inr rfl, .inl ⟨[5],LC [5] 42 18 (Aq) a0,a0.length,by kernel_rfl,by kernel_rfl,by kernel_rfl,Cc _ (fun _=>rfl) _,⟨rfl,rfl⟩⟩⟩
 ·cases h
def Ea:CE TE Tryz.prog I0:=pB 15 [.k (.lst 42)] 42 (fun x=>AM x.1) (fun x r h=>lQ (by kernel_rfl) (Dz (r:=r) h))
def UH:Option (Ar):=
 some (⟨0,(⟨0,0,0,0,0,0,0,[],0,0,(⟨0,0⟩:Bw),(⟨0,0⟩:Bw),(⟨0,0⟩:Bw)⟩:BW),([]:List (Lw)),(⟨(⟨0,0,(⟨0,0,0,0,0⟩:A5 (Int))⟩:Eg),false,false,0⟩:MA),false,(⟨0,0,(⟨0,0,0,0,0,0,0,[],0,0,(⟨0,0⟩:Bw),(⟨0,0⟩:Bw),(⟨0,0⟩:Bw)⟩:BW)⟩:Hk),false,([]:List (BT)),([]:List (Bc)),(⟨0,0,(⟨0,0,0,0,0,0,0,[],0,0,(⟨0,0⟩:Bw),(⟨0,0⟩:Bw),(⟨0,0⟩:Bw)⟩:BW),0,0,0,0⟩:Hm)⟩:Ar)
def HT (a0:Bq) (i_t3_3:Int):Option ((Int)⊕(Unit⊕Ar)):=
 (if(decide (i_t3_3<(a0.Abilities.length:Int)))=true then
  (Gk a0.Abilities i_t3_3).bind fun e7=>
  (if(e7.Kind==2)=true then
   (Gk a0.Abilities i_t3_3).bind fun e9=>
   some (.inr (.inr e9))
  else
   some (.inl (A3 (i_t3_3+1))))
 else
  some (.inr (.inl ())))
def I6 (a0:Bq):Option (Ar):=
 jn (fun(v:Unit)=>UH) (fun jJ1=>
 (iter (fun(v:Int)=>HT a0 v) FU (0:Int)).bind (Sum.elim (fun o0=>jJ1 ()) (fun o1=>some o1)))
def WZ:mN:=mC [] 17 Tryz.f17 (.s .n (.j ⟨[2],[],[[2]],[]⟩ (.s .n (.l ⟨[1,2],[pV 3],[[1],[2]],[]⟩ [(1,⟨[2],[],[[2]],[]⟩),(0,⟨[2],[],[],[([2], .box [.v (.s 75)])]⟩)] .n)) .n)) [.s 33] [.s 75] (fun x=>I6 x.1) Tryz.func17 (by kernel_rfl)
end Go.PL
