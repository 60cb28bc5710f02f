/- Functions of the program, as partial functions in Lean, with proofs. -/
import Derived.Test.YtelbpfkjhndccaaGreatDoorPlSbB
namespace Go.PL
open Go Go.RowKit Go.Proofs
set_option maxRecDepth 100000
set_option linter.all false
set_option maxHeartbeats 4000000
attribute [local irreducible] Ai B4 BL
def Kb:Option (Bool):=
 some true
def IQ (a0:Aw) (i_t3_8:Int):Option ((Int)⊕(Unit⊕Unit)):=
 (if(decide (i_t3_8<(a0.Mods.length:Int)))=true then
  (idx a0.Mods i_t3_8).bind fun e11=>
  (gd ((decide (100<(e11.Sub.length:Int)))==false) (idx a0.Mods i_t3_8)).bind fun e12=>
  (some (if(decide (100<(e11.Sub.length:Int)))=true then true else decide (100<(e12.Filter.Sub.length:Int)))).bind fun b13=>
  (if b13=true then
   some (.inr (.inr ()))
  else
   some (.inl (Ab (i_t3_8+1))))
 else
  some (.inr (.inl ())))
def L1 (a0:Aw):Option (Bool):=
 (some (if(decide (100<(a0.Card.length:Int)))=true then true else decide (100<(a0.Ref.Filter.Sub.length:Int)))).bind fun b1=>
 (some (if b1=true then true else decide (100<(a0.Amount.Filter.Sub.length:Int)))).bind fun b2=>
 (some (if b2=true then true else decide (100<(a0.Filter.Sub.length:Int)))).bind fun b3=>
 (some (if b3=true then true else decide (20<(a0.Mods.length:Int)))).bind fun b4=>
 (if b4=true then
  some false
 else
  (iter (fun(v:Int)=>IQ a0 v) FU (0:Int)).bind (Sum.elim (fun o0=>Kb) (fun o1=>some false)))
def YT (a0:Aw) (r:Bool):Prop:=Ah Tryz.prog I0 115 [vA Az a0] (· =vB r)
theorem Xn {a0:Aw} {r:Bool} (h:L1 a0=some r):YT a0 r:=by
 refine Ah.bo Ag Tryz.func115 rfl Tryz.ntmps115 [.tmp 2] fun _ _ _ _=>?_
 unfold L1 at h
 refine Rg [.a,.a] (sl 63 [(1,vP [1] (0))] [bx [1] (Az a0)]) (aN)<|hS ?_
 obtain⟨b1,z0,b2,d1,b3,i1,b4,j1,h⟩:=Ij h
 refine Gg [.a,.a,.a,.a,.a,.a,.a,.a,.a,.a,.a,(.v (vB b1)),.a,.a,.a,.a,.a,.a,.a,(.v (vB b2)),.a,.a,.a,.a,.a,.a,(.v (vB b3)),.a,.a,.a,.a,.a,(.v (vB b4))] (u [] [(36,vB b4)]) (aG ((decide (100<(a0.Card.length:Int)))==false)<|aG ((decide (100<(a0.Card.length:Int)))==false)<|aG ((decide (100<(a0.Card.length:Int)))==false)<|aG ((decide (100<(a0.Card.length:Int)))==false)<|aG ((decide (100<(a0.Card.length:Int)))==false)<|aF (decide (100<(a0.Card.length:Int)))<|aB z0<|aG (b1==false)<|aG (b1==false)<|aG (b1==false)<|aG (b1==false)<|aG (b1==false)<|aF b1<|aB d1<|aG (b2==false)<|aG (b2==false)<|aG (b2==false)<|aG (b2==false)<|aF b2<|aB i1<|aG (b3==false)<|aG (b3==false)<|aG (b3==false)<|aF b3<|aB j1<|aN)<|iC h (fun h=>?_) (fun h=>?_)
 ·exact Rg [.a] (sl 63 [(2,vB false)] []) (aN)<|hR<|Tr<|bQ _ (kB h)
 refine hK<|Tn<|Sj (X:=Unit) (fun v=>(sl 63 [] [])) (fun v=>Kb=some r) ?_ ?_
 ·refine Gg [.a] (u [36] [(3,vI 0)]) (aN)<|hB ?_
  obtain⟨m1,y0,h⟩:=bS h
  refine Gi (fun(v:Int)=>(u [] [(3,vI v)])) y0 (wT) ?_
  rintro k0 k1 i0 q0
  replace i0:IQ a0 k0=some k1:=i0
  unfold IQ at i0
  refine hS<|Gg (nA 5) (u [] [(41,vB (decide (k0<(a0.Mods.length:Int))))]) (aN)<|iC i0 (fun i0=>?_) (fun i0=>?_)
  ·refine hK<|Tn<|hS<|hB ?_
   obtain⟨j0,o0,n0,p0,t0,x0,i0⟩:=M9 i0
   refine Gg [.a,.a,.a,.a,.a,(.v (vS j0.Sub)),.a,.a,.a,.a,.a,.a,.a,.a,.a,(.v (vS n0.Filter.Sub)),.a,.a,(.v (vB t0))] (u [41] [(62,vB t0)]) (aC (Bm o0)<|aC (GN o0 Mo 3 1 false (vS j0.Sub))<|aC (Eq.refl (vS j0.Sub))<|aG ((decide (100<(j0.Sub.length:Int)))==false)<|aC (fun hg:((decide (100<(j0.Sub.length:Int)))==false)=true=>aC (gi ((decide (100<(j0.Sub.length:Int)))==false))<|aC (gi ((decide (100<(j0.Sub.length:Int)))==false))<|aC (OW p0 hg).1<|aN)<|aG ((decide (100<(j0.Sub.length:Int)))==false)<|aG ((decide (100<(j0.Sub.length:Int)))==false)<|aC (fun hg:((decide (100<(j0.Sub.length:Int)))==false)=true=>aC (gi ((decide (100<(j0.Sub.length:Int)))==false))<|aC (GN (M8 p0 hg) Mo 11 1 false (vS n0.Filter.Sub))<|aC (Eq.refl (vS n0.Filter.Sub))<|aN)<|aG ((decide (100<(j0.Sub.length:Int)))==false)<|aG ((decide (100<(j0.Sub.length:Int)))==false)<|aF (decide (100<(j0.Sub.length:Int)))<|aB x0<|aN)<|iC i0 (fun i0=>?_) (fun i0=>?_)
   ·refine Rg [.a] (sl 63 [(2,vB false)] []) (aN)<|hR<|qR<|Tr ?_
    obtain rfl:=q0 _ (sI i0).symm
    replace h:=EL h
    exact Tr<|qR<|Tr<|bQ _ (kB h)
   refine hK<|qN<|Tn<|Ge (nA 3) (u [] [(3,vI (Ab (k0+1))),(42,vI k0),(43,vI (Ab (k0+1)))]) (aN)<|Tn ⟨(Ab (k0+1)),(sI i0).symm,wT⟩
  refine hE<|Te ?_
  obtain rfl:=q0 _ (sI i0).symm
  replace h:=Fa h
  refine Te<|qX<|Tn ⟨(),h,wT⟩
 rintro _ m0
 replace m0:Kb=some r:=m0
 unfold Kb at m0
 exact Rg [.a] (sl 63 [(2,vB true)] []) (aN)<|hR<|bQ _ (kB m0)
def IR (a2:Int) (l14_3:List (Au)) (b8_Active5:Int) (b8_Priority6:Int):Option (Aj):=
 some (⟨l14_3,([]:List (Ao)),([]:List (Int)),([]:List (Int)),([]:List (Bw)),([]:List (AZ)),([]:List (Ci)),0,b8_Active5,0,false,b8_Priority6,0,1,1,a2,([]:List (Int)),0,(-1:Int)⟩:Aj)
def Kc (a0:Int) (a1:Int) (a2:Int) (l14_3:List (Au)):Option (Aj):=
 (some (if(decide (0<a1))=true then decide (a1<(if 4<(if a0<2 then(2:Int)else a0)then(4:Int)else(if a0<2 then(2:Int)else a0)))else false)).bind fun b8=>
 (if b8=true then
  IR a2 l14_3 a1 a1
 else
  IR a2 l14_3 (0:Int) (0:Int))
def LE (l1:List (Au)) (vt20_12:Int) (l14_13:List (Au)):Option ((Int×(List (Au)))⊕((List (Au)))):=
 (if(decide (vt20_12<(l1.length:Int)))=true then
  (idx l14_13 vt20_12).bind fun e17=>
  (some (l14_13.set (vt20_12).toNat ({e17 with Life:=(20:Int)}))).bind fun l18=>
  some (.inl ((Ab (vt20_12+1)),l18))
 else
  some (.inr l14_13))
def QW (a0:Int) (a1:Int) (a2:Int):Option (Aj):=
 (need (0≤(if 4<(if a0<2 then(2:Int)else a0)then(4:Int)else(if a0<2 then(2:Int)else a0))∧(if 4<(if a0<2 then(2:Int)else a0)then(4:Int)else(if a0<2 then(2:Int)else a0))≤(if 4<(if a0<2 then(2:Int)else a0)then(4:Int)else(if a0<2 then(2:Int)else a0))∧(if 4<(if a0<2 then(2:Int)else a0)then(4:Int)else(if a0<2 then(2:Int)else a0))*152≤140737488355328∧(if 4<(if a0<2 then(2:Int)else a0)then(4:Int)else(if a0<2 then(2:Int)else a0))≤maxLen)).bind fun u2=>
 (some (List.replicate ((if 4<(if a0<2 then(2:Int)else a0)then(4:Int)else(if a0<2 then(2:Int)else a0))).toNat (⟨0,0,0,(⟨0,0,0,0,0,0⟩:A6 (Int)),false,false,([]:List (Int)),([]:List (Int)),([]:List (Int))⟩:Au))).bind fun l1=>
 (iter (fun(v:Int×(List (Au)))=>LE l1 v.1 v.2) FU ((0:Int),l1)).bind (fun o0=>Kc a0 a1 a2 o0)
def YU (a0:Int) (a1:Int) (a2:Int) (r:Aj):Prop:=Ah Tryz.prog I0 11 [vI a0,vI a1, .c (.int .u64 a2)] (· =vA Am r)
theorem Xo {a0:Int} {a1:Int} {a2:Int} {r:Aj} (h:QW a0 a1 a2=some r):YU a0 a1 a2 r:=by
 refine Ah.bo Ag Tryz.func11 rfl Tryz.ntmps11 [.cell 6 31] fun _ _ _ _=>?_
 unfold QW at h
 refine Gg [.a] (uo [] [(6,vP [6] (0))] [.e (bx [6] [.nils,.nils,.nils,.nils,.nils,.nils,.nils,Aa 0,Aa 0,Aa 0,.bool false,Aa 0,Aa 0,Aa 0,Aa 0,.int .u64 0,.nils,Aa 0,Aa 0])]) (aN)<|Gg (nA 4) (u [0] [(7,vI (if 4<(if a0<2 then(2:Int)else a0)then(4:Int)else(if a0<2 then(2:Int)else a0)))]) (aC (show (True∧(True∧True))∧True from⟨⟨trivial,⟨trivial,trivial⟩⟩,trivial⟩)<|aC (show (True∧(True∧True))∧True from⟨⟨trivial,⟨trivial,trivial⟩⟩,trivial⟩)<|aN) ?_
 obtain⟨u2,n1,l1,m1,h⟩:=JX h
 refine Gg [.a,(.e l1.length (l1.flatMap Ad)),.a,.a,.a,.a] (uo [2] [(8,vP [8] (0))] [.e (bx [8] [.osl [14],.nils,.nils,.nils,.nils,.nils,.nils,Aa 0,Aa 0,Aa 0,.bool false,Aa 0,Aa 0,Aa 1,Aa 1,.int .u64 a2,.nils,Aa 0,Aa (-1:Int)]),.e (Bl [14] 73 14 Ad l1),.k 0]) (aC (pt m1 Ad)<|aC (GU n1)<|aC (And.intro (show True∧(True∧(True∧(True∧(True∧True))))from⟨trivial,⟨trivial,⟨trivial,⟨trivial,⟨trivial,trivial⟩⟩⟩⟩⟩) jy)<|aN)<|Gj (X:=(List (Au))) (fun v=>(uo [] [] [.k 0,.e (Bl [14] 73 14 Ad v),.k 2])) (fun v=>Kc a0 a1 a2 v=some r) ?_ ?_
 ·refine Gg (nA 4) (u [] [(19,vI (l1.length:Int)),(20,vI 0)]) (aN)<|hB ?_
  obtain⟨o1,z0,h⟩:=bS h
  refine Gi (fun(v:Int×(List (Au)))=>(uo [] [(20,vI v.1)] [.k 0,.e (Bl [14] 73 14 Ad v.2),.k 2])) z0 (wT) ?_
  rintro⟨i0,n0⟩ i1 k0 d1
  replace k0:LE l1 i0 n0=some i1:=k0
  unfold LE at k0
  refine Gg [.a] (u [] [(21,vB (decide (i0<(l1.length:Int))))]) (aN)<|hS<|iC k0 (fun k0=>?_) (fun k0=>?_)
  ·refine hK<|Tn<|hS<|hB<|Gg [.a,.a] (u [21] [(9,vI i0)]) (aN) ?_
   obtain⟨j1,x0,q0,y0,k0⟩:=JX k0
   refine Re [.a,.a,.a,.a,.a,(.e q0.length (q0.flatMap (Ad)))] (sl 41 [(1,vI a1),(6,vP [6] (0)),(7,vI (if 4<(if a0<2 then(2:Int)else a0)then(4:Int)else(if a0<2 then(2:Int)else a0))),(8,vP [8] (0)),(9,vI i0),(19,vI (l1.length:Int)),(20,vI i0),(23,vP [8] (0)),(24,vO [14]),(25,vI i0),(26,vP [14] ((i0).toNat *14)),(27,vP [14] ((i0).toNat *14+0))] [bx [8] [.osl [14],.nils,.nils,.nils,.nils,.nils,.nils,Aa 0,Aa 0,Aa 0,.bool false,Aa 0,Aa 0,Aa 1,Aa 1,.int .u64 a2,.nils,Aa 0,Aa (-1:Int)],Bl [14] 73 14 Ad q0,bx [6] [.nils,.nils,.nils,.nils,.nils,.nils,.nils,Aa 0,Aa 0,Aa 0,.bool false,Aa 0,Aa 0,Aa 0,Aa 0,.int .u64 0,.nils,Aa 0,Aa 0]]) (aC (Bm x0)<|aC (show (i0).toNat *14+0+1≤(n0.flatMap (Ad)).length ∧(n0.flatMap (Ad)).take ((i0).toNat *14+0)++([Aa 20]:List C)++(n0.flatMap (Ad)).drop ((i0).toNat *14+0+([Aa 20]:List C).length)=q0.flatMap (Ad)from(by rw [←sI y0];exact Xc (e:=Ad) (N:=14) (l:=n0) (i:=i0) (x':=({j1 with Life:=(20:Int)})) (o:=0) (base:=0) (cs:=([Aa 20]:List C)) (pre:=[]) (post:=[]) (by simp) rfl (by simp) rfl x0 C1 (by omega) (Nat.le_of_ble_eq_true (by kernel_rfl)) (by kernel_rfl)))<|aC (show ((some (73,14,q0.length):Option (TypeId×Nat×Nat))=some (73,14,n0.length))∧True from⟨by rw [←sI y0,List.length_set],trivial⟩)<|aN)<|qN<|Tn<|Re [.a,.a] (sl 41 [(1,vI a1),(6,vP [6] (0)),(7,vI (if 4<(if a0<2 then(2:Int)else a0)then(4:Int)else(if a0<2 then(2:Int)else a0))),(8,vP [8] (0)),(9,vI i0),(19,vI (l1.length:Int)),(20,vI (Ab (i0+1))),(23,vP [8] (0)),(24,vO [14]),(25,vI i0),(26,vP [14] ((i0).toNat *14)),(27,vP [14] ((i0).toNat *14+0)),(28,vI (Ab (i0+1)))] [bx [8] [.osl [14],.nils,.nils,.nils,.nils,.nils,.nils,Aa 0,Aa 0,Aa 0,.bool false,Aa 0,Aa 0,Aa 1,Aa 1,.int .u64 a2,.nils,Aa 0,Aa (-1:Int)],Bl [14] 73 14 Ad q0,bx [6] [.nils,.nils,.nils,.nils,.nils,.nils,.nils,Aa 0,Aa 0,Aa 0,.bool false,Aa 0,Aa 0,Aa 0,Aa 0,.int .u64 0,.nils,Aa 0,Aa 0]]) (aN)<|Tn ⟨((Ab (i0+1)),q0),(sI k0).symm,wT⟩
  refine hE<|Te ?_
  obtain rfl:=d1 _ (sI k0).symm
  refine Te<|qX<|Tn ⟨n0,h,wT⟩
 rintro p0 o0
 replace o0:Kc a0 a1 a2 p0=some r:=o0
 unfold Kc at o0
 refine Gj (X:=Int×Int) (fun v=>(uo [1,7] [] [.s 0 [(8,Aa v.1),(11,Aa v.2)],.k 1,.k 2])) (fun v=>IR a2 p0 v.1 v.2=some r) ?_ ?_
 ·obtain⟨b8,k1,o0⟩:=bS o0
  refine Gg [.a,.a,.a,.a,.a,.a,(.v (vB b8))] (u [7] [(35,vB b8)]) (aH ((decide (0<a1))==true)<|aT (decide (0<a1))<|aB k1<|aN)<|iC o0 (fun o0=>?_) (fun o0=>?_)
  ·refine Ge (nA 6) (uo [] [(36,vI a1),(37,vI a1),(38,vP [8] (8)),(39,vP [8] (11))] [.s 0 [(8,Aa a1),(11,Aa a1)],.k 1,.k 2]) (aN)<|Tn ⟨(a1,a1),o0,wT⟩
  refine hK<|Tn ⟨((0:Int),(0:Int)),o0,wT⟩
 rintro⟨m0,j0⟩ t0
 replace t0:IR a2 p0 m0 j0=some r:=t0
 unfold IR at t0
 exact Gg [.a,.a] (uo [8] [] [.k 1,.s 2 [(0,.osl [14]),(8,Aa m0),(11,Aa j0),(13,Aa 1),(14,Aa 1),(15,.int .u64 a2),(18,Aa (-1:Int))]]) (aN)<|hR<|bE (.agg [.osl [14],.nils,.nils,.nils,.nils,.nils,.nils,Aa 0,Aa m0,Aa 0,.bool false,Aa j0,Aa 0,Aa 1,Aa 1,.int .u64 a2,.nils,Aa 0,Aa (-1:Int)]) (.agg (Am (⟨p0,([]:List (Ao)),([]:List (Int)),([]:List (Int)),([]:List (Bw)),([]:List (AZ)),([]:List (Ci)),0,m0,0,false,j0,0,1,1,a2,([]:List (Int)),0,(-1:Int)⟩:Aj))) (congrArg (vA Am) (sI t0))
def Cs (a0:Int) (a1:Int) (a2:Int):Option (Bool):=
 (some (if(decide (a1≤a0))=true then decide (a0≤a2)else false)).bind fun b1=>
 some b1
def ax (a0:Int) (a1:Int) (a2:Int) (r:Bool):Prop:=Ah Tryz.prog I0 40 [vI a0,vI a1,vI a2] (· =vB r)
theorem BH {a0:Int} {a1:Int} {a2:Int} {r:Bool} (h:Cs a0 a1 a2=some r):ax a0 a1 a2 r:=by
 refine Ah.bo Ag Tryz.func40 rfl Tryz.ntmps40 [.tmp 6] fun _ _ _ _=>?_
 unfold Cs at h
 refine Gg [.a] (u [] []) (aN) ?_
 obtain⟨b1,i0,h⟩:=bS h
 exact Rg [.a,.a,.a,.a,.a,.a,.a,(.v (vB b1)),.a] (sl 15 [(6,vB b1)] []) (aH ((decide (a1≤a0))==true)<|aT (decide (a1≤a0))<|aB i0<|aN)<|hR<|bQ _ (kB h)
def HX:Option (Bool):=
 some true
def Gv (a0:A6 (Int)) (vt6_3:Int):Option ((Int)⊕(Unit⊕Unit)):=
 (if(decide (vt6_3<6))=true then
  (idx a0.l vt6_3).bind fun e6=>
  (some (if(decide (e6<0))=true then true else decide (1000000<e6))).bind fun b7=>
  (if b7=true then
   some (.inr (.inr ()))
  else
   some (.inl (Ab (vt6_3+1))))
 else
  some (.inr (.inl ())))
def KS (a0:A6 (Int)):Option (Bool):=
 (iter (fun(v:Int)=>Gv a0 v) FU (0:Int)).bind (Sum.elim (fun o0=>HX) (fun o1=>some false))
def Xp (a0:A6 (Int)) (r:Bool):Prop:=Ah Tryz.prog I0 41 [vA (T6 (eI .i64)) a0] (· =vB r)
theorem Vm {a0:A6 (Int)} {r:Bool} (h:KS a0=some r):Xp a0 r:=by
 refine Ah.bo Ag Tryz.func41 rfl Tryz.ntmps41 [.tmp 2] fun _ _ _ _=>?_
 unfold KS at h
 refine Rg [.a,.a] (sl 16 [(1,vP [1] (0))] [bx [1] (T6 (eI .i64) a0)]) (aN)<|Sj (X:=Unit) (fun v=>(sl 16 [] [])) (fun v=>HX=some r) ?_ ?_
 ·refine Rg [.a,.a] (sl 16 [(5,vA (T6 (eI .i64)) a0),(6,vI 0)] []) (aN)<|hB ?_
  obtain⟨t0,o0,h⟩:=bS h
  refine Gi (fun(v:Int)=>(u [] [(6,vI v)])) o0 (wT) ?_
  rintro j0 q0 i0 m0
  replace i0:Gv a0 j0=some q0:=i0
  unfold Gv at i0
  refine Gg [.a] (u [] [(7,vB (decide (j0<6)))]) (aN)<|hS<|iC i0 (fun i0=>?_) (fun i0=>?_)
  ·refine hK<|Tn<|hS<|hB ?_
   obtain⟨e6,n0,i0⟩:=bS i0
   refine Gg [(.v (vI e6)),.a] (u [7] [(4,vI e6)]) (aC (show (0≤j0∧j0<((6:Nat):Int))∧(j0).toNat *1+1≤(T6 (eI .i64) a0).length ∧Me false ((j0).toNat *1) 1 (T6 (eI .i64) a0)=vI e6 from⟨Bm n0,I5 (e:=eI .i64) (N:=1) (l:=a0.l) (base:=0) (pre:=[]) (post:=[]) (by kernel_rfl) rfl n0 (I1 .i64) (o:=0) (by simp) (by decide) (by decide) (by kernel_rfl)⟩)<|aC (Eq.refl (vI e6))<|aN) ?_
   obtain⟨b7,p0,i0⟩:=bS i0
   refine Gg [.a,.a,.a,.a,.a,(.v (vB b7))] (u [4] [(14,vB b7)]) (aG ((decide (e6<0))==false)<|aF (decide (e6<0))<|aB p0<|aN)<|iC i0 (fun i0=>?_) (fun i0=>?_)
   ·refine Rg [.a] (sl 16 [(2,vB false)] []) (aN)<|hR<|qR<|Tr ?_
    obtain rfl:=m0 _ (sI i0).symm
    replace h:=EL h
    exact Tr<|qR<|Tr<|bQ _ (kB h)
   refine hK<|qN<|Tn<|Ge [.a,.a] (u [] [(6,vI (Ab (j0+1))),(15,vI (Ab (j0+1)))]) (aN)<|Tn ⟨(Ab (j0+1)),(sI i0).symm,wT⟩
  refine hE<|Te ?_
  obtain rfl:=m0 _ (sI i0).symm
  replace h:=Fa h
  refine Te<|qX<|Tn ⟨(),h,wT⟩
 rintro _ k0
 replace k0:HX=some r:=k0
 unfold HX at k0
 exact Rg [.a] (sl 16 [(2,vB true)] []) (aN)<|hR<|bQ _ (kB k0)
def Hj (a0:Int) (a1:Int) (a2:Int):Option (Bool):=
 (some (if(decide (a1≤a0))=true then decide (a0≤a2)else false)).bind fun b1=>
 some b1
def YV (a0:Int) (a1:Int) (a2:Int) (r:Bool):Prop:=Ah Tryz.prog I0 79 [vI a0,vI a1,vI a2] (· =vB r)
theorem IS {a0:Int} {a1:Int} {a2:Int} {r:Bool} (h:Hj a0 a1 a2=some r):YV a0 a1 a2 r:=by
 refine Ah.bo Ag Tryz.func79 rfl Tryz.ntmps79 [.tmp 6] fun _ _ _ _=>?_
 unfold Hj at h
 refine Gg [.a] (u [] []) (aN) ?_
 obtain⟨b1,i0,h⟩:=bS h
 exact Rg [.a,.a,.a,.a,.a,.a,.a,(.v (vB b1)),.a] (sl 15 [(6,vB b1)] []) (aH ((decide (a1≤a0))==true)<|aT (decide (a1≤a0))<|aB i0<|aN)<|hR<|bQ _ (kB h)
def Fb (vt7_1:Int):Option (Bool):=
 some (!(decide (0≤vt7_1)))
def Jt:Option (Bool):=
 Fb (-1:Int)
def Gx (a0:A3 (Int)) (vt8_5:Int):Option ((Int)⊕(Unit⊕Int)):=
 (if(decide (vt8_5<((3:Nat):Int)))=true then
  (idx a0.l vt8_5).bind fun e9=>
  (some (if(decide (e9<0))=true then true else decide (1000000<e9))).bind fun b10=>
  (if b10=true then
   some (.inr (.inr vt8_5))
  else
   some (.inl (Ab (vt8_5+1))))
 else
  some (.inr (.inl ())))
def KT (a0:A3 (Int)):Option (Bool):=
 (iter (fun(v:Int)=>Gx a0 v) FU (0:Int)).bind (Sum.elim (fun o0=>Jt) (fun o1=>Fb o1))
def Xq (a0:A3 (Int)) (r:Bool):Prop:=Ah Tryz.prog I0 80 [vA (Vk (eI .i64)) a0] (· =vB r)
theorem Vn {a0:A3 (Int)} {r:Bool} (h:KT a0=some r):Xq a0 r:=by
 refine Ah.bo Ag Tryz.func80 rfl Tryz.ntmps80 [.tmp 2] fun _ _ _ _=>?_
 unfold KT at h
 refine Rg [.a,.a] (sl 6 [(1,vP [1] (0))] [bx [1] (Vk (eI .i64) a0)]) (aN)<|hS<|hO<|Gp 1 [.a] (u [] [(3,.c (.bsl [1] 0 3))]) (aC (show 0≤(0:Int)∧(0:Int)<((3:Nat):Int)∧(0:Int)≤((3:Nat):Int)∧((3:Nat):Int)≤((3:Nat):Int)from(by decide))<|aN)<|rI rfl rfl<|Ei 4 [.c (.bsl [1] 0 3),.c (.fn 122)] [] Tryz.func121 Tryz.ntmps121 [.tmp 4] rfl rfl rfl rfl fun _ _ _ _=>Gg [.a] (u [] []) (aN)<|hS<|hO<|Gp 2 [.a,.a] (u [] [(5,.c (.bsl [1] 0 3)),(6,.c (.fn 122))]) (aN)<|Nj (X:=Int) (fun v=>(u [0,1,5,6] [(7,vI v)])) (fun v=>Fb v=some r) rfl rfl ?_ ?_
 ·refine Ei 7 [.c (.bsl [1] 0 3),.c (.fn 122)] [] Tryz.func169 Tryz.ntmps169 [.tmp 4] rfl rfl rfl rfl fun _ _ _ _=>Rg [.a] (sg 19 [(0,.c (.bsl [1] 0 3)),(1,.c (.fn 122))] [bx [1] (Vk (eI .i64) a0)] 15 [(0,.c (.bsl [1] 0 3)),(1,.c (.fn 122)),(5,.c (.bsl [1] 0 3)),(6,.c (.fn 122)),(10,vP [1] (0)),(12,.c (.bsl [1] 0 3))] [7,4]) (aN)<|Gj (X:=Unit) (fun v=>(u [0,1] [])) (fun v=>Jt=some r) ?_ ?_
  ·refine Gg (nA 3) (u [] [(7,vI ((3:Nat):Int)),(8,vI 0)]) (aC (show JY Tryz.prog 25=true from(by kernel_rfl))<|aN)<|hB ?_
   obtain⟨z0,x0,h⟩:=bS h
   refine Gi (fun(v:Int)=>(u [] [(8,vI v)])) x0 (wT) ?_
   rintro i0 y0 j0 p0
   replace j0:Gx a0 i0=some y0:=j0
   unfold Gx at j0
   refine Gg [.a] (u [] [(9,vB (decide (i0<((3:Nat):Int))))]) (aN)<|hS<|iC j0 (fun j0=>?_) (fun j0=>?_)
   ·refine hK<|Tn<|hS<|hB<|Gg [.a,.a] (u [9] [(5,vI i0)]) (aN)<|hS<|hO ?_
    obtain⟨e9,q0,j0⟩:=bS j0
    refine Gp 5 [.a,.a,.a,.a,(.v (vI e9))] (u [] [(11,.c (.fn 122)),(12,.c (.bsl [1] 0 3)),(13,vI i0),(14,vP [1] (0+(i0).toNat *1)),(15,vI e9)]) (aC (Bm q0)<|aC (oK q0 (I1 .i64) (Vk (eI .i64) a0) 0 3 0 1 false (vI e9))<|aC (Eq.refl (vI e9))<|aN)<|rI rfl rfl<|Ei 16 [vI e9] [] Tryz.func122 Tryz.ntmps122 [.tmp 2] rfl rfl rfl rfl fun _ _ _ _=>Rg [.a] (sg 9 [(0,vI e9)] [bx [1] (Vk (eI .i64) a0)] 34 [(0,.c (.bsl [1] 0 3)),(1,.c (.fn 122)),(5,vI i0),(7,vI ((3:Nat):Int)),(8,vI i0),(11,.c (.fn 122)),(12,.c (.bsl [1] 0 3)),(13,vI i0),(14,vP [1] (0+(i0).toNat *1)),(15,vI e9),(19,.c (.bsl [1] 0 3)),(20,.c (.fn 122)),(24,.c (.bsl [1] 0 3)),(25,.c (.fn 122)),(29,vP [1] (0)),(31,.c (.bsl [1] 0 3))] [16,7,4]) (aN) ?_
    obtain⟨o0,t0,j0⟩:=bS j0
    refine Gg [.a,.a,.a,.a,.a,(.v (vB o0)),.a] (u [0] [(2,vB o0)]) (aG ((decide (e9<0))==false)<|aF (decide (e9<0))<|aB t0<|aN)<|hR<|nR (vB o0)<|Gw [] (u [] []) (aN)<|Tn<|iC j0 (fun j0=>?_) (fun j0=>?_)
    ·refine Gg [.a,.a] (u [0,1,5,7,8,11,12,13,14,15,16] [(4,vI i0)]) (aN)<|hR<|qR<|Tr ?_
     obtain rfl:=p0 _ (sI j0).symm
     replace h:=EL h
     refine Tr<|qR<|Tr<|nR (vI i0) ⟨i0,h,lT⟩
    refine hK<|qN<|Tn<|Ge [.a,.a] (u [] [(8,vI (Ab (i0+1))),(18,vI (Ab (i0+1)))]) (aN)<|Tn ⟨(Ab (i0+1)),(sI j0).symm,wT⟩
   refine hE<|Te ?_
   obtain rfl:=p0 _ (sI j0).symm
   replace h:=Fa h
   refine Te<|qX<|Tn ⟨(),h,wT⟩
  rintro _ n0
  replace n0:Jt=some r:=n0
  unfold Jt at n0
  refine Gg [.a] (u [] [(4,vI (-1:Int))]) (aN)<|hR<|nR (vI (-1:Int)) ⟨(-1:Int),n0,lT⟩
 rintro k0 m0
 replace m0:Fb k0=some r:=m0
 unfold Fb at m0
 exact Gw [.a,.a] (u [] [(4,vB (decide (0≤k0))),(8,vB (decide (0≤k0)))]) (aN)<|Tn<|hR<|nR (vB (decide (0≤k0)))<|Rw [.a,.a] (sl 6 [(1,vP [1] (0)),(2,vB (!(decide (0≤k0)))),(3,.c (.bsl [1] 0 3)),(4,vB (decide (0≤k0))),(5,vB (!(decide (0≤k0))))] [bx [1] (Vk (eI .i64) a0)]) (aN)<|Tn<|hR<|bQ _ (kB m0)
def IT (a0:Ao):Option (Ao):=
 some ({{{a0 with Damage:=(0:Int)}with Deadly:=false}with Shield:=(0:Int)})
def Ue (a0:Ao) (r:Ao):Prop:=Ah Tryz.prog I0 82 [vA Ac a0] (· =vA Ac r)
theorem R9 {a0:Ao} {r:Ao} (h:IT a0=some r):Ue a0 r:=by
 refine Ah.bo Ag Tryz.func82 rfl Tryz.ntmps82 [.cell 2 63] fun _ _ _ _=>?_
 unfold IT at h
 exact Rg [.a,.a] (sl 7 [(1,vP [1] (0)),(2,vP [2] (0))] [bx [2] [Aa 0,Aa 0,Aa 0,Aa 0,Aa 0,.bool false,.bool false,.bool false,.bool false,Aa 0,Aa (((⟨0,0,0⟩:A3 (Int))).x0),Aa (((⟨0,0,0⟩:A3 (Int))).x1),Aa (((⟨0,0,0⟩:A3 (Int))).x2),Aa 0,Aa 0,Aa 0,.bool false,Aa 0,Aa 0],bx [1] (Ac a0)]) (aN)<|Gg (nA 6) (uo [] [] [.k 0,.e (bx [1] (Ac ({{{a0 with Damage:=(0:Int)}with Deadly:=false}with Shield:=(0:Int)})))]) (aN)<|Gg [.a,.a] (uo [1] [] [.e (bx [2] (Ac ({{{a0 with Damage:=(0:Int)}with Deadly:=false}with Shield:=(0:Int)})))]) (aN)<|hR<|bE (vA Ac ({{{a0 with Damage:=(0:Int)}with Deadly:=false}with Shield:=(0:Int)})) (.agg (Ac ({{{a0 with Damage:=(0:Int)}with Deadly:=false}with Shield:=(0:Int)}))) (congrArg (vA Ac) (sI h))
def JG (a0:Ao):Option (Ao):=
 some ({{{a0 with Attack:=(-1:Int)}with Blocked:=false}with Blocks:=(0:Int)})
def Vo (a0:Ao) (r:Ao):Prop:=Ah Tryz.prog I0 81 [vA Ac a0] (· =vA Ac r)
theorem Uf {a0:Ao} {r:Ao} (h:JG a0=some r):Vo a0 r:=by
 refine Ah.bo Ag Tryz.func81 rfl Tryz.ntmps81 [.cell 2 63] fun _ _ _ _=>?_
 unfold JG at h
 exact Rg [.a,.a] (sl 7 [(1,vP [1] (0)),(2,vP [2] (0))] [bx [2] [Aa 0,Aa 0,Aa 0,Aa 0,Aa 0,.bool false,.bool false,.bool false,.bool false,Aa 0,Aa (((⟨0,0,0⟩:A3 (Int))).x0),Aa (((⟨0,0,0⟩:A3 (Int))).x1),Aa (((⟨0,0,0⟩:A3 (Int))).x2),Aa 0,Aa 0,Aa 0,.bool false,Aa 0,Aa 0],bx [1] (Ac a0)]) (aN)<|Gg (nA 6) (uo [] [] [.k 0,.e (bx [1] (Ac ({{{a0 with Attack:=(-1:Int)}with Blocked:=false}with Blocks:=(0:Int)})))]) (aN)<|Gg [.a,.a] (uo [1] [] [.e (bx [2] (Ac ({{{a0 with Attack:=(-1:Int)}with Blocked:=false}with Blocks:=(0:Int)})))]) (aN)<|hR<|bE (vA Ac ({{{a0 with Attack:=(-1:Int)}with Blocked:=false}with Blocks:=(0:Int)})) (.agg (Ac ({{{a0 with Attack:=(-1:Int)}with Blocked:=false}with Blocks:=(0:Int)}))) (congrArg (vA Ac) (sI h))
def HY (a0:Int):Option (Bool):=
 some (a0 != a0)
def Sa (a0:Int) (r:Bool):Prop:=Ah Tryz.prog I0 118 [vI a0] (· =vB r)
theorem L2 {a0:Int} {r:Bool} (h:HY a0=some r):Sa a0 r:=by
 refine Ah.bo Ag Tryz.func118 rfl Tryz.ntmps118 [.tmp 2] fun _ _ _ _=>?_
 unfold HY at h
 exact Gg [.a] (u [] []) (aN)<|Rg (nA 4) (sl 6 [(2,vB (a0 != a0))] []) (aN)<|hR<|bQ _ (kB h)
def AO:Option (Bool):=
 some true
def Bf (a0:List (Bx)) (a1:List (Bx)) (vt17_4:Int):Option ((Int)⊕(Unit⊕Unit)):=
 (if(decide (vt17_4<(a0.length:Int)))=true then
  (idx a0 vt17_4).bind fun e7=>
  (idx a1 vt17_4).bind fun e8=>
  (if(!(e7==e8))=true then
   some (.inr (.inr ()))
  else
   some (.inl (Ab (vt17_4+1))))
 else
  some (.inr (.inl ())))
def AV (a0:List (Bx)) (a1:List (Bx)):Option (Bool):=
 (if((a0.length:Int) != (a1.length:Int))=true then
  some false
 else
  (iter (fun(v:Int)=>Bf a0 a1 v) FU (0:Int)).bind (Sum.elim (fun o0=>AO) (fun o1=>some false)))
def CH (a0:List (Bx)) (a1:List (Bx)) (r:Bool):Prop:=Ah Tryz.prog I0 117 [vL AM a0,vL AM a1, .c (.fn 66)] (· =vB r)
theorem CE {a0:List (Bx)} {a1:List (Bx)} {r:Bool} (h:AV a0 a1=some r):CH a0 a1 r:=by
 refine Ah.bo Ag Tryz.func117 rfl Tryz.ntmps117 [.tmp 6] fun _ _ _ _=>?_
 unfold AV at h
 refine Gg [.a] (u [] []) (aN)<|hS<|Gg (nA 5) (u [] [(14,vB ((a0.length:Int) != (a1.length:Int)))]) (aN)<|iC h (fun h=>?_) (fun h=>?_)
 ·exact Rg [.a] (sl 32 [(6,vB false)] []) (aN)<|hR<|Tr<|bQ _ (kB h)
 refine hK<|Tn<|Sj (X:=Unit) (fun v=>(sl 32 [] [])) (fun v=>AO=some r) ?_ ?_
 ·refine Gg (nA 3) (u [0,14] [(15,vL AM a0),(16,vI (a0.length:Int)),(17,vI 0)]) (aN)<|hB ?_
  obtain⟨t0,p0,h⟩:=bS h
  refine Gi (fun(v:Int)=>(u [] [(17,vI v)])) p0 (wT) ?_
  rintro j0 q0 i0 m0
  replace i0:Bf a0 a1 j0=some q0:=i0
  unfold Bf at i0
  refine Gg [.a] (u [] [(18,vB (decide (j0<(a0.length:Int))))]) (aN)<|hS<|iC i0 (fun i0=>?_) (fun i0=>?_)
  ·refine hK<|Tn<|hS<|hB ?_
   obtain⟨e7,n0,i0⟩:=bS i0
   refine Gg [.a,.a,(.v (vA AM e7)),.a,.a,.a] (uo [18] [(7,vI j0),(8,vP [8] (0))] [.e (bx [8] (AM e7))]) (aC (Bm n0)<|aC (GN n0 Mo 0 20 true (vA AM e7))<|aC (Eq.refl (vA AM e7))<|aN) ?_
   obtain⟨e8,o0,i0⟩:=bS i0
   refine Gg [.a,.a,.a,(.v (vA AM e8)),.a,.a] (uo [7] [(9,vP [9] (0))] [.e (bx [9] (AM e8)),.k 0]) (aC (Bm o0)<|aC (GN o0 Mo 0 20 true (vA AM e8))<|aC (Eq.refl (vA AM e8))<|aN)<|hS<|hO<|Rp 3 (nA 3) (sl 32 [(1,vL AM a1),(2,.c (.fn 66)),(8,vP [8] (0)),(9,vP [9] (0)),(15,vL AM a0),(16,vI (a0.length:Int)),(17,vI j0),(26,.c (.fn 66)),(27,vA AM e7),(28,vA AM e8)] [bx [9] (AM e8),bx [8] (AM e7)]) (aN)<|rI rfl rfl<|Ei 29 [vA AM e7,vA AM e8] [] Tryz.func66 Tryz.ntmps66 [.tmp 4] rfl rfl rfl rfl fun _ _ _ _=>Gg (nA 3) (uo [0,1] [(2,vP [2,29] (0)),(3,vP [3,29] (0))] [.e (bx [3,29] (AM e8)),.e (bx [2,29] (AM e7)),.k 0,.k 1]) (aN)<|Gg [.a,.a,(.v (vB (e7==e8))),.a] (uo [2,3] [(4,vB (e7==e8))] [.k 2,.k 3]) (aC (congrArg (fun z=>V.c (.bool (z))) (fb e7 e8))<|aN)<|hR<|nR (vB (e7==e8))<|Gw [.a] (u [] [(30,vB (!(e7==e8)))]) (aN)<|Tn<|iC i0 (fun i0=>?_) (fun i0=>?_)
   ·refine Rg [.a] (sl 32 [(6,vB false)] []) (aN)<|hR<|qR<|Tr ?_
    obtain rfl:=m0 _ (sI i0).symm
    replace h:=EL h
    exact Tr<|qR<|Tr<|bQ _ (kB h)
   refine hK<|qN<|Tn<|Ge [.a,.a] (u [] [(17,vI (Ab (j0+1))),(31,vI (Ab (j0+1)))]) (aN)<|Tn ⟨(Ab (j0+1)),(sI i0).symm,wT⟩
  refine hE<|Te ?_
  obtain rfl:=m0 _ (sI i0).symm
  replace h:=Fa h
  refine Te<|qX<|Tn ⟨(),h,wT⟩
 rintro _ k0
 replace k0:AO=some r:=k0
 unfold AO at k0
 exact Rg [.a] (sl 32 [(6,vB true)] []) (aN)<|hR<|bQ _ (kB k0)
def AI:Option (Bool):=
 some true
def Bb (a0:List (C0)) (a1:List (C0)) (vt17_4:Int):Option ((Int)⊕(Unit⊕Unit)):=
 (if(decide (vt17_4<(a0.length:Int)))=true then
  (idx a0 vt17_4).bind fun e7=>
  (idx a1 vt17_4).bind fun e8=>
  (if(!(e7==e8))=true then
   some (.inr (.inr ()))
  else
   some (.inl (Ab (vt17_4+1))))
 else
  some (.inr (.inl ())))
def AK (a0:List (C0)) (a1:List (C0)):Option (Bool):=
 (if((a0.length:Int) != (a1.length:Int))=true then
  some false
 else
  (iter (fun(v:Int)=>Bb a0 a1 v) FU (0:Int)).bind (Sum.elim (fun o0=>AI) (fun o1=>some false)))
def Cr (a0:List (C0)) (a1:List (C0)) (r:Bool):Prop:=Ah Tryz.prog I0 123 [vL Bj a0,vL Bj a1, .c (.fn 86)] (· =vB r)
theorem Cp {a0:List (C0)} {a1:List (C0)} {r:Bool} (h:AK a0 a1=some r):Cr a0 a1 r:=by
 refine Ah.bo Ag Tryz.func123 rfl Tryz.ntmps123 [.tmp 6] fun _ _ _ _=>?_
 unfold AK at h
 refine Gg [.a] (u [] []) (aN)<|hS<|Gg (nA 5) (u [] [(14,vB ((a0.length:Int) != (a1.length:Int)))]) (aN)<|iC h (fun h=>?_) (fun h=>?_)
 ·exact Rg [.a] (sl 32 [(6,vB false)] []) (aN)<|hR<|Tr<|bQ _ (kB h)
 refine hK<|Tn<|Sj (X:=Unit) (fun v=>(sl 32 [] [])) (fun v=>AI=some r) ?_ ?_
 ·refine Gg (nA 3) (u [0,14] [(15,vL Bj a0),(16,vI (a0.length:Int)),(17,vI 0)]) (aN)<|hB ?_
  obtain⟨t0,p0,h⟩:=bS h
  refine Gi (fun(v:Int)=>(u [] [(17,vI v)])) p0 (wT) ?_
  rintro j0 q0 i0 m0
  replace i0:Bb a0 a1 j0=some q0:=i0
  unfold Bb at i0
  refine Gg [.a] (u [] [(18,vB (decide (j0<(a0.length:Int))))]) (aN)<|hS<|iC i0 (fun i0=>?_) (fun i0=>?_)
  ·refine hK<|Tn<|hS<|hB ?_
   obtain⟨e7,n0,i0⟩:=bS i0
   refine Gg [.a,.a,(.v (vA Bj e7)),.a,.a,.a] (uo [18] [(7,vI j0),(8,vP [8] (0))] [.e (bx [8] (Bj e7))]) (aC (Bm n0)<|aC (GN n0 PM 0 18 true (vA Bj e7))<|aC (Eq.refl (vA Bj e7))<|aN) ?_
   obtain⟨e8,o0,i0⟩:=bS i0
   refine Gg [.a,.a,.a,(.v (vA Bj e8)),.a,.a] (uo [7] [(9,vP [9] (0))] [.e (bx [9] (Bj e8)),.k 0]) (aC (Bm o0)<|aC (GN o0 PM 0 18 true (vA Bj e8))<|aC (Eq.refl (vA Bj e8))<|aN)<|hS<|hO<|Rp 3 (nA 3) (sl 32 [(1,vL Bj a1),(2,.c (.fn 86)),(8,vP [8] (0)),(9,vP [9] (0)),(15,vL Bj a0),(16,vI (a0.length:Int)),(17,vI j0),(26,.c (.fn 86)),(27,vA Bj e7),(28,vA Bj e8)] [bx [9] (Bj e8),bx [8] (Bj e7)]) (aN)<|rI rfl rfl<|Ei 29 [vA Bj e7,vA Bj e8] [] Tryz.func86 Tryz.ntmps86 [.tmp 4] rfl rfl rfl rfl fun _ _ _ _=>Gg (nA 3) (uo [0,1] [(2,vP [2,29] (0)),(3,vP [3,29] (0))] [.e (bx [3,29] (Bj e8)),.e (bx [2,29] (Bj e7)),.k 0,.k 1]) (aN)<|Gg [.a,.a,(.v (vB (e7==e8))),.a] (uo [2,3] [(4,vB (e7==e8))] [.k 2,.k 3]) (aC (congrArg (fun z=>V.c (.bool (z))) (kI e7 e8))<|aN)<|hR<|nR (vB (e7==e8))<|Gw [.a] (u [] [(30,vB (!(e7==e8)))]) (aN)<|Tn<|iC i0 (fun i0=>?_) (fun i0=>?_)
   ·refine Rg [.a] (sl 32 [(6,vB false)] []) (aN)<|hR<|qR<|Tr ?_
    obtain rfl:=m0 _ (sI i0).symm
    replace h:=EL h
    exact Tr<|qR<|Tr<|bQ _ (kB h)
   refine hK<|qN<|Tn<|Ge [.a,.a] (u [] [(17,vI (Ab (j0+1))),(31,vI (Ab (j0+1)))]) (aN)<|Tn ⟨(Ab (j0+1)),(sI i0).symm,wT⟩
  refine hE<|Te ?_
  obtain rfl:=m0 _ (sI i0).symm
  replace h:=Fa h
  refine Te<|qX<|Tn ⟨(),h,wT⟩
 rintro _ k0
 replace k0:AI=some r:=k0
 unfold AI at k0
 exact Rg [.a] (sl 32 [(6,vB true)] []) (aN)<|hR<|bQ _ (kB k0)
def FZ (a0:AN) (a1:AN):Option (Bool):=
 (some (if(a0.Filter==a1.Filter)=true then(a0.Mods.length:Int)==(a1.Mods.length:Int)else false)).bind fun b1=>
 (some (if b1=true then a0.Price==a1.Price else false)).bind fun b2=>
 (some (if b2=true then a0.Slow==a1.Slow else false)).bind fun b3=>
 (some (if b3=true then a0.Trigger==a1.Trigger else false)).bind fun b4=>
 (some (if b4=true then a0.May==a1.May else false)).bind fun b5=>
 (some (if b5=true then(a0.Specs.length:Int)==(a1.Specs.length:Int)else false)).bind fun b6=>
 (some (if b6=true then(a0.Effects.length:Int)==(a1.Effects.length:Int)else false)).bind fun b7=>
 (some (if b7=true then a0.Replace==a1.Replace else false)).bind fun b8=>
 some b8
def Ug (a0:AN) (a1:AN) (r:Bool):Prop:=Ah Tryz.prog I0 89 [vA Bp a0,vA Bp a1] (· =vB r)
theorem JN {a0:AN} {a1:AN} {r:Bool} (h:FZ a0 a1=some r):Ug a0 a1 r:=by
 refine Ah.bo Ag Tryz.func89 rfl Tryz.ntmps89 [.tmp 4] fun _ _ _ _=>?_
 unfold FZ at h
 refine Rg (nA 3) (sl 72 [(2,vP [2] (0)),(3,vP [3] (0))] [bx [3] (Bp a1),bx [2] (Bp a0)]) (aN) ?_
 obtain⟨b1,i0,b2,j0,b3,k0,b4,m0,h⟩:=Ij h
 obtain⟨b5,n0,b6,o0,b7,p0,b8,q0,h⟩:=Ij h
 exact Rg [.a,.a,.a,.a,(.v (vB (a0.Filter==a1.Filter))),.a,.a,.a,.a,.a,.a,.a,.a,(.v (vB b1)),.a,.a,.a,.a,.a,(.v (vB (a0.Price==a1.Price))),(.v (vB b2)),.a,.a,.a,.a,.a,.a,(.v (vB b3)),.a,.a,.a,.a,.a,(.v (vB (a0.Trigger==a1.Trigger))),(.v (vB b4)),.a,.a,.a,.a,.a,.a,(.v (vB b5)),.a,.a,.a,.a,.a,.a,.a,.a,(.v (vB b6)),.a,.a,.a,.a,.a,.a,.a,.a,(.v (vB b7)),.a,.a,.a,.a,.a,(.v (vB (a0.Replace==a1.Replace))),(.v (vB b8)),.a] (sl 72 [(4,vB b8)] []) (aC (congrArg (fun z=>V.c (.bool (z))) (T8 a0.Filter a1.Filter))<|aG ((a0.Filter==a1.Filter)==true)<|aG ((a0.Filter==a1.Filter)==true)<|aG ((a0.Filter==a1.Filter)==true)<|aG ((a0.Filter==a1.Filter)==true)<|aH ((a0.Filter==a1.Filter)==true)<|aT (a0.Filter==a1.Filter)<|aB i0<|aG (b1==true)<|aG (b1==true)<|aC (fun hg:(b1==true)=true=>aC (gi (b1==true))<|aC (gi (b1==true))<|aC (congrArg (fun z=>V.c (.bool (z))) (ju a0.Price a1.Price))<|aN)<|aT b1<|aB j0<|aG (b2==true)<|aG (b2==true)<|aC (fun hg:(b2==true)=true=>aC (gi (b2==true))<|aC (gi (b2==true))<|aC Xm<|aN)<|aT b2<|aB k0<|aG (b3==true)<|aG (b3==true)<|aC (fun hg:(b3==true)=true=>aC (gi (b3==true))<|aC (gi (b3==true))<|aC (congrArg (fun z=>V.c (.bool (z))) (jv a0.Trigger a1.Trigger))<|aN)<|aT b3<|aB m0<|aG (b4==true)<|aG (b4==true)<|aC (fun hg:(b4==true)=true=>aC (gi (b4==true))<|aC (gi (b4==true))<|aC Xm<|aN)<|aT b4<|aB n0<|aG (b5==true)<|aG (b5==true)<|aG (b5==true)<|aG (b5==true)<|aH (b5==true)<|aT b5<|aB o0<|aG (b6==true)<|aG (b6==true)<|aG (b6==true)<|aG (b6==true)<|aH (b6==true)<|aT b6<|aB p0<|aG (b7==true)<|aG (b7==true)<|aC (fun hg:(b7==true)=true=>aC (gi (b7==true))<|aC (gi (b7==true))<|aC (congrArg (fun z=>V.c (.bool (z))) (fd a0.Replace a1.Replace))<|aN)<|aT b7<|aB q0<|aN)<|hR<|bQ _ (kB h)
def BE (a0:Int) (a1:Int):Option (Bool):=
 (some (if(decide (0≤a0))=true then decide (a0≤a1)else false)).bind fun b1=>
 some b1
def QX (a0:Int) (a1:Int) (r:Bool):Prop:=Ah Tryz.prog I0 125 [vI a0,vI a1] (· =vB r)
theorem BI {a0:Int} {a1:Int} {r:Bool} (h:BE a0 a1=some r):QX a0 a1 r:=by
 refine Ah.bo Ag Tryz.func125 rfl Tryz.ntmps125 [.tmp 4] fun _ _ _ _=>?_
 unfold BE at h
 refine Gg [.a] (u [] []) (aN) ?_
 obtain⟨b1,i0,h⟩:=bS h
 exact Rg [.a,.a,.a,.a,.a,.a,(.v (vB b1)),.a] (sl 12 [(4,vB b1)] []) (aH ((decide (0≤a0))==true)<|aT (decide (0≤a0))<|aB i0<|aN)<|hR<|bQ _ (kB h)
def JH:Option (Bool):=
 some true
def FR (a0:List UInt8) (vt38_13:Int):Option ((Int)⊕(Unit⊕Unit)):=
 (if(decide (vt38_13<((Fh a0).length :Int)))=true then
  (idx (Fh a0) vt38_13).bind fun e16=>
  (some (if(decide (e16<97))=true then true else decide (122<e16))).bind fun b17=>
  (some (if(decide (e16<48))=true then true else decide (57<e16))).bind fun b18=>
  (some (if b17=true then b18 else false)).bind fun b19=>
  (some (if b19=true then e16 != 45 else false)).bind fun b20=>
  (if b20=true then
   some (.inr (.inr ()))
  else
   some (.inl (Ab (vt38_13+1))))
 else
  some (.inr (.inl ())))
def Oc (a0:List UInt8):Option (Bool):=
 (some (if((a0.length:Int)==0)=true then true else decide (32<(a0.length:Int)))).bind fun b1=>
 (gd (b1==false) (sidx a0 (0:Int))).bind fun c2=>
 (some (if b1=true then true else decide (c2<97))).bind fun b3=>
 (gd (b3==false) (sidx a0 (0:Int))).bind fun c4=>
 (some (if b3=true then true else decide (122<c4))).bind fun b5=>
 (gd (b5==false) (sidx a0 (Ab ((a0.length:Int) - (1:Int))))).bind fun c6=>
 (some (if b5=true then true else c6==45)).bind fun b7=>
 (gd (b7==false) (LX a0 Wn)).bind fun r8=>
 (if(if b7=true then true else r8)=true then
  some false
 else
  (need (a0.length≤140737488355328)).bind fun u11=>
  (iter (fun(v:Int)=>FR a0 v) FU (0:Int)).bind (Sum.elim (fun o0=>JH) (fun o1=>some false)))
def dp (a0:List UInt8) (r:Bool):Prop:=Ah Tryz.prog I0 170 [vS a0] (· =vB r)
theorem Uh {a0:List UInt8} {r:Bool} (h:Oc a0=some r):dp a0 r:=by
 refine Ah.bo Ag Tryz.func170 rfl Tryz.ntmps170 [.tmp 2] fun _ _ _ _=>?_
 unfold Oc at h
 refine Gg [.a] (u [] []) (aN)<|hS ?_
 obtain⟨b1,q1,c2,y0,b3,t1,c4,z0,h⟩:=Ij h
 obtain⟨b5,x1,c6,d1,b7,y1,r8,z1,h⟩:=Ij h
 refine Gg [.a,.a,.a,.a,.a,.a,.a,(.v (vB b1)),.a,.a,(.v (.c (.int .u8 c2))),.a,(.v (vB b3)),.a,.a,(.v (.c (.int .u8 c4))),.a,(.v (vB b5)),.a,.a,.a,.a,.a,(.v (.c (.int .u8 c6))),.a,(.v (vB b7)),.a,.a,(.c (vB r8)),.a] (u [] [(34,vB (if b7=true then true else r8))]) (aG (((a0.length:Int)==0)==false)<|aG (((a0.length:Int)==0)==false)<|aF ((a0.length:Int)==0)<|aB q1<|aC (fun hg:(b1==false)=true=>aC (gi (b1==false))<|aC (aa (M8 y0 hg))<|aC (congrArg (fun z=>V.c (.int .u8 z)) (ab (M8 y0 hg)).symm)<|aN)<|aG (b1==false)<|aF b1<|aB t1<|aC (fun hg:(b3==false)=true=>aC (gi (b3==false))<|aC (aa (M8 z0 hg))<|aC (congrArg (fun z=>V.c (.int .u8 z)) (ab (M8 z0 hg)).symm)<|aN)<|aG (b3==false)<|aF b3<|aB x1<|aG (b5==false)<|aG (b5==false)<|aC (fun hg:(b5==false)=true=>aC (gi (b5==false))<|aC (gi (b5==false))<|aC (aa (M8 d1 hg))<|aC (congrArg (fun z=>V.c (.int .u8 z)) (ab (M8 d1 hg)).symm)<|aN)<|aG (b5==false)<|aF b5<|aB y1<|aC (c1 z1 ao)<|aF b7<|aN)<|iC h (fun h=>?_) (fun h=>?_)
 ·exact Rg [.a] (sl 61 [(2,vB false)] []) (aN)<|hR<|Tr<|bQ _ (kB h)
 refine hK<|Tn<|Sj (X:=Unit) (fun v=>(sl 61 [] [])) (fun v=>JH=some r) ?_ ?_
 ·refine hS<|hO<|Gp 1 [.a] (u [] [(35,vS a0)]) (aN) ?_
  obtain⟨i2,n1,h⟩:=bS h
  refine Run.inl rfl rfl (EB.bytes 5 a0 rfl (GU n1) ?_)
  refine Gw [.a,.a] (u [] [(37,vI ((Fh a0).length :Int)),(38,vI 0)]) (aN)<|Tn<|hB ?_
  obtain⟨d2,t0,h⟩:=bS h
  refine Gi (fun(v:Int)=>(u [0,34,35] [(38,vI v)])) t0 (wT) ?_
  rintro j0 o1 i0 o0
  replace i0:FR a0 j0=some o1:=i0
  unfold FR at i0
  refine Gg [.a] (u [] [(39,vB (decide (j0<((Fh a0).length :Int))))]) (aN)<|hS<|iC i0 (fun i0=>?_) (fun i0=>?_)
  ·refine hK<|Tn<|hS<|hB ?_
   obtain⟨k0,q0,i0⟩:=bS i0
   refine Gg [.a,(.v (.c (.int .u8 k0))),.a] (u [39] [(4,.c (.int .u8 k0))]) (aC (Bm q0)<|aC (GN q0 (I1 .u8) 0 1 false (.c (.int .u8 k0)))<|aC (Eq.refl (.c (.int .u8 k0):V))<|aN) ?_
   obtain⟨m0,i1,p1,j1,p0,k1,x0,m1,i0⟩:=Ij i0
   refine Rg [.a,.a,.a,.a,.a,(.v (vB m0)),.a,.a,.a,.a,.a,.a,(.v (vB p1)),(.v (vB p0)),.a,.a,.a,(.v (vB x0))] (sl 61 [(36,vL (eI .u8) (Fh a0)),(37,vI ((Fh a0).length :Int)),(38,vI j0),(59,vB x0)] []) (aG ((decide (k0<97))==false)<|aF (decide (k0<97))<|aB i1<|aG (m0==true)<|aG (m0==true)<|aG ((m0==true)&&((decide (k0<48))==false))<|aC (fun hg:(m0==true)=true=>aC (gi (m0==true))<|aC (fun q:(decide (k0<48))=false=>(gA hg (gF q)))<|aB j1<|aN)<|aT m0<|aB k1<|aG (p0==true)<|aT p0<|aB m1<|aN)<|iC i0 (fun i0=>?_) (fun i0=>?_)
   ·refine Rg [.a] (sl 61 [(2,vB false)] []) (aN)<|hR<|qR<|Tr ?_
    obtain rfl:=o0 _ (sI i0).symm
    replace h:=EL h
    exact Tr<|qR<|Tr<|bQ _ (kB h)
   refine hK<|qN<|Tn<|Ge [.a,.a] (u [] [(38,vI (Ab (j0+1))),(60,vI (Ab (j0+1)))]) (aN)<|Tn ⟨(Ab (j0+1)),(sI i0).symm,wT⟩
  refine hE<|Te ?_
  obtain rfl:=o0 _ (sI i0).symm
  replace h:=Fa h
  refine Te<|qX<|Tn ⟨(),h,wT⟩
 rintro _ n0
 replace n0:JH=some r:=n0
 unfold JH at n0
 exact Rg [.a] (sl 61 [(2,vB true)] []) (aN)<|hR<|bQ _ (kB n0)
def Dg:Option (Int):=
 some (0:Int)
def BM (a0:List UInt8) (a1:Int) (vt9_3:Int):Option ((Int)⊕(Unit⊕Int)):=
 (if(decide (vt9_3<a1))=true then
  (idx (⟨I9,Ik⟩:A2 (List UInt8)).l vt9_3).bind fun e7=>
  (if(e7 != a0)=true then
   some (.inl (Ab (vt9_3+1)))
  else
   (need (0≤vt9_3)).bind fun u9=>
   some (.inr (.inr (Ab ((1:Int)*2 ^ (min (vt9_3).toNat (IntKind.i64).bits))))))
 else
  some (.inr (.inl ())))
def C6 (a0:List UInt8) (a1:Int):Option (Int):=
 (iter (fun(v:Int)=>BM a0 a1 v) FU (0:Int)).bind (Sum.elim (fun o0=>Dg) (fun o1=>some o1))
def K8 (a0:List UInt8) (a1:Int) (r:Int):Prop:=Ah Tryz.prog I0 171 [vS a0,vI a1, .c (.fn 172)] (· =vI r)
theorem KV {a0:List UInt8} {a1:Int} {r:Int} (h:C6 a0 a1=some r):K8 a0 a1 r:=by
 refine Ah.bo Ag Tryz.func171 rfl Tryz.ntmps171 [.tmp 6] fun _ _ _ _=>?_
 unfold C6 at h
 refine Gg [.a] (u [] []) (aN)<|Ai.scope<|hS<|Ai.label<|Tn<|Sj (X:=Unit) (fun v=>(sl 20 [] [])) (fun v=>Dg=some r) ?_ ?_
 ·refine Gg [.a,.a] (u [1] [(8,vI a1),(9,vI 0)]) (aN)<|hB ?_
  obtain⟨t0,o0,h⟩:=bS h
  refine Gi (fun(v:Int)=>(u [] [(9,vI v)])) o0 (wT) ?_
  rintro i0 q0 j0 m0
  replace j0:BM a0 a1 i0=some q0:=j0
  unfold BM at j0
  refine Gg [.a] (u [] [(10,vB (decide (i0<a1)))]) (aN)<|hS<|iC j0 (fun j0=>?_) (fun j0=>?_)
  ·refine hK<|Tn<|hS<|hB<|Gg [.a,.a] (u [10] [(7,vI i0)]) (aN)<|hS<|hS<|hO<|Gp 2 [.a,.a] (u [] [(12,.c (.fn 172)),(13,vI i0)]) (aN)<|rI rfl rfl<|Ei 14 [vI i0] [] Tryz.func172 Tryz.ntmps172 [.tmp 2] rfl rfl rfl rfl fun _ _ _ _=>Rg [.a] (sg 6 [(0,vI i0)] [] 20 [(0,vS a0),(2,.c (.fn 172)),(7,vI i0),(8,vI a1),(9,vI i0),(12,.c (.fn 172)),(13,vI i0)] [14]) (aN) ?_
   obtain⟨e7,n0,j0⟩:=bS j0
   refine Gg [.a,.a,(.v (vS e7)),.a] (u [0] [(2,vS e7)]) (aC (And.intro (show True∧(True∧True)from⟨trivial,⟨trivial,trivial⟩⟩) kU)<|aC (show (0≤i0∧i0<((2:Nat):Int))∧(i0).toNat *1+1≤(pv (eS) (⟨I9,Ik⟩:A2 (List UInt8))).length ∧Me false ((i0).toNat *1) 1 (pv (eS) (⟨I9,Ik⟩:A2 (List UInt8)))=vS e7 from⟨Bm n0,I5 (e:=eS) (N:=1) (l:=(⟨I9,Ik⟩:A2 (List UInt8)).l) (base:=0) (pre:=[]) (post:=[]) (by kernel_rfl) rfl n0 Vi (o:=0) (by simp) (by decide) (by decide) (by kernel_rfl)⟩)<|aC (Eq.refl (vS e7))<|aN)<|hR<|nR (vS e7)<|Gw [.a,.a] (u [] [(15,vS a0),(16,vB (e7 != a0))]) (aN)<|Tn<|iC j0 (fun j0=>?_) (fun j0=>?_)
   ·refine hE<|Te<|qX<|Tn<|Ge [.a,.a] (u [] [(9,vI (Ab (i0+1))),(19,vI (Ab (i0+1)))]) (aN)<|Tn ⟨(Ab (i0+1)),(sI j0).symm,wT⟩
   refine hK<|Tn ?_
   obtain⟨u9,p0,j0⟩:=bS j0
   refine Rg (nA 3) (sl 20 [(6,vI (Ab ((1:Int)*2 ^ (min (i0).toNat (IntKind.i64).bits))))] []) (aC (GU p0)<|aN)<|hR<|qR<|Tr ?_
   obtain rfl:=m0 _ (sI j0).symm
   replace h:=EL h
   exact Tr<|qR<|Tr<|JM.ret<|bQ _ (congrArg vI (sI h))
  refine hE<|Te ?_
  obtain rfl:=m0 _ (sI j0).symm
  replace h:=Fa h
  refine Te<|qX<|Tn ⟨(),h,wT⟩
 rintro _ k0
 replace k0:Dg=some r:=k0
 unfold Dg at k0
 exact Rg [.a] (sl 20 [(6,vI 0)] []) (aN)<|hR<|JM.ret<|bQ _ (congrArg vI (sI k0))
def Dz:Option (Int):=
 some (0:Int)
def B2 (a0:List UInt8) (a1:Int) (vt9_3:Int):Option ((Int)⊕(Unit⊕Int)):=
 (if(decide (vt9_3<a1))=true then
  (idx (⟨Df,DW,ED,Fk,Fl,GY⟩:A6 (List UInt8)).l vt9_3).bind fun e7=>
  (if(e7 != a0)=true then
   some (.inl (Ab (vt9_3+1)))
  else
   (need (0≤vt9_3)).bind fun u9=>
   some (.inr (.inr (Ab ((1:Int)*2 ^ (min (vt9_3).toNat (IntKind.i64).bits))))))
 else
  some (.inr (.inl ())))
def Dh (a0:List UInt8) (a1:Int):Option (Int):=
 (iter (fun(v:Int)=>B2 a0 a1 v) FU (0:Int)).bind (Sum.elim (fun o0=>Dz) (fun o1=>some o1))
def LF (a0:List UInt8) (a1:Int) (r:Int):Prop:=Ah Tryz.prog I0 171 [vS a0,vI a1, .c (.fn 173)] (· =vI r)
theorem K9 {a0:List UInt8} {a1:Int} {r:Int} (h:Dh a0 a1=some r):LF a0 a1 r:=by
 refine Ah.bo Ag Tryz.func171 rfl Tryz.ntmps171 [.tmp 6] fun _ _ _ _=>?_
 unfold Dh at h
 refine Gg [.a] (u [] []) (aN)<|Ai.scope<|hS<|Ai.label<|Tn<|Sj (X:=Unit) (fun v=>(sl 20 [] [])) (fun v=>Dz=some r) ?_ ?_
 ·refine Gg [.a,.a] (u [1] [(8,vI a1),(9,vI 0)]) (aN)<|hB ?_
  obtain⟨t0,o0,h⟩:=bS h
  refine Gi (fun(v:Int)=>(u [] [(9,vI v)])) o0 (wT) ?_
  rintro i0 q0 j0 m0
  replace j0:B2 a0 a1 i0=some q0:=j0
  unfold B2 at j0
  refine Gg [.a] (u [] [(10,vB (decide (i0<a1)))]) (aN)<|hS<|iC j0 (fun j0=>?_) (fun j0=>?_)
  ·refine hK<|Tn<|hS<|hB<|Gg [.a,.a] (u [10] [(7,vI i0)]) (aN)<|hS<|hS<|hO<|Gp 2 [.a,.a] (u [] [(12,.c (.fn 173)),(13,vI i0)]) (aN)<|rI rfl rfl<|Ei 14 [vI i0] [] Tryz.func173 Tryz.ntmps173 [.tmp 2] rfl rfl rfl rfl fun _ _ _ _=>Rg [.a] (sg 6 [(0,vI i0)] [] 20 [(0,vS a0),(2,.c (.fn 173)),(7,vI i0),(8,vI a1),(9,vI i0),(12,.c (.fn 173)),(13,vI i0)] [14]) (aN) ?_
   obtain⟨e7,n0,j0⟩:=bS j0
   refine Gg [.a,.a,(.v (vS e7)),.a] (u [0] [(2,vS e7)]) (aC (And.intro (show True∧(True∧(True∧(True∧(True∧(True∧True)))))from⟨trivial,⟨trivial,⟨trivial,⟨trivial,⟨trivial,⟨trivial,trivial⟩⟩⟩⟩⟩⟩) fh)<|aC (show (0≤i0∧i0<((6:Nat):Int))∧(i0).toNat *1+1≤(T6 (eS) (⟨Df,DW,ED,Fk,Fl,GY⟩:A6 (List UInt8))).length ∧Me false ((i0).toNat *1) 1 (T6 (eS) (⟨Df,DW,ED,Fk,Fl,GY⟩:A6 (List UInt8)))=vS e7 from⟨Bm n0,I5 (e:=eS) (N:=1) (l:=(⟨Df,DW,ED,Fk,Fl,GY⟩:A6 (List UInt8)).l) (base:=0) (pre:=[]) (post:=[]) (by kernel_rfl) rfl n0 Vi (o:=0) (by simp) (by decide) (by decide) (by kernel_rfl)⟩)<|aC (Eq.refl (vS e7))<|aN)<|hR<|nR (vS e7)<|Gw [.a,.a] (u [] [(15,vS a0),(16,vB (e7 != a0))]) (aN)<|Tn<|iC j0 (fun j0=>?_) (fun j0=>?_)
   ·refine hE<|Te<|qX<|Tn<|Ge [.a,.a] (u [] [(9,vI (Ab (i0+1))),(19,vI (Ab (i0+1)))]) (aN)<|Tn ⟨(Ab (i0+1)),(sI j0).symm,wT⟩
   refine hK<|Tn ?_
   obtain⟨u9,p0,j0⟩:=bS j0
   refine Rg (nA 3) (sl 20 [(6,vI (Ab ((1:Int)*2 ^ (min (i0).toNat (IntKind.i64).bits))))] []) (aC (GU p0)<|aN)<|hR<|qR<|Tr ?_
   obtain rfl:=m0 _ (sI j0).symm
   replace h:=EL h
   exact Tr<|qR<|Tr<|JM.ret<|bQ _ (congrArg vI (sI h))
  refine hE<|Te ?_
  obtain rfl:=m0 _ (sI j0).symm
  replace h:=Fa h
  refine Te<|qX<|Tn ⟨(),h,wT⟩
 rintro _ k0
 replace k0:Dz=some r:=k0
 unfold Dz at k0
 exact Rg [.a] (sl 20 [(6,vI 0)] []) (aN)<|hR<|JM.ret<|bQ _ (congrArg vI (sI k0))
def Je (a0:Int) (a1:Int) (a2:Int):Option (Bool):=
 (some (if(decide (a1≤a0))=true then decide (a0≤a2)else false)).bind fun b1=>
 some b1
def fk (a0:Int) (a1:Int) (a2:Int) (r:Bool):Prop:=Ah Tryz.prog I0 140 [vI a0,vI a1,vI a2] (· =vB r)
theorem Hk {a0:Int} {a1:Int} {a2:Int} {r:Bool} (h:Je a0 a1 a2=some r):fk a0 a1 a2 r:=by
 refine Ah.bo Ag Tryz.func140 rfl Tryz.ntmps140 [.tmp 6] fun _ _ _ _=>?_
 unfold Je at h
 refine Gg [.a] (u [] []) (aN) ?_
 obtain⟨b1,i0,h⟩:=bS h
 exact Rg [.a,.a,.a,.a,.a,.a,.a,(.v (vB b1)),.a] (sl 15 [(6,vB b1)] []) (aH ((decide (a1≤a0))==true)<|aT (decide (a1≤a0))<|aB i0<|aN)<|hR<|bQ _ (kB h)
def Dv (b3_1:Bx):Option (Bx):=
 some b3_1
def Ek (a0:Bx) (vt30_10:Bool):Option (Bx):=
 (if vt30_10=true then
  Dv (⟨a0.Kind,a0.N,a0.M,[],(⟨0,0,0,0,0,0,0,[],0,0,(⟨0,0⟩:Ae),(⟨0,0⟩:Ae),(⟨0,0⟩:Ae)⟩:Af)⟩:Bx)
 else
  Dv (⟨a0.Kind,0,0,[],(⟨0,0,0,0,0,0,0,[],0,0,(⟨0,0⟩:Ae),(⟨0,0⟩:Ae),(⟨0,0⟩:Ae)⟩:Af)⟩:Bx))
def E1 (a0:Bx) (vt19_6:Bool):Option (Bx):=
 (if vt19_6=true then
  Dv (⟨a0.Kind,0,0,a0.Sub,(⟨0,0,0,0,0,0,0,[],0,0,(⟨0,0⟩:Ae),(⟨0,0⟩:Ae),(⟨0,0⟩:Ae)⟩:Af)⟩:Bx)
 else
  (if(a0.Kind==11)=true then
   Dv (⟨a0.Kind,0,0,[],a0.Filter⟩:Bx)
  else
   (if(a0.Kind==12)=true then
    Ek a0 (a0.Kind==12)
   else
    Ek a0 (a0.Kind==13))))
def C7 (a0:Bx) (vt9_3:Bool):Option (Bx):=
 (if vt9_3=true then
  Dv (⟨a0.Kind,a0.N,0,[],(⟨0,0,0,0,0,0,0,[],0,0,(⟨0,0⟩:Ae),(⟨0,0⟩:Ae),(⟨0,0⟩:Ae)⟩:Af)⟩:Bx)
 else
  (if(a0.Kind==4)=true then
   E1 a0 (a0.Kind==4)
  else
   E1 a0 (a0.Kind==5)))
def KW (a0:Bx):Option (Bx):=
 (if(a0.Kind==2)=true then
  C7 a0 (a0.Kind==2)
 else
  (if(a0.Kind==3)=true then
   C7 a0 (a0.Kind==3)
  else
   (if(a0.Kind==6)=true then
    C7 a0 (a0.Kind==6)
   else
    (if(a0.Kind==7)=true then
     C7 a0 (a0.Kind==7)
    else
     (if(a0.Kind==8)=true then
      C7 a0 (a0.Kind==8)
     else
      C7 a0 (a0.Kind==9))))))
def ay (a0:Bx) (r:Bx):Prop:=Ah Tryz.prog I0 141 [vA AM a0] (· =vA AM r)
theorem YW {a0:Bx} {r:Bx} (h:KW a0=some r):ay a0 r:=by
 refine Ah.bo Ag Tryz.func141 rfl Tryz.ntmps141 [.cell 2 107] fun _ _ _ _=>?_
 unfold KW at h
 refine Rg [.a,.a] (sl 40 [(1,vP [1] (0)),(2,vP [2] (0))] [bx [2] [Aa 0,Aa 0,Aa 0,.str ([]),Aa 0,Aa 0,Aa 0,Aa 0,Aa 0,Aa 0,Aa 0,.str ([]),Aa 0,Aa 0,Aa 0,Aa 0,Aa 0,Aa 0,Aa 0,Aa 0],bx [1] (AM a0)]) (aN)<|Gg (nA 5) (uo [] [(3,vP [3] (0))] [.e (bx [3] [Aa a0.Kind,Aa 0,Aa 0,.str ([]),Aa 0,Aa 0,Aa 0,Aa 0,Aa 0,Aa 0,Aa 0,.str ([]),Aa 0,Aa 0,Aa 0,Aa 0,Aa 0,Aa 0,Aa 0,Aa 0]),.k 0,.k 1]) (aC (And.intro (show True∧True from⟨trivial,trivial⟩) kQ)<|aN)<|Gj (X:=Bx) (fun v=>(uo [1] [] [.e (bx [3] (AM v)),.k 1])) (fun v=>Dv v=some r) ?_ ?_
 ·refine Gg [.a,.a] (u [] [(8,vI a0.Kind)]) (aN)<|hB<|Gj (X:=Bool) (fun v=>(u [] [(9,vB v)])) (fun v=>C7 a0 v=some r) ?_ ?_
  ·refine Gg [.a,.a] (u [] [(9,vB (a0.Kind==2))]) (aN)<|iC h (fun h=>?_) (fun h=>?_)
   ·refine hK<|Tn ⟨(a0.Kind==2),h,wT⟩
   refine Gg [.a,.a] (u [] [(9,vB (a0.Kind==3))]) (aN)<|iC h (fun h=>?_) (fun h=>?_)
   ·refine hK<|Tn ⟨(a0.Kind==3),h,wT⟩
   refine Gg [.a,.a] (u [] [(9,vB (a0.Kind==6))]) (aN)<|iC h (fun h=>?_) (fun h=>?_)
   ·refine hK<|Tn ⟨(a0.Kind==6),h,wT⟩
   refine Gg [.a,.a] (u [] [(9,vB (a0.Kind==7))]) (aN)<|iC h (fun h=>?_) (fun h=>?_)
   ·refine hK<|Tn ⟨(a0.Kind==7),h,wT⟩
   refine Gg [.a,.a] (u [] [(9,vB (a0.Kind==8))]) (aN)<|iC h (fun h=>?_) (fun h=>?_)
   ·refine hK<|Tn ⟨(a0.Kind==8),h,wT⟩
   refine Re [.a,.a] (sl 40 [(1,vP [1] (0)),(2,vP [2] (0)),(3,vP [3] (0)),(8,vI a0.Kind),(9,vB (a0.Kind==9)),(15,vB (a0.Kind==9))] [bx [3] [Aa a0.Kind,Aa 0,Aa 0,.str ([]),Aa 0,Aa 0,Aa 0,Aa 0,Aa 0,Aa 0,Aa 0,.str ([]),Aa 0,Aa 0,Aa 0,Aa 0,Aa 0,Aa 0,Aa 0,Aa 0],bx [2] [Aa 0,Aa 0,Aa 0,.str ([]),Aa 0,Aa 0,Aa 0,Aa 0,Aa 0,Aa 0,Aa 0,.str ([]),Aa 0,Aa 0,Aa 0,Aa 0,Aa 0,Aa 0,Aa 0,Aa 0],bx [1] (AM a0)]) (aN)<|Tn ⟨(a0.Kind==9),h,wT⟩
  rintro q0 j0
  replace j0:C7 a0 q0=some r:=j0
  unfold C7 at j0
  refine iC j0 (fun j0=>?_) (fun j0=>?_)
  ·refine Ge (nA 4) (uo [] [(16,vP [1] (1)),(17,vI a0.N),(18,vP [3] (1))] [.s 0 [(1,Aa a0.N)],.k 1,.k 2]) (aN)<|qN<|Tn ⟨(⟨a0.Kind,a0.N,0,[],(⟨0,0,0,0,0,0,0,[],0,0,(⟨0,0⟩:Ae),(⟨0,0⟩:Ae),(⟨0,0⟩:Ae)⟩:Af)⟩:Bx),j0,wT⟩
  refine Gj (X:=Bool) (fun v=>(u [9] [(19,vB v)])) (fun v=>E1 a0 v=some r) ?_ ?_
  ·refine Gg [.a,.a] (u [9] [(19,vB (a0.Kind==4))]) (aN)<|iC j0 (fun j0=>?_) (fun j0=>?_)
   ·refine hK<|Tn ⟨(a0.Kind==4),j0,wT⟩
   refine Ge [.a,.a] (u [] [(19,vB (a0.Kind==5)),(21,vB (a0.Kind==5))]) (aN)<|Tn ⟨(a0.Kind==5),j0,wT⟩
  rintro p0 i0
  replace i0:E1 a0 p0=some r:=i0
  unfold E1 at i0
  refine iC i0 (fun i0=>?_) (fun i0=>?_)
  ·refine Ge (nA 4) (uo [] [(22,vP [1] (3)),(23,vS a0.Sub),(24,vP [3] (3))] [.s 0 [(3,.str a0.Sub)],.k 1,.k 2]) (aN)<|qN<|Tn ⟨(⟨a0.Kind,0,0,a0.Sub,(⟨0,0,0,0,0,0,0,[],0,0,(⟨0,0⟩:Ae),(⟨0,0⟩:Ae),(⟨0,0⟩:Ae)⟩:Af)⟩:Bx),i0,wT⟩
  refine Gg [.a,.a] (u [19] [(25,vB (a0.Kind==11))]) (aN)<|iC i0 (fun i0=>?_) (fun i0=>?_)
  ·refine Ge (nA 4) (uo [] [(27,vP [1] (4)),(28,vA A7 a0.Filter),(29,vP [3] (4))] [.e (bx [3] [Aa a0.Kind,Aa 0,Aa 0,.str ([]),Aa ((a0.Filter).Zone),Aa ((a0.Filter).Who),Aa ((a0.Filter).Self),Aa ((a0.Filter).Types),Aa ((a0.Filter).NotTypes),Aa ((a0.Filter).Colors),Aa ((a0.Filter).NotColors),.str ((a0.Filter).Sub),Aa ((a0.Filter).Keys),Aa ((a0.Filter).Tap),Aa (((a0.Filter).Power).Kind),Aa (((a0.Filter).Power).N),Aa (((a0.Filter).Tough).Kind),Aa (((a0.Filter).Tough).N),Aa (((a0.Filter).Value).Kind),Aa (((a0.Filter).Value).N)]),.k 1,.k 2]) (aN)<|qN<|Tn ⟨(⟨a0.Kind,0,0,[],a0.Filter⟩:Bx),i0,wT⟩
  refine Gj (X:=Bool) (fun v=>(u [8,25] [(30,vB v)])) (fun v=>Ek a0 v=some r) ?_ ?_
  ·refine Gg [.a,.a] (u [25] [(30,vB (a0.Kind==12))]) (aN)<|iC i0 (fun i0=>?_) (fun i0=>?_)
   ·refine hK<|Tn ⟨(a0.Kind==12),i0,wT⟩
   refine Ge [.a,.a] (u [] [(30,vB (a0.Kind==13)),(32,vB (a0.Kind==13))]) (aN)<|Tn ⟨(a0.Kind==13),i0,wT⟩
  rintro m0 k0
  replace k0:Ek a0 m0=some r:=k0
  unfold Ek at k0
  refine iC k0 (fun k0=>?_) (fun k0=>?_)
  ·refine Ai.regN [0,1,4,5,12,13,15,31,63,127,255,7,23,55,3,19,51] 255 [.a,.a,.a,.a,.a,.a,.a,.a] [[3],[2],[1]] (fun n=>⟨[.undef,vP [1] (0),vP [2] (0),vP [3] (0),.undef,.undef,.undef,.undef,.undef,.undef,.undef,.undef,.undef,.undef,.undef,.undef,.undef,.undef,.undef,.undef,.undef,.undef,.undef,.undef,.undef,.undef,.undef,.undef,.undef,.undef,vB m0,.undef,.undef,cond (Nat.testBit n 0) (vP [1] (1)) (.undef),cond (Nat.testBit n 1) (vI a0.N) (.undef),cond (Nat.testBit n 2) (vP [1] (2)) (.undef),cond (Nat.testBit n 3) (vI a0.M) (.undef),cond (Nat.testBit n 4) (vP [3] (1)) (.undef),cond (Nat.testBit n 6) (vP [3] (2)) (.undef),.undef],List.filterMap id [cond (Nat.testBit n 7) (some (bx [3] [Aa a0.Kind,Aa a0.N,Aa a0.M,.str ([]),Aa 0,Aa 0,Aa 0,Aa 0,Aa 0,Aa 0,Aa 0,.str ([]),Aa 0,Aa 0,Aa 0,Aa 0,Aa 0,Aa 0,Aa 0,Aa 0])) (cond (Nat.testBit n 5) (some (bx [3] [Aa a0.Kind,Aa a0.N,Aa 0,.str ([]),Aa 0,Aa 0,Aa 0,Aa 0,Aa 0,Aa 0,Aa 0,.str ([]),Aa 0,Aa 0,Aa 0,Aa 0,Aa 0,Aa 0,Aa 0,Aa 0])) (some (bx [3] [Aa a0.Kind,Aa 0,Aa 0,.str ([]),Aa 0,Aa 0,Aa 0,Aa 0,Aa 0,Aa 0,Aa 0,.str ([]),Aa 0,Aa 0,Aa 0,Aa 0,Aa 0,Aa 0,Aa 0,Aa 0]))),some (bx [2] [Aa 0,Aa 0,Aa 0,.str ([]),Aa 0,Aa 0,Aa 0,Aa 0,Aa 0,Aa 0,Aa 0,.str ([]),Aa 0,Aa 0,Aa 0,Aa 0,Aa 0,Aa 0,Aa 0,Aa 0]),some (bx [1] (AM a0))],[],[]⟩) [[],[],[],[],[],[],[],[]] DV (by kernel_rfl) (by kernel_rfl) (by decide) (D4.t (by kernel_rfl)) (by kernel_rfl) ⟨trivial,trivial,trivial,trivial,trivial,trivial,trivial,trivial,trivial⟩<|qN<|Tn ⟨(⟨a0.Kind,a0.N,a0.M,[],(⟨0,0,0,0,0,0,0,[],0,0,(⟨0,0⟩:Ae),(⟨0,0⟩:Ae),(⟨0,0⟩:Ae)⟩:Af)⟩:Bx),k0,wT⟩
  refine hK<|qN<|Tn ⟨(⟨a0.Kind,0,0,[],(⟨0,0,0,0,0,0,0,[],0,0,(⟨0,0⟩:Ae),(⟨0,0⟩:Ae),(⟨0,0⟩:Ae)⟩:Af)⟩:Bx),k0,wT⟩
 rintro n0 o0
 replace o0:Dv n0=some r:=o0
 unfold Dv at o0
 exact Gg [.a,.a] (uo [3] [] [.e (bx [2] (AM n0))]) (aN)<|hR<|bE (vA AM n0) (.agg (AM n0)) (congrArg (vA AM) (sI o0))
def Lo (l3_2:List (Int)):Option ((List (Int))):=
 some l3_2
def IU (vt8_6:Int) (l3_11:List (Int)):Option ((Int×(List (Int)))⊕((List (Int)))):=
 some (.inl ((Ab (vt8_6+1)),l3_11))
def Lp (a0:Int) (vt8_6:Int) (l3_7:List (Int)):Option ((Int×(List (Int)))⊕((List (Int)))):=
 (if(decide (vt8_6<31))=true then
  (need (0≤vt8_6)).bind fun u13=>
  (if((Nc .i64 (Int.fdiv a0 (2 ^ (min (vt8_6).toNat (IntKind.i64).bits))) (1:Int))==(1:Int))=true then
   (app 8 l3_7 ([vt8_6]:List (Int))).bind fun l15=>
   IU vt8_6 l15
  else
   IU vt8_6 l3_7)
 else
  some (.inr l3_7))
def G3 (a0:Int):Option ((List (Int))):=
 (if(decide (a0<0))=true then
  some ([]:List (Int))
 else
  (iter (fun(v:Int×(List (Int)))=>Lp a0 v.1 v.2) FU ((0:Int),([]:List (Int)))).bind (fun o0=>Lo o0))
def az (a0:Int) (r:(List (Int))):Prop:=Ah Tryz.prog I0 189 [vI a0] (· =vL (eI .i64) r)
theorem G4 {a0:Int} {r:(List (Int))} (h:G3 a0=some r):az a0 r:=by
 refine Ah.bo Ag Tryz.func189 rfl Tryz.ntmps189 [.tmp 2] fun _ _ _ _=>?_
 unfold G3 at h
 refine Gg [.a] (u [] []) (aN)<|Gg [.a] (uo [] [(3,vO [3])] [.e (Bl [3] 3 1 (eI .i64) ([]:List (Int)))]) (aN)<|hS<|Gg [.a,.a] (u [] [(6,vB (decide (a0<0)))]) (aN)<|iC h (fun h=>?_) (fun h=>?_)
 ·exact Gg [.a,.a] (u [0,3,6] [(2,vO [3])]) (aN)<|hR<|Tr<|bE (vO [3]) (vL (eI .i64) ([]:List (Int))) (congrArg (vL (eI .i64)) (sI h))
 refine hK<|Tn<|Sj (X:=(List (Int))) (fun v=>(sl 22 [(3,vO [3])] [Bl [3] 3 1 (eI .i64) v])) (fun v=>Lo v=some r) ?_ ?_
 ·refine Gg [.a] (u [6] [(8,vI 0)]) (aN)<|hB ?_
  obtain⟨i1,y0,h⟩:=bS h
  refine Gi (fun(v:Int×(List (Int)))=>(uo [] [(8,vI v.1)] [.e (Bl [3] 3 1 (eI .i64) v.2)])) y0 (wT) ?_
  rintro⟨i0,n0⟩ x0 j0 z0
  replace j0:Lp a0 i0 n0=some x0:=j0
  unfold Lp at j0
  refine Gg [.a] (u [] [(9,vB (decide (i0<31)))]) (aN)<|hS<|iC j0 (fun j0=>?_) (fun j0=>?_)
  ·refine hK<|Tn<|Gj (X:=(List (Int))) (fun v=>(uo [9] [] [.e (Bl [3] 3 1 (eI .i64) v)])) (fun v=>IU i0 v=some x0) ?_ ?_
   ·refine hB<|Gg [.a,.a] (u [9] [(4,vI i0)]) (aN) ?_
    obtain⟨j1,d1,j0⟩:=bS j0
    refine Rg (nA 5) (sl 22 [(0,vI a0),(3,vO [3]),(4,vI i0),(8,vI i0),(15,vB ((Nc .i64 (Int.fdiv a0 (2 ^ (min (i0).toNat (IntKind.i64).bits))) (1:Int))==(1:Int)))] [Bl [3] 3 1 (eI .i64) n0]) (aC (GU d1)<|aN)<|iC j0 (fun j0=>?_) (fun j0=>?_)
    ·obtain⟨p0,q0,j0⟩:=bS j0
     refine Ge [.a,.a,.a,(.e p0.length (p0.flatMap (eI .i64))),.a] (uo [] [(17,vI i0),(18,vO [18]),(19,vO [3])] [.e (Bl [3] 3 1 (eI .i64) p0),.e (Bl [18] 3 1 (eI .i64) ([i0]:List (Int)))]) (aC (M4 q0 (eI .i64))<|aC (Du q0)<|aN)<|qN<|Tn ⟨p0,j0,wT⟩
    refine hK<|qN<|Tn ⟨n0,j0,wT⟩
   rintro m0 k0
   replace k0:IU i0 m0=some x0:=k0
   unfold IU at k0
   refine Re [.a,.a] (sl 22 [(0,vI a0),(3,vO [3]),(8,vI (Ab (i0+1))),(20,vI (Ab (i0+1)))] [Bl [3] 3 1 (eI .i64) m0]) (aN)<|Tn ⟨((Ab (i0+1)),m0),(sI k0).symm,wT⟩
  refine hE<|Te ?_
  obtain rfl:=z0 _ (sI j0).symm
  refine Te<|qX<|Tn ⟨n0,h,wT⟩
 rintro t0 o0
 replace o0:Lo t0=some r:=o0
 unfold Lo at o0
 exact Gg [.a,.a] (u [3] [(2,vO [3])]) (aN)<|hR<|bE (vO [3]) (vL (eI .i64) t0) (congrArg (vL (eI .i64)) (sI o0))
def ND (a0:Int):Option (Bool):=
 (some (if(decide (0≤a0))=true then decide (a0≤31)else false)).bind fun b1=>
 some b1
def aA (a0:Int) (r:Bool):Prop:=Ah Tryz.prog I0 187 [vI a0] (· =vB r)
theorem YX {a0:Int} {r:Bool} (h:ND a0=some r):aA a0 r:=by
 refine Ah.bo Ag Tryz.func187 rfl Tryz.ntmps187 [.tmp 2] fun _ _ _ _=>?_
 unfold ND at h
 refine Gg [.a] (u [] []) (aN) ?_
 obtain⟨b1,i0,h⟩:=bS h
 exact Rg [.a,.a,.a,.a,.a,(.v (vB b1)),.a] (sl 9 [(2,vB b1)] []) (aG ((decide (0≤a0))==true)<|aT (decide (0≤a0))<|aB i0<|aN)<|hR<|bQ _ (kB h)
def KX (a0:Int):Option (Bool):=
 (some (if(decide (0≤a0))=true then decide (a0≤131071)else false)).bind fun b1=>
 some b1
def Xr (a0:Int) (r:Bool):Prop:=Ah Tryz.prog I0 188 [vI a0] (· =vB r)
theorem Vp {a0:Int} {r:Bool} (h:KX a0=some r):Xr a0 r:=by
 refine Ah.bo Ag Tryz.func188 rfl Tryz.ntmps188 [.tmp 2] fun _ _ _ _=>?_
 unfold KX at h
 refine Gg [.a] (u [] []) (aN) ?_
 obtain⟨b1,i0,h⟩:=bS h
 exact Rg [.a,.a,.a,.a,.a,(.v (vB b1)),.a] (sl 9 [(2,vB b1)] []) (aG ((decide (0≤a0))==true)<|aT (decide (0≤a0))<|aB i0<|aN)<|hR<|bQ _ (kB h)
def Hl:Option ((List UInt8)):=
 some ([]:List UInt8)
def Jf (a0:List (List UInt8)) (vt8_3:Int):Option ((Int)⊕(Unit⊕(List UInt8))):=
 (if(decide (vt8_3<(a0.length:Int)))=true then
  (idx a0 vt8_3).bind fun e7=>
  (if(e7 != ([]:List UInt8))=true then
   some (.inr (.inr e7))
  else
   some (.inl (Ab (vt8_3+1))))
 else
  some (.inr (.inl ())))
def Cw (a0:List (List UInt8)):Option ((List UInt8)):=
 (iter (fun(v:Int)=>Jf a0 v) FU (0:Int)).bind (Sum.elim (fun o0=>Hl) (fun o1=>some o1))
def Sb (a0:List (List UInt8)) (r:(List UInt8)):Prop:=Ah Tryz.prog I0 223 [vL eS a0] (· =vS r)
theorem Hm {a0:List (List UInt8)} {r:(List UInt8)} (h:Cw a0=some r):Sb a0 r:=by
 refine Ah.bo Ag Tryz.func223 rfl Tryz.ntmps223 [.tmp 2] fun _ _ _ _=>?_
 unfold Cw at h
 refine Gg [.a] (u [] []) (aN)<|Gg [.a] (u [] [(3,vS ([]:List UInt8))]) (aN)<|Gj (X:=Unit) (fun v=>(u [0] [])) (fun v=>Hl=some r) ?_ ?_
 ·refine Gg (nA 3) (u [0] [(6,vL eS a0),(7,vI (a0.length:Int)),(8,vI 0)]) (aN)<|hB ?_
  obtain⟨q0,o0,h⟩:=bS h
  refine Gi (fun(v:Int)=>(u [] [(8,vI v)])) o0 (wT) ?_
  rintro j0 p0 i0 m0
  replace i0:Jf a0 j0=some p0:=i0
  unfold Jf at i0
  refine Gg [.a] (u [] [(9,vB (decide (j0<(a0.length:Int))))]) (aN)<|hS<|iC i0 (fun i0=>?_) (fun i0=>?_)
  ·refine hK<|Tn<|hS<|hB ?_
   obtain⟨e7,n0,i0⟩:=bS i0
   refine Gg [.a,(.v (vS e7)),.a] (u [9] [(5,vS e7)]) (aC (Bm n0)<|aC (GN n0 Vi 0 1 false (vS e7))<|aC (Eq.refl (vS e7))<|aN)<|Gg (nA 3) (u [] [(14,vB (e7 != ([]:List UInt8)))]) (aN)<|iC i0 (fun i0=>?_) (fun i0=>?_)
   ·refine Rg [.a,.a] (sl 18 [(2,vS e7)] []) (aN)<|hR<|qR<|Tr ?_
    obtain rfl:=m0 _ (sI i0).symm
    replace h:=EL h
    exact Tr<|qR<|Tr<|bQ _ (congrArg vS (sI h))
   refine hK<|qN<|Tn<|Re [.a,.a] (sl 18 [(3,vS ([]:List UInt8)),(5,vS e7),(6,vL eS a0),(7,vI (a0.length:Int)),(8,vI (Ab (j0+1))),(14,vB (e7 != ([]:List UInt8))),(16,vI (Ab (j0+1)))] []) (aN)<|Tn ⟨(Ab (j0+1)),(sI i0).symm,wT⟩
  refine hE<|Te ?_
  obtain rfl:=m0 _ (sI i0).symm
  replace h:=Fa h
  refine Te<|qX<|Tn ⟨(),h,wT⟩
 rintro _ k0
 replace k0:Hl=some r:=k0
 unfold Hl at k0
 exact Rg [.a,.a] (sl 18 [(2,vS ([]:List UInt8))] []) (aN)<|hR<|bQ _ (congrArg vS (sI k0))
def Hn (a0:List (List UInt8)) (a1:List UInt8):Option ((List UInt8)):=
 (PK a0 a1).bind fun r1=>
 some r1
def YY (a0:List (List UInt8)) (a1:List UInt8) (r:(List UInt8)):Prop:=Ah Tryz.prog I0 98 [vL eS a0,vS a1] (· =vS r)
theorem My {a0:List (List UInt8)} {a1:List UInt8} {r:(List UInt8)} (h:Hn a0 a1=some r):YY a0 a1 r:=by
 refine Ah.bo Ag Tryz.func98 rfl Tryz.ntmps98 [.tmp 4] fun _ _ _ _=>?_
 unfold Hn at h
 refine Gg [.a] (u [] []) (aN) ?_
 obtain⟨r1,i0,h⟩:=bS h
 exact Rg [.a,.a,(.c (vS r1)),.a] (sl 8 [(4,vS r1)] []) (aC (Xj i0)<|aN)<|hR<|bQ _ (congrArg vS (sI h))
def Ic (a0:Int):Option ((List UInt8)):=
 (if(a0==1)=true then
  some Lj
 else
  (if(a0==2)=true then
   some IP
  else
   (if(a0==3)=true then
    some Hi
   else
    (if(a0==4)=true then
     some J9
    else
     (if(a0==5)=true then
      some Ka
     else
      some ([]:List UInt8))))))
def P2 (a0:Int) (r:(List UInt8)):Prop:=Ah Tryz.prog I0 175 [vI a0] (· =vS r)
theorem O4 {a0:Int} {r:(List UInt8)} (h:Ic a0=some r):P2 a0 r:=by
 refine Ah.bo Ag Tryz.func175 rfl Tryz.ntmps175 [.tmp 2] fun _ _ _ _=>?_
 unfold Ic at h
 refine Gg [.a] (u [] []) (aN)<|hS<|Rg [.a] (sl 14 [(3,vI a0)] []) (aN)<|hB<|Gg [.a,.a] (u [] [(4,vB (a0==1))]) (aN)<|iC h (fun h=>?_) (fun h=>?_)
 ·exact Rg [.a] (sl 14 [(2,vS Lj)] []) (aN)<|hR<|qR<|Tr<|bQ _ (congrArg vS (sI h))
 refine Gg [.a,.a] (u [4] [(6,vB (a0==2))]) (aN)<|iC h (fun h=>?_) (fun h=>?_)
 ·exact Rg [.a] (sl 14 [(2,vS IP)] []) (aN)<|hR<|qR<|Tr<|bQ _ (congrArg vS (sI h))
 refine Gg [.a,.a] (u [6] [(8,vB (a0==3))]) (aN)<|iC h (fun h=>?_) (fun h=>?_)
 ·exact Rg [.a] (sl 14 [(2,vS Hi)] []) (aN)<|hR<|qR<|Tr<|bQ _ (congrArg vS (sI h))
 refine Gg [.a,.a] (u [8] [(10,vB (a0==4))]) (aN)<|iC h (fun h=>?_) (fun h=>?_)
 ·exact Rg [.a] (sl 14 [(2,vS J9)] []) (aN)<|hR<|qR<|Tr<|bQ _ (congrArg vS (sI h))
 refine Rg [.a,.a] (sl 14 [(12,vB (a0==5))] []) (aN)<|iC h (fun h=>?_) (fun h=>?_)
 ·exact Rg [.a] (sl 14 [(2,vS Ka)] []) (aN)<|hR<|qR<|Tr<|bQ _ (congrArg vS (sI h))
 exact hK<|qN<|Tn<|Rg [.a] (sl 14 [(2,vS ([]:List UInt8))] []) (aN)<|hR<|bQ _ (congrArg vS (sI h))
def EE (a0:Int):Option ((List UInt8)):=
 (YN a0).bind fun r1=>
 some r1
def aD (a0:Int) (r:(List UInt8)):Prop:=Ah Tryz.prog I0 137 [vI a0] (· =vS r)
theorem G5 {a0:Int} {r:(List UInt8)} (h:EE a0=some r):aD a0 r:=by
 refine Ah.bo Ag Tryz.func137 rfl Tryz.ntmps137 [.tmp 2] fun _ _ _ _=>?_
 unfold EE at h
 refine Gg [.a] (u [] []) (aN) ?_
 obtain⟨r1,i0,h⟩:=bS h
 exact Rg [.a,(.c (vS r1)),.a] (sl 5 [(2,vS r1)] []) (aC (kF i0)<|aN)<|hR<|bQ _ (congrArg vS (sI h))
def BN (a1:Int) (vt42_10:Bool):Option (Bool):=
 (if vt42_10=true then
  (some (if(a1==8)=true then true else a1==4)).bind fun b13=>
  (some (if b13=true then true else a1==3)).bind fun b14=>
  some b14
 else
  some false)
def DS (a0:Int) (a1:Int):Option (Bool):=
 (if(a0==1)=true then
  (some (if(a1==1)=true then true else a1==2)).bind fun b2=>
  (some (if b2=true then true else a1==3)).bind fun b3=>
  (some (if b3=true then true else a1==4)).bind fun b4=>
  some b4
 else
  (if(a0==2)=true then
   (some (if(a1==5)=true then true else a1==6)).bind fun b6=>
   (some (if b6=true then true else a1==7)).bind fun b7=>
   some b7
  else
   (if(a0==3)=true then
    (some (if(a1==8)=true then true else a1==4)).bind fun b9=>
    some b9
   else
    (if(a0==4)=true then
     BN a1 (a0==4)
    else
     (if(a0==5)=true then
      BN a1 (a0==5)
     else
      (if(a0==10)=true then
       BN a1 (a0==10)
      else
       BN a1 (a0==8)))))))
def Ui (a0:Int) (a1:Int) (r:Bool):Prop:=Ah Tryz.prog I0 128 [vI a0,vI a1] (· =vB r)
theorem Sc {a0:Int} {a1:Int} {r:Bool} (h:DS a0 a1=some r):Ui a0 a1 r:=by
 refine Ah.bo Ag Tryz.func128 rfl Tryz.ntmps128 [.tmp 4] fun _ _ _ _=>?_
 unfold DS at h
 refine Gg [.a] (u [] []) (aN)<|hS<|Gg [.a] (u [0] [(5,vI a0)]) (aN)<|hB<|Gg [.a,.a] (u [] [(6,vB (a0==1))]) (aN)<|iC h (fun h=>?_) (fun h=>?_)
 ·obtain⟨b2,p0,b3,q0,b4,t0,h⟩:=M9 h
  exact Rg [.a,.a,.a,.a,.a,(.v (vB b2)),.a,.a,.a,(.v (vB b3)),.a,.a,.a,(.v (vB b4)),.a] (sl 57 [(4,vB b4)] []) (aG ((a1==1)==false)<|aF (a1==1)<|aB p0<|aG (b2==false)<|aF b2<|aB q0<|aG (b3==false)<|aF b3<|aB t0<|aN)<|hR<|qR<|Tr<|bQ _ (kB h)
 refine Gg [.a,.a] (u [6] [(22,vB (a0==2))]) (aN)<|iC h (fun h=>?_) (fun h=>?_)
 ·obtain⟨b6,x0,b7,y0,h⟩:=JX h
  exact Rg [.a,.a,.a,.a,.a,(.v (vB b6)),.a,.a,.a,(.v (vB b7)),.a] (sl 57 [(4,vB b7)] []) (aG ((a1==5)==false)<|aF (a1==5)<|aB x0<|aG (b6==false)<|aF b6<|aB y0<|aN)<|hR<|qR<|Tr<|bQ _ (kB h)
 refine Gg [.a,.a] (u [22] [(34,vB (a0==3))]) (aN)<|iC h (fun h=>?_) (fun h=>?_)
 ·obtain⟨b9,z0,h⟩:=bS h
  exact Rg [.a,.a,.a,.a,.a,(.v (vB b9)),.a] (sl 57 [(4,vB b9)] []) (aG ((a1==8)==false)<|aF (a1==8)<|aB z0<|aN)<|hR<|qR<|Tr<|bQ _ (kB h)
 refine Gj (X:=Bool) (fun v=>(u [5,34] [(42,vB v)])) (fun v=>BN a1 v=some r) ?_ ?_
 ·refine Gg [.a,.a] (u [34] [(42,vB (a0==4))]) (aN)<|iC h (fun h=>?_) (fun h=>?_)
  ·refine hK<|Tn ⟨(a0==4),h,wT⟩
  refine Gg [.a,.a] (u [] [(42,vB (a0==5))]) (aN)<|iC h (fun h=>?_) (fun h=>?_)
  ·refine hK<|Tn ⟨(a0==5),h,wT⟩
  refine Rg [.a,.a] (sl 57 [(1,vI a1),(5,vI a0),(42,vB (a0==10))] []) (aN)<|iC h (fun h=>?_) (fun h=>?_)
  ·refine hK<|Tn ⟨(a0==10),h,wT⟩
  refine Ge [.a,.a] (u [] [(42,vB (a0==8)),(46,vB (a0==8))]) (aN)<|Tn ⟨(a0==8),h,wT⟩
 rintro j0 i0
 replace i0:BN a1 j0=some r:=i0
 unfold BN at i0
 refine iC i0 (fun i0=>?_) (fun i0=>?_)
 ·obtain⟨k0,n0,m0,o0,i0⟩:=JX i0
  exact Rg [.a,.a,.a,.a,.a,(.v (vB k0)),.a,.a,.a,(.v (vB m0)),.a] (sl 57 [(4,vB m0)] []) (aG ((a1==8)==false)<|aF (a1==8)<|aB n0<|aG (k0==false)<|aF k0<|aB o0<|aN)<|hR<|qR<|Tr<|bQ _ (kB i0)
 exact hK<|qN<|Tn<|Rg [.a] (sl 57 [(4,vB false)] []) (aN)<|hR<|bQ _ (kB i0)
def F0 (a0:Int):Option ((List UInt8)):=
 (some (if(decide (a0<0))=true then true else decide (3≤a0))).bind fun b1=>
 (if b1=true then
  some ([]:List UInt8)
 else
  (need (0≤a0∧a0<((3:Nat):Int))).bind fun u3=>
  some (I7.getD ((a0).toNat) []))
def Uj (a0:Int) (r:(List UInt8)):Prop:=Ah Tryz.prog I0 130 [vI a0] (· =vS r)
theorem JO {a0:Int} {r:(List UInt8)} (h:F0 a0=some r):Uj a0 r:=by
 refine Ah.bo Ag Tryz.func130 rfl Tryz.ntmps130 [.tmp 2] fun _ _ _ _=>?_
 unfold F0 at h
 refine Gg [.a] (u [] []) (aN)<|hS ?_
 obtain⟨b1,j0,h⟩:=bS h
 refine Gg [.a,.a,.a,.a,.a,(.v (vB b1))] (u [] [(8,vB b1)]) (aG ((decide (a0<0))==false)<|aF (decide (a0<0))<|aB j0<|aN)<|iC h (fun h=>?_) (fun h=>?_)
 ·exact Rg [.a] (sl 12 [(2,vS ([]:List UInt8))] []) (aN)<|hR<|Tr<|bQ _ (congrArg vS (sI h))
 refine hK<|Tn<|hS<|hO<|Gp 1 [.a] (u [] [(9,vI a0)]) (aN) ?_
 obtain⟨u3,i0,h⟩:=bS h
 refine Run.inl rfl rfl (EB.gAddr (g:=0) (n:=3) (k:= .i64) (i:=a0) (E:=9) rfl (GU i0) ?_)
 refine Gp 0 [] (u [] []) (aN)<|Run.inl rfl rfl (EB.gLoad (g:=0) (off:=(a0).toNat) (tab:=I7) rfl YM (kC (GU i0)) ?_)
 exact Gw [.a] (u [] [(2,vS (I7.getD ((a0).toNat) []))]) (aN)<|Tn<|hR<|bQ _ (congrArg vS (sI h))
def G6 (a0:Int):Option ((List UInt8)):=
 (some (if(decide (a0<0))=true then true else decide (27≤a0))).bind fun b1=>
 (if b1=true then
  some ([]:List UInt8)
 else
  (idx (⟨([]:List UInt8),Ms,Ll,PQ,PR,Lm,PS,PT,N9,Oa,S6,PU,Mt,S7,PV,Ln,PW,Mu,Gu,PX,PY,Mv,Mw,PZ,S8,Mx,Ob⟩:g0 (List UInt8)).l a0).bind fun e3=>
  some e3)
def Vq (a0:Int) (r:(List UInt8)):Prop:=Ah Tryz.prog I0 132 [vI a0] (· =vS r)
theorem Uk {a0:Int} {r:(List UInt8)} (h:G6 a0=some r):Vq a0 r:=by
 refine Ah.bo Ag Tryz.func132 rfl Tryz.ntmps132 [.tmp 2] fun _ _ _ _=>?_
 unfold G6 at h
 refine Gg [.a] (u [] []) (aN)<|Gg (nA 3) (uo [] [(3,vP [3] (0))] [.e (bx [3] (mG (eS) (⟨([]:List UInt8),Ms,Ll,PQ,PR,Lm,PS,PT,N9,Oa,S6,PU,Mt,S7,PV,Ln,PW,Mu,Gu,PX,PY,Mv,Mw,PZ,S8,Mx,Ob⟩:g0 (List UInt8))))]) (aC (And.intro (show True∧(True∧(True∧(True∧(True∧(True∧(True∧(True∧(True∧(True∧(True∧(True∧(True∧(True∧(True∧(True∧(True∧(True∧(True∧(True∧(True∧(True∧(True∧(True∧(True∧(True∧(True∧True))))))))))))))))))))))))))from⟨trivial,⟨trivial,⟨trivial,⟨trivial,⟨trivial,⟨trivial,⟨trivial,⟨trivial,⟨trivial,⟨trivial,⟨trivial,⟨trivial,⟨trivial,⟨trivial,⟨trivial,⟨trivial,⟨trivial,⟨trivial,⟨trivial,⟨trivial,⟨trivial,⟨trivial,⟨trivial,⟨trivial,⟨trivial,⟨trivial,⟨trivial,trivial⟩⟩⟩⟩⟩⟩⟩⟩⟩⟩⟩⟩⟩⟩⟩⟩⟩⟩⟩⟩⟩⟩⟩⟩⟩⟩⟩) kT)<|aN)<|hS ?_
 obtain⟨b1,j0,h⟩:=bS h
 refine Gg [.a,.a,.a,.a,.a,(.v (vB b1))] (u [] [(10,vB b1)]) (aG ((decide (a0<0))==false)<|aF (decide (a0<0))<|aB j0<|aN)<|iC h (fun h=>?_) (fun h=>?_)
 ·exact Rg [.a] (sl 14 [(2,vS ([]:List UInt8))] []) (aN)<|hR<|Tr<|bQ _ (congrArg vS (sI h))
 refine hK<|Tn ?_
 obtain⟨e3,i0,h⟩:=bS h
 exact Rg [.a,.a,(.v (vS e3)),.a] (sl 14 [(2,vS e3)] []) (aC (Bm i0)<|aC (oK i0 Vi (mG (eS) (⟨([]:List UInt8),Ms,Ll,PQ,PR,Lm,PS,PT,N9,Oa,S6,PU,Mt,S7,PV,Ln,PW,Mu,Gu,PX,PY,Mv,Mw,PZ,S8,Mx,Ob⟩:g0 (List UInt8))) 0 27 0 1 false (vS e3))<|aC (Eq.refl (vS e3))<|aN)<|hR<|bQ _ (congrArg vS (sI h))
def EN (a0:Int):Option ((List UInt8)):=
 (if(a0==0)=true then
  some N8
 else
  (if(a0==1)=true then
   some Xl
  else
   (if(a0==2)=true then
    some LD
   else
    some ([]:List UInt8))))
def P3 (a0:Int) (r:(List UInt8)):Prop:=Ah Tryz.prog I0 139 [vI a0] (· =vS r)
theorem O5 {a0:Int} {r:(List UInt8)} (h:EN a0=some r):P3 a0 r:=by
 refine Ah.bo Ag Tryz.func139 rfl Tryz.ntmps139 [.tmp 2] fun _ _ _ _=>?_
 unfold EN at h
 refine Gg [.a] (u [] []) (aN)<|hS<|Rg [.a] (sl 10 [(3,vI a0)] []) (aN)<|hB<|Gg [.a,.a] (u [] [(4,vB (a0==0))]) (aN)<|iC h (fun h=>?_) (fun h=>?_)
 ·exact Rg [.a] (sl 10 [(2,vS N8)] []) (aN)<|hR<|qR<|Tr<|bQ _ (congrArg vS (sI h))
 refine Gg [.a,.a] (u [4] [(6,vB (a0==1))]) (aN)<|iC h (fun h=>?_) (fun h=>?_)
 ·exact Rg [.a] (sl 10 [(2,vS Xl)] []) (aN)<|hR<|qR<|Tr<|bQ _ (congrArg vS (sI h))
 refine Rg [.a,.a] (sl 10 [(8,vB (a0==2))] []) (aN)<|iC h (fun h=>?_) (fun h=>?_)
 ·exact Rg [.a] (sl 10 [(2,vS LD)] []) (aN)<|hR<|qR<|Tr<|bQ _ (congrArg vS (sI h))
 exact hK<|qN<|Tn<|Rg [.a] (sl 10 [(2,vS ([]:List UInt8))] []) (aN)<|hR<|bQ _ (congrArg vS (sI h))
end Go.PL
