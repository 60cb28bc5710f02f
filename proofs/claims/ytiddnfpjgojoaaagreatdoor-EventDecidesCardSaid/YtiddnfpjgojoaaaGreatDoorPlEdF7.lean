/- Functions of the program, as partial functions in Lean, with proofs. -/
import Derived.Test.YtiddnfpjgojoaaaGreatDoorPlEdB
import Derived.Test.YtiddnfpjgojoaaaGreatDoorPlEdF2
import Derived.Test.YtiddnfpjgojoaaaGreatDoorPlEdF3
import Derived.Test.YtiddnfpjgojoaaaGreatDoorPlEdF5
namespace Go.PL
open Go Go.RowKit Go.Proofs
set_option maxRecDepth 100000
set_option linter.all false
set_option maxHeartbeats 4000000
attribute [local irreducible] Aj BO Bz
def D0 (a0:A1) (r1:Int) (l2:List (List UInt8)) (l1015_3_3:List (Aw)):Option (Ah):=
 some (⟨a0.Name,a0.Cost,eO .i64 r1 a0.Color,(⟨a0.Line.Super,a0.Line.Types,l2⟩:BZ),a0.Power,a0.Tough,a0.Keys,l1015_3_3,0⟩:Ah)
def Dp (a0:A1) (i_t4_7:Int) (l1015_3_8:List (Aw)):Option ((Int×(List (Aw)))⊕((List (Aw)))):=
 (if(decide (i_t4_7<(a0.Abilities.length:Int)))=true then
  (idx a0.Abilities i_t4_7).bind fun e12=>
  (GF e12).bind fun r13=>
  (app 640 l1015_3_8 ([r13]:List (Aw))).bind fun l14=>
  some (.inl ((Ac (i_t4_7+1)),l14))
 else
  some (.inr l1015_3_8))
def D1 (a0:A1):Option (Ah):=
 (Im a0.Cost).bind fun r1=>
 (app 16 ([]:List (List UInt8)) a0.Line.Subs).bind fun l2=>
 (iter (fun(v:Int×(List (Aw)))=>Dp a0 v.1 v.2) FU ((0:Int),([]:List (Aw)))).bind (fun o0=>D0 a0 r1 l2 o0)
def Y9 (a0:A1) (r:Ah):Prop:=AQ Tryz.prog I0 63 [vA B8 a0] (· =vA Ag r)
theorem X5 {a0:A1} {r:Ah} (h:D1 a0=some r):Y9 a0 r:=by
 refine AQ.bo Ab Tryz.func63 rfl Tryz.ntmps63 [.cell 2 70] fun _ _ _ _=>?_
 unfold D1 at h
 refine Rg [.a,.a] (sl 50 [(1,vP [1] (0)),(2,vP [2] (0))] [bx [2] [.str ([]),Aa 0,Aa 0,Aa (((⟨0,0,0,0,0⟩:A5 (Int))).x0),Aa (((⟨0,0,0,0,0⟩:A5 (Int))).x1),Aa (((⟨0,0,0,0,0⟩:A5 (Int))).x2),Aa (((⟨0,0,0,0,0⟩:A5 (Int))).x3),Aa (((⟨0,0,0,0,0⟩:A5 (Int))).x4),Aa 0,Aa 0,Aa 0,.nils,Aa 0,Aa 0,Aa 0,.nils,Aa 0],bx [1] (B8 a0)]) (aN)<|hS ?_
 obtain⟨r1,m1,h⟩:=bS h
 refine Aj.regS Ad [[],[0],[],[2],[],[4],[4,5],[],[7],[4,5,6,7,8],[],[10],[],[12],[],[14],[],[16],[0,1,2,3,4,5,6,7,8,9,10,11,12,13,14,15,16,17],[],[0,1,2,3,4,5,6,7,8,9,10,11,12,13,14,15,16,17,18,19]] [19,20] [[false,false],[true,false],[true,true]] [.a,.a,.a,.a,.a,.a,(.c (vI r1)),.a,.a,.a,.a,.a,.a,.a,.a,.a,.a,.a,.a,.a,.a] [[3],[2],[1]] ⟨nk 50 0 [(1,[],vP [1] (0)),(2,[],vP [2] (0)),(3,[(19,vP [3] (0))],.undef),(5,[(0,vP [1] (0))],.undef),(6,[(1,vS a0.Name)],.undef),(7,[(2,vP [1] (2))],.undef),(8,[(3,vA Gy a0.Cost)],.undef),(9,[(4,vP [1] (2))],.undef),(10,[(5,vA Gy a0.Cost)],.undef),(11,[(6,vI r1)],.undef),(12,[(7,vP [1] (9))],.undef),(13,[(8,vI a0.Color)],.undef),(14,[(9,vI (eO .i64 r1 a0.Color))],.undef),(15,[(10,vP [1] (10))],.undef),(16,[(11,vA Dl a0.Line)],.undef),(17,[(12,vP [1] (13))],.undef),(18,[(13,vI a0.Power)],.undef),(19,[(14,vP [1] (14))],.undef),(20,[(15,vI a0.Tough)],.undef),(21,[(16,vP [1] (15))],.undef),(22,[(17,vI a0.Keys)],.undef),(23,[(18,.agg [.str a0.Name,Aa ((a0.Cost).Generic),Aa ((a0.Cost).X),Aa (((a0.Cost).Color).x0),Aa (((a0.Cost).Color).x1),Aa (((a0.Cost).Color).x2),Aa (((a0.Cost).Color).x3),Aa (((a0.Cost).Color).x4),Aa (eO .i64 r1 a0.Color),Aa ((a0.Line).Super),Aa ((a0.Line).Types),.sl ((a0.Line).Subs).length (((a0.Line).Subs).flatMap (eS)),Aa a0.Power,Aa a0.Tough,Aa a0.Keys,.nils,Aa 0])],.undef)],[([(19,bx [3] [.str ([]),Aa 0,Aa 0,Aa (((⟨0,0,0,0,0⟩:A5 (Int))).x0),Aa (((⟨0,0,0,0,0⟩:A5 (Int))).x1),Aa (((⟨0,0,0,0,0⟩:A5 (Int))).x2),Aa (((⟨0,0,0,0,0⟩:A5 (Int))).x3),Aa (((⟨0,0,0,0,0⟩:A5 (Int))).x4),Aa 0,Aa 0,Aa 0,.nils,Aa 0,Aa 0,Aa 0,.nils,Aa 0]),(20,bx [3] [.str a0.Name,Aa ((a0.Cost).Generic),Aa ((a0.Cost).X),Aa (((a0.Cost).Color).x0),Aa (((a0.Cost).Color).x1),Aa (((a0.Cost).Color).x2),Aa (((a0.Cost).Color).x3),Aa (((a0.Cost).Color).x4),Aa (eO .i64 r1 a0.Color),Aa ((a0.Line).Super),Aa ((a0.Line).Types),.sl ((a0.Line).Subs).length (((a0.Line).Subs).flatMap (eS)),Aa a0.Power,Aa a0.Tough,Aa a0.Keys,.nils,Aa 0])],none),([],some (bx [2] [.str ([]),Aa 0,Aa 0,Aa (((⟨0,0,0,0,0⟩:A5 (Int))).x0),Aa (((⟨0,0,0,0,0⟩:A5 (Int))).x1),Aa (((⟨0,0,0,0,0⟩:A5 (Int))).x2),Aa (((⟨0,0,0,0,0⟩:A5 (Int))).x3),Aa (((⟨0,0,0,0,0⟩:A5 (Int))).x4),Aa 0,Aa 0,Aa 0,.nils,Aa 0,Aa 0,Aa 0,.nils,Aa 0])),([],some (bx [1] (B8 a0)))],[],[]⟩ _ (bC (aN)<|bC (aN)<|bC (aN)<|bC (aN)<|bC (aN)<|bC (aN)<|bC (aC (Y1 m1)<|aN)<|bC (aN)<|bC (aN)<|bC (aN)<|bC (aN)<|bC (aN)<|bC (aN)<|bC (aN)<|bC (aN)<|bC (aN)<|bC (aN)<|bC (aN)<|bC (aC (And.intro (show True∧(True∧(True∧(True∧(True∧(True∧(True∧True))))))from⟨trivial,⟨trivial,⟨trivial,⟨trivial,⟨trivial,⟨trivial,⟨trivial,trivial⟩⟩⟩⟩⟩⟩⟩) yq)<|aN)<|bC (aN)<|bC (aN)<|bN)<|Tn<|Gs (u [5,6,7,8,9,10,11,12,13,14,15,16,17,18,19,20,21,22,23] [])<|Ow [3] 15 [1015,3] 113 72 (sl 50 [(1,vP [1] (0)),(2,vP [2] (0)),(3,vP [3] (0))] [BA [1015,3] 113 72 AF ([]:List (Aw)),bx [3] [.str a0.Name,Aa ((a0.Cost).Generic),Aa ((a0.Cost).X),Aa (((a0.Cost).Color).x0),Aa (((a0.Cost).Color).x1),Aa (((a0.Cost).Color).x2),Aa (((a0.Cost).Color).x3),Aa (((a0.Cost).Color).x4),Aa (eO .i64 r1 a0.Color),Aa ((a0.Line).Super),Aa ((a0.Line).Types),.sl ((a0.Line).Subs).length (((a0.Line).Subs).flatMap (eS)),Aa a0.Power,Aa a0.Tough,Aa a0.Keys,.osl [1015,3],Aa 0],bx [2] [.str ([]),Aa 0,Aa 0,Aa (((⟨0,0,0,0,0⟩:A5 (Int))).x0),Aa (((⟨0,0,0,0,0⟩:A5 (Int))).x1),Aa (((⟨0,0,0,0,0⟩:A5 (Int))).x2),Aa (((⟨0,0,0,0,0⟩:A5 (Int))).x3),Aa (((⟨0,0,0,0,0⟩:A5 (Int))).x4),Aa 0,Aa 0,Aa 0,.nils,Aa 0,Aa 0,Aa 0,.nils,Aa 0],bx [1] (B8 a0)]) ?_
 obtain⟨l2,i1,h⟩:=bS h
 refine Gg [.a,.a,.a,.a,(.e l2.length (l2.flatMap (eS))),.a,.a,.a] (uo [] [] [.e (BA [24] 9 1 eS l2),.k 0,.s 1 [(9,Aa a0.Line.Super),(10,Aa a0.Line.Types),(11,.osl [24])],.k 2,.k 3]) (aC (show (a0.Line.Subs.flatMap (eS)).length =a0.Line.Subs.length*1 from(Cg (enc:=eS) (n:=1) cw _))<|aC (Z7 i1 eS)<|aC (DL i1)<|aN)<|Gj (X:=(List (Aw))) (fun v=>(uo [1] [] [.k 0,.e (BA [1015,3] 113 72 AF v),.k 2,.k 3])) (fun v=>D0 a0 r1 l2 v=some r) ?_ ?_
 ·refine Gg [.a] (u [] [(4,vI 0)]) (aN)<|hB ?_
  obtain⟨n1,z0,h⟩:=bS h
  refine Gi (fun(v:Int×(List (Aw)))=>(uo [] [(4,vI v.1)] [.k 0,.e (BA [1015,3] 113 72 AF v.2),.k 2,.k 3,.k 4])) z0 (wT) ?_
  rintro⟨i0,j0⟩ k1 k0 d1
  replace k0:Dp a0 i0 j0=some k1:=k0
  unfold Dp at k0
  refine hS<|Gg (nA 5) (u [] [(35,vB (decide (i0<(a0.Abilities.length:Int))))]) (aN)<|iC k0 (fun k0=>?_) (fun k0=>?_)
  ·refine hK<|Tn<|hS<|hB ?_
   obtain⟨o0,y0,n0,j1,p0,q0,k0⟩:=wd k0
   refine Aj.regN [0,1,4,16,17,20,21,28,29,60,61,124,125,252,253,508,509,511,1023,2047,4095,255,127,63,31,23,19,5,12,13,15,7,3] 4095 [.a,.a,.a,.a,.a,.a,(.v (vA AF o0)),(.c (vA AF n0)),.a,(.e p0.length (p0.flatMap (AF))),.a,.a] [[46],[24],[1015,3],[3],[2],[1]] (fun n=>⟨[.undef,vP [1] (0),vP [2] (0),vP [3] (0),vI i0,.undef,.undef,.undef,.undef,.undef,.undef,.undef,.undef,.undef,.undef,.undef,.undef,.undef,.undef,.undef,.undef,.undef,.undef,.undef,.undef,.undef,.undef,.undef,.undef,.undef,.undef,.undef,.undef,.undef,.undef,vB (decide (i0<(a0.Abilities.length:Int))),.undef,.undef,cond (Nat.testBit n 0) (vP [3] (15)) (.undef),cond (Nat.testBit n 9) (.undef) (cond (Nat.testBit n 1) (vO [1015,3]) (.undef)),cond (Nat.testBit n 2) (vP [1] (16)) (.undef),cond (Nat.testBit n 3) (vL AF a0.Abilities) (.undef),cond (Nat.testBit n 4) (vI i0) (.undef),cond (Nat.testBit n 5) (vX AF a0.Abilities ((i0).toNat *72)) (.undef),cond (Nat.testBit n 6) (vA AF o0) (.undef),cond (Nat.testBit n 7) (vA AF n0) (.undef),cond (Nat.testBit n 8) (vO [46]) (.undef),cond (Nat.testBit n 9) (vO [1015,3]) (.undef),cond (Nat.testBit n 10) (vP [3] (15)) (.undef),.undef],List.filterMap id [cond (Nat.testBit n 8) (some (BA [46] 113 72 AF ([n0]:List (Aw)))) ((none:Option AM)),some (BA [24] 9 1 eS l2),cond (Nat.testBit n 9) (some (BA [1015,3] 113 72 AF p0)) (some (BA [1015,3] 113 72 AF j0)),cond (Nat.testBit n 11) (some (bx [3] [.str a0.Name,Aa ((a0.Cost).Generic),Aa ((a0.Cost).X),Aa (((a0.Cost).Color).x0),Aa (((a0.Cost).Color).x1),Aa (((a0.Cost).Color).x2),Aa (((a0.Cost).Color).x3),Aa (((a0.Cost).Color).x4),Aa (eO .i64 r1 a0.Color),Aa a0.Line.Super,Aa a0.Line.Types,.osl [24],Aa a0.Power,Aa a0.Tough,Aa a0.Keys,.osl [1015,3],Aa 0])) (cond (Nat.testBit n 9) (some (bx [3] [.str a0.Name,Aa ((a0.Cost).Generic),Aa ((a0.Cost).X),Aa (((a0.Cost).Color).x0),Aa (((a0.Cost).Color).x1),Aa (((a0.Cost).Color).x2),Aa (((a0.Cost).Color).x3),Aa (((a0.Cost).Color).x4),Aa (eO .i64 r1 a0.Color),Aa a0.Line.Super,Aa a0.Line.Types,.osl [24],Aa a0.Power,Aa a0.Tough,Aa a0.Keys,.any,Aa 0])) (some (bx [3] [.str a0.Name,Aa ((a0.Cost).Generic),Aa ((a0.Cost).X),Aa (((a0.Cost).Color).x0),Aa (((a0.Cost).Color).x1),Aa (((a0.Cost).Color).x2),Aa (((a0.Cost).Color).x3),Aa (((a0.Cost).Color).x4),Aa (eO .i64 r1 a0.Color),Aa a0.Line.Super,Aa a0.Line.Types,.osl [24],Aa a0.Power,Aa a0.Tough,Aa a0.Keys,.osl [1015,3],Aa 0]))),some (bx [2] [.str ([]),Aa 0,Aa 0,Aa (((⟨0,0,0,0,0⟩:A5 (Int))).x0),Aa (((⟨0,0,0,0,0⟩:A5 (Int))).x1),Aa (((⟨0,0,0,0,0⟩:A5 (Int))).x2),Aa (((⟨0,0,0,0,0⟩:A5 (Int))).x3),Aa (((⟨0,0,0,0,0⟩:A5 (Int))).x4),Aa 0,Aa 0,Aa 0,.nils,Aa 0,Aa 0,Aa 0,.nils,Aa 0]),some (bx [1] (B8 a0))],[],[]⟩) [[],[],[],[],[],[0≤i0∧i0<(a0.Abilities.length:Int)],[(i0).toNat *72+72≤(a0.Abilities.flatMap (AF)).length ∧toV true ((i0).toNat *72) 72 (a0.Abilities.flatMap (AF))=vA AF o0,(vA AF o0:V)=vA AF o0],[OJ o0 n0],[],[j0.length+([n0]:List (Aw)).length =p0.length∧j0.flatMap (AF)++([n0]:List (Aw)).flatMap (AF)=p0.flatMap (AF),(j0.length+([n0]:List (Aw)).length)*640≤140737488355328∧j0.length+([n0]:List (Aw)).length ≤maxLen],[],[]] Ad (by kernel_rfl) (by kernel_rfl) (by decide) (Cb.t (by kernel_rfl)) (by kernel_rfl) ⟨trivial,trivial,trivial,trivial,trivial,⟨(BS y0),trivial⟩,⟨(Pg y0 gL 0 72 true (vA AF o0)),rfl,trivial⟩,⟨(XR j1),trivial⟩,trivial,⟨⟨by rw [WE q0,List.length_append],by rw [WE q0,List.flatMap_append]⟩,(DL q0),trivial⟩,trivial,trivial,trivial⟩<|qN<|Tn<|Ge (nA 3) (u [] [(4,vI (Ac (i0+1))),(36,vI i0),(37,vI (Ac (i0+1)))]) (aN)<|Tn ⟨((Ac (i0+1)),p0),(sI k0).symm,wT⟩
  refine hE<|Te ?_
  obtain rfl:=d1 _ (sI k0).symm
  refine Te<|qX<|Tn ⟨j0,h,wT⟩
 rintro m0 t0
 replace t0:D0 a0 r1 l2 m0=some r:=t0
 unfold D0 at t0
 exact Gg [.a,.a] (uo [3] [] [.k 0,.k 1,.e (bx [2] [.str a0.Name,Aa ((a0.Cost).Generic),Aa ((a0.Cost).X),Aa (((a0.Cost).Color).x0),Aa (((a0.Cost).Color).x1),Aa (((a0.Cost).Color).x2),Aa (((a0.Cost).Color).x3),Aa (((a0.Cost).Color).x4),Aa (eO .i64 r1 a0.Color),Aa a0.Line.Super,Aa a0.Line.Types,.osl [24],Aa a0.Power,Aa a0.Tough,Aa a0.Keys,.osl [1015,3],Aa 0])]) (aN)<|hR<|bE (.agg [.str a0.Name,Aa ((a0.Cost).Generic),Aa ((a0.Cost).X),Aa (((a0.Cost).Color).x0),Aa (((a0.Cost).Color).x1),Aa (((a0.Cost).Color).x2),Aa (((a0.Cost).Color).x3),Aa (((a0.Cost).Color).x4),Aa (eO .i64 r1 a0.Color),Aa a0.Line.Super,Aa a0.Line.Types,.osl [24],Aa a0.Power,Aa a0.Tough,Aa a0.Keys,.osl [1015,3],Aa 0]) (.agg (Ag (⟨a0.Name,a0.Cost,eO .i64 r1 a0.Color,(⟨a0.Line.Super,a0.Line.Types,l2⟩:BZ),a0.Power,a0.Tough,a0.Keys,m0,0⟩:Ah))) (congrArg (vA Ag) (sI t0))def E_r28_Printed:CE TE Tryz.prog I0:=⟨63,[.s 73],[.s 70],fun x=>D1 x.1,fun x r h=>Cz (by kernel_rfl) (X5 (r:=r) h)⟩
def Hh (l6_2:List (Int)):Option ((List (Int))):=
 some l6_2
def DA (k_t7_6:Int) (l6_11:List (Int)):Option ((Int×(List (Int)))⊕((List (Int)))):=
 some (.inl ((Ac (k_t7_6+1)),l6_11))
def Et (r1:(List (Int))) (k_t7_6:Int) (l6_7:List (Int)) (ok_t8_13:Bool):Option ((Int×(List (Int)))⊕((List (Int)))):=
 (if ok_t8_13=true then
  (idx r1 k_t7_6).bind fun e16=>
  (app 8 l6_7 ([e16]:List (Int))).bind fun l17=>
  DA k_t7_6 l17
 else
  DA k_t7_6 l6_7)
def DB (n_t9_21:Int) (ok_t8_25:Bool):Option ((Bool×Int)⊕(Bool)):=
 some (.inl (ok_t8_25,(Ac (n_t9_21+1))))
def Eu (a1:List (List (Bool))) (r1:(List (Int))) (k_t7_6:Int) (ok_t8_20:Bool) (n_t9_21:Int):Option ((Bool×Int)⊕(Bool)):=
 (if(decide (n_t9_21<(r1.length:Int)))=true then
  (gd ((n_t9_21 != k_t7_6)==true) (idx r1 k_t7_6)).bind fun e27=>
  (gd ((n_t9_21 != k_t7_6)==true) (idx r1 n_t9_21)).bind fun e28=>
  (gd ((n_t9_21 != k_t7_6)==true) (GD a1 e27 e28)).bind fun r29=>
  (some (if(n_t9_21 != k_t7_6)=true then r29 else false)).bind fun b30=>
  (gd (b30==true) (idx r1 n_t9_21)).bind fun e31=>
  (gd (b30==true) (DZ r1 a1 e31)).bind fun r32=>
  (gd (b30==true) (idx r1 k_t7_6)).bind fun e33=>
  (gd (b30==true) (K1 r32 e33)).bind fun r34=>
  (some (if b30=true then !r34 else false)).bind fun b35=>
  (if b35=true then
   DB n_t9_21 false
  else
   DB n_t9_21 ok_t8_20)
 else
  some (.inr ok_t8_20))
def Fh (a1:List (List (Bool))) (r1:(List (Int))) (k_t7_6:Int) (l6_7:List (Int)):Option ((Int×(List (Int)))⊕((List (Int)))):=
 (if(decide (k_t7_6<(r1.length:Int)))=true then
  (iter (fun(v:Bool×Int)=>Eu a1 r1 k_t7_6 v.1 v.2) FU (true,(0:Int))).bind (fun o0=>Et r1 k_t7_6 l6_7 o0)
 else
  some (.inr l6_7))
def Hv (a0:List (Int)) (a1:List (List (Bool))):Option ((List (Int))):=
 (Fg a0).bind fun r1=>
 (iter (fun(v:Int×(List (Int)))=>Fh a1 r1 v.1 v.2) FU ((0:Int),([]:List (Int)))).bind (fun o0=>Hh o0)
def iB (a0:List (Int)) (a1:List (List (Bool))) (r:(List (Int))):Prop:=AQ Tryz.prog I0 105 [vL (eI .i64) a0,vL (eL (eB)) a1] (· =vL (eI .i64) r)
theorem dN {a0:List (Int)} {a1:List (List (Bool))} {r:(List (Int))} (h:Hv a0 a1=some r):iB a0 a1 r:=by
 refine AQ.bo Ab Tryz.func105 rfl Tryz.ntmps105 [.tmp 4] fun _ _ _ _=>?_
 unfold Hv at h
 refine Gg [.a] (u [] []) (aN) ?_
 obtain⟨r1,m3,h⟩:=bS h
 refine Gg [.a,(.c (vL (eI .i64) r1)),.a] (u [0] [(5,vL (eI .i64) r1)]) (aC (Vg m3)<|aN)<|Gg [.a] (uo [] [(6,vO [6])] [.e (BA [6] 3 1 (eI .i64) ([]:List (Int)))]) (aN)<|Sj (X:=(List (Int))) (fun v=>(sl 63 [(6,vO [6])] [BA [6] 3 1 (eI .i64) v])) (fun v=>Hh v=some r) ?_ ?_
 ·refine Gg [.a] (u [] [(7,vI 0)]) (aN)<|hB ?_
  obtain⟨o3,z2,h⟩:=bS h
  refine Gi (fun(v:Int×(List (Int)))=>(uo [] [(7,vI v.1)] [.e (BA [6] 3 1 (eI .i64) v.2)])) z2 (wT) ?_
  rintro⟨j0,q0⟩ j1 o0 d3
  replace o0:Fh a1 r1 j0 q0=some j1:=o0
  unfold Fh at o0
  refine hS<|Gg (nA 4) (u [] [(15,vB (decide (j0<(r1.length:Int))))]) (aN)<|iC o0 (fun o0=>?_) (fun o0=>?_)
  ·refine hK<|Tn<|Gj (X:=(List (Int))) (fun v=>(uo [15] [] [.e (BA [6] 3 1 (eI .i64) v)])) (fun v=>DA j0 v=some j1) ?_ ?_
   ·refine hB<|Gg [.a] (u [15] [(8,vB true)]) (aN)<|Sj (X:=Bool) (fun v=>(sl 63 [(1,vL (eL (eB)) a1),(5,vL (eI .i64) r1),(6,vO [6]),(7,vI j0),(8,vB v)] [BA [6] 3 1 (eI .i64) q0])) (fun v=>Et r1 j0 q0 v=some j1) ?_ ?_
    ·refine Rg [.a] (sl 63 [(1,vL (eL (eB)) a1),(5,vL (eI .i64) r1),(6,vO [6]),(7,vI j0),(8,vB true),(9,vI 0)] [BA [6] 3 1 (eI .i64) q0]) (aN)<|hB ?_
     obtain⟨n3,n2,o0⟩:=bS o0
     refine Gi (fun(v:Bool×Int)=>(u [] [(8,vB v.1),(9,vI v.2)])) n2 (wT) ?_
     rintro⟨p0,i0⟩ k1 k0 o2
     replace k0:Eu a1 r1 j0 p0 i0=some k1:=k0
     unfold Eu at k0
     refine hS<|Gg (nA 4) (u [] [(21,vB (decide (i0<(r1.length:Int))))]) (aN)<|iC k0 (fun k0=>?_) (fun k0=>?_)
     ·refine hK<|Tn<|Gj (X:=Bool) (fun v=>(u [21] [(8,vB v)])) (fun v=>DB i0 v=some k1) ?_ ?_
      ·refine hB<|hS ?_
       obtain⟨m1,y1,n1,z1,q2,i3,m0,x2,k0⟩:=pT k0
       obtain⟨o1,d2,t2,j3,p1,i2,m2,k3,k0⟩:=pT k0
       obtain⟨p2,y2,k0⟩:=bS k0
       refine Aj.regS Ad [[],[],[0,1],[0,1,2],[0,1,2,3],[0,1,2,3],[0,1,2,3],[0,1,2,3,5,6],[0,1,2,3,5,6,7],[0,1,2,3],[0,1,2,3],[0,1,2,3,9,10],[0,1,2,3,9,10,11],[0,1,2,3,4,5,6,7,8,9,10,11,12],[0,1,2,3,4,5,6,7,8,9,10,11,12,13],[0,1,2,3,4,5,6,7,8,9,10,11,12,13,14],[0,1,2,3,4,5,6,7,8,9,10,11,12,13,14,15],[0,1,2,3,4,5,6,7,8,9,10,11,12,13,14,15],[0,1,2,3,4,5,6,7,8,9,10,11,12,13,14,15],[0,1,2,3,4,5,6,7,8,9,10,11,12,13,14,15],[0,1,2,3,4,5,6,7,8,9,10,11,12,13,14,15,18,19],[0,1,2,3,4,5,6,7,8,9,10,11,12,13,14,15,18,19,20],[0,1,2,3,4,5,6,7,8,9,10,11,12,13,14,15,16,17,18,19,20,21],[0,1,2,3,4,5,6,7,8,9,10,11,12,13,14,15],[0,1,2,3,4,5,6,7,8,9,10,11,12,13,14,15],[0,1,2,3,4,5,6,7,8,9,10,11,12,13,14,15,23,24],[0,1,2,3,4,5,6,7,8,9,10,11,12,13,14,15,23,24,25],[0,1,2,3,4,5,6,7,8,9,10,11,12,13,14,15,16,17,18,19,20,21,22,23,24,25,26],[0,1,2,3,4,5,6,7,8,9,10,11,12,13,14,15,16,17,18,19,20,21,22,23,24,25,26,27],[0,1,2,3,4,5,6,7,8,9,10,11,12,13,14,15,16,17,18,19,20,21,22,23,24,25,26,27,28]] [] [[]] [.a,.a,.a,.a,.a,.a,.a,.a,(.v (vI m1)),.a,.a,.a,(.v (vI n1)),(.c (vB q2)),(.v (vB m0)),.a,.a,.a,.a,.a,.a,(.v (vI o1)),(.c (vL (eI .i64) t2)),.a,.a,.a,(.v (vI p1)),(.c (vB m2)),.a,(.v (vB p2))] [[6]] ⟨nk 63 0 [(1,[],vL (eL (eB)) a1),(5,[],vL (eI .i64) r1),(6,[],vO [6]),(7,[],vI j0),(8,[],vB p0),(9,[],vI i0),(21,[],vB (decide (i0<(r1.length:Int)))),(24,[(0,vI i0)],.undef),(25,[(1,vI j0)],.undef),(26,[(2,vB (i0 != j0))],.undef),(27,[(3,vB (i0 != j0))],.undef),(28,[(4,.g ((i0 != j0)==true) (vL (eL (eB)) a1))],.undef),(29,[(5,.g ((i0 != j0)==true) (vL (eI .i64) r1))],.undef),(30,[(6,.g ((i0 != j0)==true) (vI j0))],.undef),(31,[(7,.g ((i0 != j0)==true) (vX (eI .i64) r1 ((j0).toNat *1)))],.undef),(32,[(8,.g ((i0 != j0)==true) (vI m1))],.undef),(33,[(9,.g ((i0 != j0)==true) (vL (eI .i64) r1))],.undef),(34,[(10,.g ((i0 != j0)==true) (vI i0))],.undef),(35,[(11,.g ((i0 != j0)==true) (vX (eI .i64) r1 ((i0).toNat *1)))],.undef),(36,[(12,.g ((i0 != j0)==true) (vI n1))],.undef),(37,[(13,.g ((i0 != j0)==true) (vB q2))],.undef),(38,[(14,vB m0)],.undef),(39,[(15,vB m0)],.undef),(40,[(16,.g (m0==true) (vL (eI .i64) r1))],.undef),(41,[(17,.g (m0==true) (vL (eL (eB)) a1))],.undef),(42,[(18,.g (m0==true) (vL (eI .i64) r1))],.undef),(43,[(19,.g (m0==true) (vI i0))],.undef),(44,[(20,.g (m0==true) (vX (eI .i64) r1 ((i0).toNat *1)))],.undef),(45,[(21,.g (m0==true) (vI o1))],.undef),(46,[(22,.g (m0==true) (vL (eI .i64) t2))],.undef),(47,[(23,.g (m0==true) (vL (eI .i64) r1))],.undef),(48,[(24,.g (m0==true) (vI j0))],.undef),(49,[(25,.g (m0==true) (vX (eI .i64) r1 ((j0).toNat *1)))],.undef),(50,[(26,.g (m0==true) (vI p1))],.undef),(51,[(27,.g (m0==true) (vB m2))],.undef),(52,[(28,.g (m0==true) (vB (!m2)))],.undef),(53,[(29,vB p2)],.undef)],[([],some (BA [6] 3 1 (eI .i64) q0))],[],[]⟩ _ (bC (aN)<|bC (aN)<|bC (aN)<|bC (aN)<|bC (aN)<|bC (aN)<|bC (aN)<|bC (aC (fun hg:((i0 != j0)==true)=true=>aC (gi ((i0 != j0)==true))<|aC (gi ((i0 != j0)==true))<|aC (Sf y1 hg).1<|aN)<|aN)<|bC (aC (fun hg:((i0 != j0)==true)=true=>aC (gi ((i0 != j0)==true))<|aC (Pg (U7 y1 hg) (U9 .i64) 0 1 false (vI m1))<|aC (Eq.refl (vI m1))<|aN)<|aN)<|bC (aN)<|bC (aN)<|bC (aC (fun hg:((i0 != j0)==true)=true=>aC (gi ((i0 != j0)==true))<|aC (gi ((i0 != j0)==true))<|aC (Sf z1 hg).1<|aN)<|aN)<|bC (aC (fun hg:((i0 != j0)==true)=true=>aC (gi ((i0 != j0)==true))<|aC (Pg (U7 z1 hg) (U9 .i64) 0 1 false (vI n1))<|aC (Eq.refl (vI n1))<|aN)<|aN)<|bC (aC (c3 i3 ii)<|aN)<|bC (aT (i0 != j0)<|aB x2<|aN)<|bC (aN)<|bC (aN)<|bC (aN)<|bC (aN)<|bC (aN)<|bC (aC (fun hg:(m0==true)=true=>aC (gi (m0==true))<|aC (gi (m0==true))<|aC (Sf d2 hg).1<|aN)<|aN)<|bC (aC (fun hg:(m0==true)=true=>aC (gi (m0==true))<|aC (Pg (U7 d2 hg) (U9 .i64) 0 1 false (vI o1))<|aC (Eq.refl (vI o1))<|aN)<|aN)<|bC (aC (c3 j3 X3)<|aN)<|bC (aN)<|bC (aN)<|bC (aC (fun hg:(m0==true)=true=>aC (gi (m0==true))<|aC (gi (m0==true))<|aC (Sf i2 hg).1<|aN)<|aN)<|bC (aC (fun hg:(m0==true)=true=>aC (gi (m0==true))<|aC (Pg (U7 i2 hg) (U9 .i64) 0 1 false (vI p1))<|aC (Eq.refl (vI p1))<|aN)<|aN)<|bC (aC (c2 k3 lG)<|aN)<|bC (aG (m0==true)<|aN)<|bC (aT m0<|aB y2<|aN)<|bN)<|Tn<|Gs (u [21,24,25,26,27,28,29,30,31,32,33,34,35,36,37,38,39,40,41,42,43,44,45,46,47,48,49,50,51,52] [])<|iC k0 (fun k0=>?_) (fun k0=>?_)
       ·refine Ge [.a] (u [] [(8,vB false)]) (aN)<|qN<|Tn ⟨false,k0,wT⟩
       refine hK<|qN<|Tn ⟨p0,k0,wT⟩
      rintro x0 z0
      replace z0:DB i0 x0=some k1:=z0
      unfold DB at z0
      refine Ge (nA 3) (u [] [(9,vI (Ac (i0+1))),(22,vI i0),(23,vI (Ac (i0+1)))]) (aN)<|Tn ⟨(x0,(Ac (i0+1))),(sI z0).symm,wT⟩
     refine hE<|Te ?_
     obtain rfl:=o2 _ (sI k0).symm
     refine Te<|qX<|Tn ⟨p0,o0,wT⟩
    rintro t0 n0
    replace n0:Et r1 j0 q0 t0=some j1:=n0
    unfold Et at n0
    refine Gg [.a] (u [8] [(54,vB t0)]) (aN)<|iC n0 (fun n0=>?_) (fun n0=>?_)
    ·obtain⟨i1,x1,t1,j2,n0⟩:=YG n0
     refine Ge [.a,.a,.a,.a,(.v (vI i1)),.a,(.e t1.length (t1.flatMap (eI .i64))),.a] (uo [] [(56,vL (eI .i64) r1),(57,vI j0),(58,vX (eI .i64) r1 ((j0).toNat *1)),(59,vI i1),(60,vO [60]),(61,vO [6])] [.e (BA [6] 3 1 (eI .i64) t1),.e (BA [60] 3 1 (eI .i64) ([i1]:List (Int)))]) (aC (BS x1)<|aC (Pg x1 (U9 .i64) 0 1 false (vI i1))<|aC (Eq.refl (vI i1))<|aC (Z7 j2 (eI .i64))<|aC (DL j2)<|aN)<|qN<|Tn ⟨t1,n0,wT⟩
    refine hK<|qN<|Tn ⟨q0,n0,wT⟩
   rintro d1 y0
   replace y0:DA j0 d1=some j1:=y0
   unfold DA at y0
   refine Re (nA 3) (sl 63 [(1,vL (eL (eB)) a1),(5,vL (eI .i64) r1),(6,vO [6]),(7,vI (Ac (j0+1))),(16,vI j0),(17,vI (Ac (j0+1)))] [BA [6] 3 1 (eI .i64) d1]) (aN)<|Tn ⟨((Ac (j0+1)),d1),(sI y0).symm,wT⟩
  refine hE<|Te ?_
  obtain rfl:=d3 _ (sI o0).symm
  refine Te<|qX<|Tn ⟨q0,h,wT⟩
 rintro k2 q1
 replace q1:Hh k2=some r:=q1
 unfold Hh at q1
 exact Gg [.a,.a] (u [6] [(4,vO [6])]) (aN)<|hR<|bE (vO [6]) (vL (eI .i64) k2) (congrArg (vL (eI .i64)) (sI q1))def E_r07_Ready:CE TE Tryz.prog I0:=⟨105,[.k (.lst 3), .k (.lst 52)],[.k (.lst 3)],fun x=>Hv x.1 x.2.1,fun x r h=>Cz (by kernel_rfl) (dN (r:=r) h)⟩
end Go.PL
