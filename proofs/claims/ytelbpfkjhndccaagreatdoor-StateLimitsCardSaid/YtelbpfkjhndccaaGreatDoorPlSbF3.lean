/- Functions of the program, as partial functions in Lean, with proofs. -/
import Derived.Test.YtelbpfkjhndccaaGreatDoorPlSbB
namespace Go.PL
open Go Go.RowKit Go.Proofs
set_option maxRecDepth 100000
set_option linter.all false
set_option maxHeartbeats 4000000
attribute [local irreducible] Ai B4 BL
def If (l14_11_1:List (Au)) (l1001_7_3:List (Ao)) (l1003_7_4:List (Int)) (l1004_7_5:List (Bw)) (l1005_7_6:List (AZ)) (l1006_7_7:List (Ci)) (l1016_7_8:List (Int)):Option (Aj):=
 some (⟨l14_11_1,l1001_7_3,([]:List (Int)),l1003_7_4,l1004_7_5,l1005_7_6,l1006_7_7,0,0,0,false,0,0,100000,100000,1,l1016_7_8,0,(-1:Int)⟩:Aj)
def CB (i_t8_17:Int) (l1001_7_32:List (Ao)) (l1003_7_33:List (Int)) (l1004_7_34:List (Bw)) (l1005_7_35:List (AZ)) (l1006_7_36:List (Ci)) (l1016_7_37:List (Int)):Option ((Int×(List (Ao))×(List (Int))×(List (Bw))×(List (AZ))×(List (Ci))×(List (Int)))⊕(((List (Ao))×(List (Int))×(List (Bw))×(List (AZ))×(List (Ci))×(List (Int))))):=
 some (.inl ((Ab (i_t8_17+1)),l1001_7_32,l1003_7_33,l1004_7_34,l1005_7_35,l1006_7_36,l1016_7_37))
def Fq (a0:EC) (a1:Int) (a2:Int) (i_t8_17:Int) (l1001_7_18:List (Ao)) (l1003_7_19:List (Int)) (l1004_7_20:List (Bw)) (l1005_7_21:List (AZ)) (l1006_7_22:List (Ci)) (l1016_7_23:List (Int)):Option ((Int×(List (Ao))×(List (Int))×(List (Bw))×(List (AZ))×(List (Ci))×(List (Int)))⊕(((List (Ao))×(List (Int))×(List (Bw))×(List (AZ))×(List (Ci))×(List (Int))))):=
 (if(decide (i_t8_17<a2))=true then
  (if(a1==0)=true then
   (app 824 l1004_7_20 ([{a0.Item with Id:=Ab (i_t8_17+1)}]:List (Bw))).bind fun l40=>
   CB i_t8_17 l1001_7_18 l1003_7_19 l40 l1005_7_21 l1006_7_22 l1016_7_23
  else
   (if(a1==1)=true then
    (app 768 l1005_7_21 ([a0.Waiting]:List (AZ))).bind fun l42=>
    CB i_t8_17 l1001_7_18 l1003_7_19 l1004_7_20 l42 l1006_7_22 l1016_7_23
   else
    (if(a1==2)=true then
     (app 8 l1016_7_23 ([Int.tmod i_t8_17 (2:Int)]:List (Int))).bind fun l44=>
     CB i_t8_17 l1001_7_18 l1003_7_19 l1004_7_20 l1005_7_21 l1006_7_22 l44
    else
     (if(a1==3)=true then
      (app 128 l1001_7_18 ([{{a0.Object with Id:=Ab (i_t8_17+1)}with Zone:=(4:Int)}]:List (Ao))).bind fun l46=>
      (app 8 l1003_7_19 ([Ab (i_t8_17+1)]:List (Int))).bind fun l47=>
      CB i_t8_17 l46 l47 l1004_7_20 l1005_7_21 l1006_7_22 l1016_7_23
     else
      (app 80 l1006_7_22 ([a0.Cont]:List (Ci))).bind fun l48=>
      CB i_t8_17 l1001_7_18 l1003_7_19 l1004_7_20 l1005_7_21 l48 l1016_7_23))))
 else
  some (.inr (l1001_7_18,l1003_7_19,l1004_7_20,l1005_7_21,l1006_7_22,l1016_7_23)))
def EO (a0:EC) (a1:Int) (a2:Int) (l14_11_1:List (Au)):Option (Aj):=
 (iter (fun(v:Int×(List (Ao))×(List (Int))×(List (Bw))×(List (AZ))×(List (Ci))×(List (Int)))=>Fq a0 a1 a2 v.1 v.2.1 v.2.2.1 v.2.2.2.1 v.2.2.2.2.1 v.2.2.2.2.2.1 v.2.2.2.2.2.2) FU ((0:Int),([]:List (Ao)),([]:List (Int)),([]:List (Bw)),([]:List (AZ)),([]:List (Ci)),([]:List (Int)))).bind (fun o0=>If l14_11_1 o0.1 o0.2.1 o0.2.2.1 o0.2.2.2.1 o0.2.2.2.2.1 o0.2.2.2.2.2)
def Fs (a0:EC) (a1:Int) (a2:Int) (l14_11_51:List (Au)):Option (Aj):=
 EO a0 a1 a2 l14_11_51
def Ht (a0:EC) (a1:Int) (a2:Int) (l14_11_51:List (Au)):Option (Aj):=
 (some (if(decide ((0:Int)<(0:Int)))=true then decide (0<(if 4<(if(2:Int)<(2:Int)then(2:Int)else(2:Int))then(4:Int)else(if(2:Int)<(2:Int)then(2:Int)else(2:Int))))else false)).bind fun b54=>
 (if b54=true then
  Fs a0 a1 a2 l14_11_51
 else
  Fs a0 a1 a2 l14_11_51)
def Jh (l49:List (Au)) (vt20_58:Int) (l14_11_59:List (Au)):Option ((Int×(List (Au)))⊕((List (Au)))):=
 (if(decide (vt20_58<(l49.length:Int)))=true then
  (idx l14_11_59 vt20_58).bind fun e63=>
  (some (l14_11_59.set (vt20_58).toNat ({e63 with Life:=(20:Int)}))).bind fun l64=>
  some (.inl ((Ab (vt20_58+1)),l64))
 else
  some (.inr l14_11_59))
def Dm (a0:EC) (a1:Int) (a2:Int):Option (Aj):=
 (need (0≤(if 4<(if(2:Int)<(2:Int)then(2:Int)else(2:Int))then(4:Int)else(if(2:Int)<(2:Int)then(2:Int)else(2:Int)))∧(if 4<(if(2:Int)<(2:Int)then(2:Int)else(2:Int))then(4:Int)else(if(2:Int)<(2:Int)then(2:Int)else(2:Int)))≤(if 4<(if(2:Int)<(2:Int)then(2:Int)else(2:Int))then(4:Int)else(if(2:Int)<(2:Int)then(2:Int)else(2:Int)))∧(if 4<(if(2:Int)<(2:Int)then(2:Int)else(2:Int))then(4:Int)else(if(2:Int)<(2:Int)then(2:Int)else(2:Int)))*152≤140737488355328∧(if 4<(if(2:Int)<(2:Int)then(2:Int)else(2:Int))then(4:Int)else(if(2:Int)<(2:Int)then(2:Int)else(2:Int)))≤maxLen)).bind fun u50=>
 (some (List.replicate ((if 4<(if(2:Int)<(2:Int)then(2:Int)else(2:Int))then(4:Int)else(if(2:Int)<(2:Int)then(2:Int)else(2:Int)))).toNat (⟨0,0,0,(⟨0,0,0,0,0,0⟩:A6 (Int)),false,false,([]:List (Int)),([]:List (Int)),([]:List (Int))⟩:Au))).bind fun l49=>
 (iter (fun(v:Int×(List (Au)))=>Jh l49 v.1 v.2) FU ((0:Int),l49)).bind (fun o0=>Ht a0 a1 a2 o0)
def Us (a0:EC) (a1:Int) (a2:Int) (r:Aj):Prop:=Ah Tryz.prog I0 9 [vA Eg a0,vI a1,vI a2] (· =vA Am r)
theorem Ig {a0:EC} {a1:Int} {a2:Int} {r:Aj} (h:Dm a0 a1 a2=some r):Us a0 a1 a2 r:=by
 refine Ah.bo Ag Tryz.func9 rfl Tryz.ntmps9 [.cell 6 31] fun _ _ _ _=>?_
 unfold Dm at h
 refine Gg [.a,.a] (uo [0] [(3,vP [3] (0)),(6,vP [6] (0))] [.e (bx [6] [.nils,.nils,.nils,.nils,.nils,.nils,.nils,Aa 0,Aa 0,Aa 0,.bool false,Aa 0,Aa 0,Aa 0,Aa 0,.int .u64 0,.nils,Aa 0,Aa 0]),.e (bx [3] (Eg a0))]) (aN)<|hS<|hO<|Gp 0 [] (u [] []) (aN)<|Nj (X:=(List (Au))) (fun v=>(uo [] [(11,.agg [.osl [14,11],.nils,.nils,.nils,.nils,.nils,.nils,Aa 0,Aa 0,Aa 0,.bool false,Aa 0,Aa 0,Aa 1,Aa 1,.int .u64 1,.nils,Aa 0,Aa (-1:Int)])] [.e (Bl [14,11] 73 14 Ad v),.k 0,.k 1])) (fun v=>EO a0 a1 a2 v=some r) rfl rfl ?_ ?_
 ·refine Ei 11 [vI 2,vI 0,.c (.int .u64 1)] [] Tryz.func11 Tryz.ntmps11 [.cell 6 31] rfl rfl rfl rfl fun _ _ _ _=>Gg [.a] (uo [] [(6,vP [6,11] (0))] [.e (bx [6,11] [.nils,.nils,.nils,.nils,.nils,.nils,.nils,Aa 0,Aa 0,Aa 0,.bool false,Aa 0,Aa 0,Aa 0,Aa 0,.int .u64 0,.nils,Aa 0,Aa 0]),.k 0,.k 1]) (aN)<|Gg (nA 4) (u [0] [(7,vI (if 4<(if(2:Int)<(2:Int)then(2:Int)else(2:Int))then(4:Int)else(if(2:Int)<(2:Int)then(2:Int)else(2:Int))))]) (aC (show (True∧(True∧True))∧True from⟨⟨trivial,⟨trivial,trivial⟩⟩,trivial⟩)<|aC (show (True∧(True∧True))∧True from⟨⟨trivial,⟨trivial,trivial⟩⟩,trivial⟩)<|aN) ?_
  obtain⟨q4,k4,i2,j4,h⟩:=JX h
  refine Gg [.a,(.e i2.length (i2.flatMap Ad)),.a,.a,.a,.a] (uo [2] [(8,vP [8,11] (0))] [.e (bx [8,11] [.osl [14,11],.nils,.nils,.nils,.nils,.nils,.nils,Aa 0,Aa 0,Aa 0,.bool false,Aa 0,Aa 0,Aa 1,Aa 1,.int .u64 1,.nils,Aa 0,Aa (-1:Int)]),.e (Bl [14,11] 73 14 Ad i2),.k 0,.k 1,.k 2]) (aC (pt j4 Ad)<|aC (GU k4)<|aC (And.intro (show True∧(True∧(True∧(True∧(True∧True))))from⟨trivial,⟨trivial,⟨trivial,⟨trivial,⟨trivial,trivial⟩⟩⟩⟩⟩) jy)<|aN)<|Sj (X:=(List (Au))) (fun v=>(sg 41 [(1,vI 0),(6,vP [6,11] (0)),(7,vI (if 4<(if(2:Int)<(2:Int)then(2:Int)else(2:Int))then(4:Int)else(if(2:Int)<(2:Int)then(2:Int)else(2:Int)))),(8,vP [8,11] (0))] [bx [8,11] [.osl [14,11],.nils,.nils,.nils,.nils,.nils,.nils,Aa 0,Aa 0,Aa 0,.bool false,Aa 0,Aa 0,Aa 1,Aa 1,.int .u64 1,.nils,Aa 0,Aa (-1:Int)],Bl [14,11] 73 14 Ad v,bx [6,11] [.nils,.nils,.nils,.nils,.nils,.nils,.nils,Aa 0,Aa 0,Aa 0,.bool false,Aa 0,Aa 0,Aa 0,Aa 0,.int .u64 0,.nils,Aa 0,Aa 0],bx [6] [.nils,.nils,.nils,.nils,.nils,.nils,.nils,Aa 0,Aa 0,Aa 0,.bool false,Aa 0,Aa 0,Aa 0,Aa 0,.int .u64 0,.nils,Aa 0,Aa 0],bx [3] (Eg a0)] 80 [(1,vI a1),(2,vI a2),(3,vP [3] (0)),(6,vP [6] (0))] [11])) (fun v=>Ht a0 a1 a2 v=some r) ?_ ?_
  ·refine Rg (nA 4) (sg 41 [(1,vI 0),(6,vP [6,11] (0)),(7,vI (if 4<(if(2:Int)<(2:Int)then(2:Int)else(2:Int))then(4:Int)else(if(2:Int)<(2:Int)then(2:Int)else(2:Int)))),(8,vP [8,11] (0)),(19,vI (i2.length:Int)),(20,vI 0)] [bx [8,11] [.osl [14,11],.nils,.nils,.nils,.nils,.nils,.nils,Aa 0,Aa 0,Aa 0,.bool false,Aa 0,Aa 0,Aa 1,Aa 1,.int .u64 1,.nils,Aa 0,Aa (-1:Int)],Bl [14,11] 73 14 Ad i2,bx [6,11] [.nils,.nils,.nils,.nils,.nils,.nils,.nils,Aa 0,Aa 0,Aa 0,.bool false,Aa 0,Aa 0,Aa 0,Aa 0,.int .u64 0,.nils,Aa 0,Aa 0],bx [6] [.nils,.nils,.nils,.nils,.nils,.nils,.nils,Aa 0,Aa 0,Aa 0,.bool false,Aa 0,Aa 0,Aa 0,Aa 0,.int .u64 0,.nils,Aa 0,Aa 0],bx [3] (Eg a0)] 80 [(1,vI a1),(2,vI a2),(3,vP [3] (0)),(6,vP [6] (0))] [11]) (aN)<|hB ?_
   obtain⟨p4,x3,h⟩:=bS h
   refine Gi (fun(v:Int×(List (Au)))=>(uo [] [(20,vI v.1)] [.k 0,.e (Bl [14,11] 73 14 Ad v.2),.k 2,.k 3,.k 4])) x3 (wT) ?_
   rintro⟨m0,y0⟩ m4 z0 z3
   replace z0:Jh i2 m0 y0=some m4:=z0
   unfold Jh at z0
   refine Gg [.a] (u [] [(21,vB (decide (m0<(i2.length:Int))))]) (aN)<|hS<|iC z0 (fun z0=>?_) (fun z0=>?_)
   ·refine hK<|Tn<|hS<|hB<|Gg [.a,.a] (u [21] [(9,vI m0)]) (aN) ?_
    obtain⟨n4,i3,k2,q3,z0⟩:=JX z0
    refine Ge [.a,.a,.a,.a,.a,(.e k2.length (k2.flatMap (Ad)))] (uo [] [(23,vP [8,11] (0)),(24,vO [14,11]),(25,vI m0),(26,vP [14,11] ((m0).toNat *14)),(27,vP [14,11] ((m0).toNat *14+0))] [.k 0,.e (Bl [14,11] 73 14 Ad k2),.k 2,.k 3,.k 4]) (aC (Bm i3)<|aC (show (m0).toNat *14+0+1≤(y0.flatMap (Ad)).length ∧(y0.flatMap (Ad)).take ((m0).toNat *14+0)++([Aa 20]:List C)++(y0.flatMap (Ad)).drop ((m0).toNat *14+0+([Aa 20]:List C).length)=k2.flatMap (Ad)from(by rw [←sI q3];exact Xc (e:=Ad) (N:=14) (l:=y0) (i:=m0) (x':=({n4 with Life:=(20:Int)})) (o:=0) (base:=0) (cs:=([Aa 20]:List C)) (pre:=[]) (post:=[]) (by simp) rfl (by simp) rfl i3 C1 (by omega) (Nat.le_of_ble_eq_true (by kernel_rfl)) (by kernel_rfl)))<|aC (show ((some (73,14,k2.length):Option (TypeId×Nat×Nat))=some (73,14,y0.length))∧True from⟨by rw [←sI q3,List.length_set],trivial⟩)<|aN)<|qN<|Tn<|Ge [.a,.a] (u [] [(20,vI (Ab (m0+1))),(28,vI (Ab (m0+1)))]) (aN)<|Tn ⟨((Ab (m0+1)),k2),(sI z0).symm,wT⟩
   refine hE<|Te ?_
   obtain rfl:=z3 _ (sI z0).symm
   refine Te<|qX<|Tn ⟨y0,h,wT⟩
  rintro d1 i1
  replace i1:Ht a0 a1 a2 d1=some r:=i1
  unfold Ht at i1
  refine Gj (X:=Unit) (fun v=>(u [1,7] [])) (fun v=>Fs a0 a1 a2 d1=some r) ?_ ?_
  ·obtain⟨d4,i4,i1⟩:=bS i1
   refine Gg [.a,.a,.a,.a,.a,.a,(.v (vB d4))] (u [7] [(35,vB d4)]) (aH ((decide ((0:Int)<(0:Int)))==true)<|aT (decide ((0:Int)<(0:Int)))<|aB i4<|aN)<|iC i1 (fun i1=>?_) (fun i1=>?_)
   ·refine Ge (nA 6) (u [] [(36,vI 0),(37,vI 0),(38,vP [8,11] (8)),(39,vP [8,11] (11))]) (aN)<|Tn ⟨(),i1,wT⟩
   refine hK<|Tn ⟨(),i1,wT⟩
  rintro _ n2
  replace n2:Fs a0 a1 a2 d1=some r:=n2
  unfold Fs at n2
  refine Gg [.a,.a] (uo [8] [] [.k 1,.s 2 [(0,.osl [14,11]),(13,Aa 1),(14,Aa 1),(15,.int .u64 1),(18,Aa (-1:Int))],.k 3,.k 4]) (aN)<|hR<|nR (.agg [.osl [14,11],.nils,.nils,.nils,.nils,.nils,.nils,Aa 0,Aa 0,Aa 0,.bool false,Aa 0,Aa 0,Aa 1,Aa 1,.int .u64 1,.nils,Aa 0,Aa (-1:Int)]) ⟨d1,n2,lT⟩
 rintro k0 j2
 replace j2:EO a0 a1 a2 k0=some r:=j2
 unfold EO at j2
 refine Gw [.a,.a] (uo [] [(7,vP [7] (0))] [.e (bx [7] [.osl [14,11],.nils,.nils,.nils,.nils,.nils,.nils,Aa 0,Aa 0,Aa 0,.bool false,Aa 0,Aa 0,Aa 1,Aa 1,.int .u64 1,.nils,Aa 0,Aa (-1:Int)]),.k 0,.k 1,.k 2]) (aN)<|Tn<|Gg (nA 4) (uo [11] [] [.s 0 [(13,Aa 100000),(14,Aa 100000)],.k 1,.k 2,.k 3]) (aN)<|Ow [7] 1 [1001,7] 63 19 (sl 80 [(1,vI a1),(2,vI a2),(3,vP [3] (0)),(6,vP [6] (0)),(7,vP [7] (0))] [Bl [1001,7] 63 19 Ac ([]:List (Ao)),bx [7] [.osl [14,11],.osl [1001,7],.nils,.nils,.nils,.nils,.nils,Aa 0,Aa 0,Aa 0,.bool false,Aa 0,Aa 0,Aa 100000,Aa 100000,.int .u64 1,.nils,Aa 0,Aa (-1:Int)],Bl [14,11] 73 14 Ad k0,bx [6] [.nils,.nils,.nils,.nils,.nils,.nils,.nils,Aa 0,Aa 0,Aa 0,.bool false,Aa 0,Aa 0,Aa 0,Aa 0,.int .u64 0,.nils,Aa 0,Aa 0],bx [3] (Eg a0)])<|Ow [7] 3 [1003,7] 3 1 (sl 80 [(1,vI a1),(2,vI a2),(3,vP [3] (0)),(6,vP [6] (0)),(7,vP [7] (0))] [Bl [1003,7] 3 1 (eI .i64) ([]:List (Int)),Bl [1001,7] 63 19 Ac ([]:List (Ao)),bx [7] [.osl [14,11],.osl [1001,7],.nils,.osl [1003,7],.nils,.nils,.nils,Aa 0,Aa 0,Aa 0,.bool false,Aa 0,Aa 0,Aa 100000,Aa 100000,.int .u64 1,.nils,Aa 0,Aa (-1:Int)],Bl [14,11] 73 14 Ad k0,bx [6] [.nils,.nils,.nils,.nils,.nils,.nils,.nils,Aa 0,Aa 0,Aa 0,.bool false,Aa 0,Aa 0,Aa 0,Aa 0,.int .u64 0,.nils,Aa 0,Aa 0],bx [3] (Eg a0)])<|Ow [7] 4 [1004,7] 57 94 (sl 80 [(1,vI a1),(2,vI a2),(3,vP [3] (0)),(6,vP [6] (0)),(7,vP [7] (0))] [Bl [1004,7] 57 94 An ([]:List (Bw)),Bl [1003,7] 3 1 (eI .i64) ([]:List (Int)),Bl [1001,7] 63 19 Ac ([]:List (Ao)),bx [7] [.osl [14,11],.osl [1001,7],.nils,.osl [1003,7],.osl [1004,7],.nils,.nils,Aa 0,Aa 0,Aa 0,.bool false,Aa 0,Aa 0,Aa 100000,Aa 100000,.int .u64 1,.nils,Aa 0,Aa (-1:Int)],Bl [14,11] 73 14 Ad k0,bx [6] [.nils,.nils,.nils,.nils,.nils,.nils,.nils,Aa 0,Aa 0,Aa 0,.bool false,Aa 0,Aa 0,Aa 0,Aa 0,.int .u64 0,.nils,Aa 0,Aa 0],bx [3] (Eg a0)])<|Ow [7] 5 [1005,7] 59 89 (sl 80 [(1,vI a1),(2,vI a2),(3,vP [3] (0)),(6,vP [6] (0)),(7,vP [7] (0))] [Bl [1005,7] 59 89 Ak ([]:List (AZ)),Bl [1004,7] 57 94 An ([]:List (Bw)),Bl [1003,7] 3 1 (eI .i64) ([]:List (Int)),Bl [1001,7] 63 19 Ac ([]:List (Ao)),bx [7] [.osl [14,11],.osl [1001,7],.nils,.osl [1003,7],.osl [1004,7],.osl [1005,7],.nils,Aa 0,Aa 0,Aa 0,.bool false,Aa 0,Aa 0,Aa 100000,Aa 100000,.int .u64 1,.nils,Aa 0,Aa (-1:Int)],Bl [14,11] 73 14 Ad k0,bx [6] [.nils,.nils,.nils,.nils,.nils,.nils,.nils,Aa 0,Aa 0,Aa 0,.bool false,Aa 0,Aa 0,Aa 0,Aa 0,.int .u64 0,.nils,Aa 0,Aa 0],bx [3] (Eg a0)])<|Ow [7] 6 [1006,7] 61 6 (sl 80 [(1,vI a1),(2,vI a2),(3,vP [3] (0)),(6,vP [6] (0)),(7,vP [7] (0))] [Bl [1006,7] 61 6 Ar ([]:List (Ci)),Bl [1005,7] 59 89 Ak ([]:List (AZ)),Bl [1004,7] 57 94 An ([]:List (Bw)),Bl [1003,7] 3 1 (eI .i64) ([]:List (Int)),Bl [1001,7] 63 19 Ac ([]:List (Ao)),bx [7] [.osl [14,11],.osl [1001,7],.nils,.osl [1003,7],.osl [1004,7],.osl [1005,7],.osl [1006,7],Aa 0,Aa 0,Aa 0,.bool false,Aa 0,Aa 0,Aa 100000,Aa 100000,.int .u64 1,.nils,Aa 0,Aa (-1:Int)],Bl [14,11] 73 14 Ad k0,bx [6] [.nils,.nils,.nils,.nils,.nils,.nils,.nils,Aa 0,Aa 0,Aa 0,.bool false,Aa 0,Aa 0,Aa 0,Aa 0,.int .u64 0,.nils,Aa 0,Aa 0],bx [3] (Eg a0)])<|Ow [7] 16 [1016,7] 3 1 (sl 80 [(1,vI a1),(2,vI a2),(3,vP [3] (0)),(6,vP [6] (0)),(7,vP [7] (0))] [Bl [1016,7] 3 1 (eI .i64) ([]:List (Int)),Bl [1006,7] 61 6 Ar ([]:List (Ci)),Bl [1005,7] 59 89 Ak ([]:List (AZ)),Bl [1004,7] 57 94 An ([]:List (Bw)),Bl [1003,7] 3 1 (eI .i64) ([]:List (Int)),Bl [1001,7] 63 19 Ac ([]:List (Ao)),bx [7] [.osl [14,11],.osl [1001,7],.nils,.osl [1003,7],.osl [1004,7],.osl [1005,7],.osl [1006,7],Aa 0,Aa 0,Aa 0,.bool false,Aa 0,Aa 0,Aa 100000,Aa 100000,.int .u64 1,.osl [1016,7],Aa 0,Aa (-1:Int)],Bl [14,11] 73 14 Ad k0,bx [6] [.nils,.nils,.nils,.nils,.nils,.nils,.nils,Aa 0,Aa 0,Aa 0,.bool false,Aa 0,Aa 0,Aa 0,Aa 0,.int .u64 0,.nils,Aa 0,Aa 0],bx [3] (Eg a0)])<|Gj (X:=(List (Ao))×(List (Int))×(List (Bw))×(List (AZ))×(List (Ci))×(List (Int))) (fun v=>(uo [1,2,3] [] [.e (Bl [1016,7] 3 1 (eI .i64) v.2.2.2.2.2),.e (Bl [1006,7] 61 6 Ar v.2.2.2.2.1),.e (Bl [1005,7] 59 89 Ak v.2.2.2.1),.e (Bl [1004,7] 57 94 An v.2.2.1),.e (Bl [1003,7] 3 1 (eI .i64) v.2.1),.e (Bl [1001,7] 63 19 Ac v.1),.k 6,.k 7,.k 8])) (fun v=>If k0 v.1 v.2.1 v.2.2.1 v.2.2.2.1 v.2.2.2.2.1 v.2.2.2.2.2=some r) ?_ ?_
 ·refine Gg [.a] (u [] [(8,vI 0)]) (aN)<|hB ?_
  obtain⟨o4,t3,j2⟩:=bS j2
  refine Gi (fun(v:Int×(List (Ao))×(List (Int))×(List (Bw))×(List (AZ))×(List (Ci))×(List (Int)))=>(uo [] [(8,vI v.1)] [.e (Bl [1016,7] 3 1 (eI .i64) v.2.2.2.2.2.2),.e (Bl [1006,7] 61 6 Ar v.2.2.2.2.2.1),.e (Bl [1005,7] 59 89 Ak v.2.2.2.2.1),.e (Bl [1004,7] 57 94 An v.2.2.2.1),.e (Bl [1003,7] 3 1 (eI .i64) v.2.2.1),.e (Bl [1001,7] 63 19 Ac v.2.1),.k 6,.k 7,.k 8,.k 9])) t3 (wT) ?_
  rintro⟨j0,x0,n0,o0,p0,q0,t0⟩ o2 i0 y3
  replace i0:Fq a0 a1 a2 j0 x0 n0 o0 p0 q0 t0=some o2:=i0
  unfold Fq at i0
  refine hS<|Rg (nA 3) (sl 80 [(1,vI a1),(2,vI a2),(3,vP [3] (0)),(6,vP [6] (0)),(7,vP [7] (0)),(8,vI j0),(16,vB (decide (j0<a2)))] [Bl [1016,7] 3 1 (eI .i64) t0,Bl [1006,7] 61 6 Ar q0,Bl [1005,7] 59 89 Ak p0,Bl [1004,7] 57 94 An o0,Bl [1003,7] 3 1 (eI .i64) n0,Bl [1001,7] 63 19 Ac x0,bx [7] [.osl [14,11],.osl [1001,7],.nils,.osl [1003,7],.osl [1004,7],.osl [1005,7],.osl [1006,7],Aa 0,Aa 0,Aa 0,.bool false,Aa 0,Aa 0,Aa 100000,Aa 100000,.int .u64 1,.osl [1016,7],Aa 0,Aa (-1:Int)],Bl [14,11] 73 14 Ad k0,bx [6] [.nils,.nils,.nils,.nils,.nils,.nils,.nils,Aa 0,Aa 0,Aa 0,.bool false,Aa 0,Aa 0,Aa 0,Aa 0,.int .u64 0,.nils,Aa 0,Aa 0],bx [3] (Eg a0)]) (aN)<|iC i0 (fun i0=>?_) (fun i0=>?_)
  ·refine hK<|Tn<|Gj (X:=(List (Ao))×(List (Int))×(List (Bw))×(List (AZ))×(List (Ci))×(List (Int))) (fun v=>(uo [16] [] [.e (Bl [1004,7] 57 94 An v.2.2.1),.e (Bl [1016,7] 3 1 (eI .i64) v.2.2.2.2.2),.e (Bl [1006,7] 61 6 Ar v.2.2.2.2.1),.e (Bl [1005,7] 59 89 Ak v.2.2.2.1),.e (Bl [1003,7] 3 1 (eI .i64) v.2.1),.e (Bl [1001,7] 63 19 Ac v.1),.k 6,.k 7,.k 8,.k 9])) (fun v=>CB j0 v.1 v.2.1 v.2.2.1 v.2.2.2.1 v.2.2.2.2.1 v.2.2.2.2.2=some o2) ?_ ?_
   ·refine hB<|Gg [.a] (u [16] [(19,vI a1)]) (aN)<|hB<|Gg [.a,.a] (u [] [(27,vB (a1==0))]) (aN)<|iC i0 (fun i0=>?_) (fun i0=>?_)
    ·refine Gg (nA 4) (uo [19,27] [(9,vP [9] (0))] [.e (bx [9] (An a0.Item)),.k 0,.k 1,.k 2,.k 3,.k 4,.k 5,.k 6,.k 7,.k 8,.k 9]) (aN)<|Gg (nA 4) (uo [] [] [.e (bx [9] (An ({a0.Item with Id:=Ab (j0+1)}))),.k 1,.k 2,.k 3,.k 4,.k 5,.k 6,.k 7,.k 8,.k 9,.k 10]) (aN) ?_
     obtain⟨q2,j3,i0⟩:=bS i0
     refine Ge [.a,.a,.a,.a,(.e q2.length (q2.flatMap (An))),.a,.a] (uo [] [(34,vP [7] (4)),(36,vA An ({a0.Item with Id:=Ab (j0+1)})),(37,vO [37]),(38,vO [1004,7]),(39,vP [7] (4))] [.e (Bl [1004,7] 57 94 An q2),.e (Bl [37] 57 94 An ([{a0.Item with Id:=Ab (j0+1)}]:List (Bw))),.k 0,.k 1,.k 2,.k 3,.k 5,.k 6,.k 7,.k 8,.k 9,.k 10]) (aC (M4 j3 An)<|aC (Du j3)<|aN)<|qN<|qN<|Tn ⟨(x0,n0,q2,p0,q0,t0),i0,wT⟩
    refine Gg [.a,.a] (u [27] [(40,vB (a1==1))]) (aN)<|iC i0 (fun i0=>?_) (fun i0=>?_)
    ·obtain⟨t2,k3,i0⟩:=bS i0
     refine Ge [.a,.a,.a,.a,.a,(.e t2.length (t2.flatMap (Ak))),.a,.a] (uo [] [(42,vP [7] (5)),(44,vP [3] (94)),(45,vA Ak a0.Waiting),(46,vO [46]),(47,vO [1005,7]),(48,vP [7] (5))] [.e (Bl [1005,7] 59 89 Ak t2),.e (Bl [46] 59 89 Ak ([a0.Waiting]:List (AZ))),.k 0,.k 1,.k 3,.k 4,.k 5,.k 6,.k 7,.k 8,.k 9]) (aC (M4 k3 Ak)<|aC (Du k3)<|aN)<|qN<|qN<|Tn ⟨(x0,n0,o0,t2,q0,t0),i0,wU⟩
    refine Gg [.a,.a] (u [40] [(49,vB (a1==2))]) (aN)<|iC i0 (fun i0=>?_) (fun i0=>?_)
    ·obtain⟨x2,m3,i0⟩:=bS i0
     refine Ge [.a,.a,.a,.a,.a,(.e x2.length (x2.flatMap (eI .i64))),.a,.a] (uo [] [(51,vP [7] (16)),(53,vI j0),(54,vI (Int.tmod j0 (2:Int))),(55,vO [55]),(56,vO [1016,7]),(57,vP [7] (16))] [.e (Bl [1016,7] 3 1 (eI .i64) x2),.e (Bl [55] 3 1 (eI .i64) ([Int.tmod j0 (2:Int)]:List (Int))),.k 1,.k 2,.k 3,.k 4,.k 5,.k 6,.k 7,.k 8,.k 9]) (aC (show (2:Int) ≠ 0 from(by decide))<|aC (M4 m3 (eI .i64))<|aC (Du m3)<|aN)<|qN<|qN<|Tn ⟨(x0,n0,o0,p0,q0,x2),i0,wU⟩
    refine Gg [.a,.a] (u [19,49] [(58,vB (a1==3))]) (aN)<|iC i0 (fun i0=>?_) (fun i0=>?_)
    ·refine Gg (nA 4) (uo [58] [(10,vP [10] (0))] [.e (bx [10] (Ac a0.Object)),.k 0,.k 1,.k 2,.k 3,.k 4,.k 5,.k 6,.k 7,.k 8,.k 9]) (aN)<|Gg (nA 6) (uo [] [] [.e (bx [10] (Ac ({{a0.Object with Id:=Ab (j0+1)}with Zone:=(4:Int)}))),.k 1,.k 2,.k 3,.k 4,.k 5,.k 6,.k 7,.k 8,.k 9,.k 10]) (aN) ?_
     obtain⟨y2,n3,i0⟩:=bS i0
     refine Rg [.a,.a,.a,.a,(.e y2.length (y2.flatMap (Ac))),.a,.a] (sl 80 [(1,vI a1),(2,vI a2),(3,vP [3] (0)),(6,vP [6] (0)),(7,vP [7] (0)),(8,vI j0)] [Bl [1001,7] 63 19 Ac y2,Bl [1016,7] 3 1 (eI .i64) t0,Bl [1006,7] 61 6 Ar q0,Bl [1005,7] 59 89 Ak p0,Bl [1004,7] 57 94 An o0,Bl [1003,7] 3 1 (eI .i64) n0,bx [7] [.osl [14,11],.osl [1001,7],.nils,.osl [1003,7],.osl [1004,7],.osl [1005,7],.osl [1006,7],Aa 0,Aa 0,Aa 0,.bool false,Aa 0,Aa 0,Aa 100000,Aa 100000,.int .u64 1,.osl [1016,7],Aa 0,Aa (-1:Int)],Bl [14,11] 73 14 Ad k0,bx [6] [.nils,.nils,.nils,.nils,.nils,.nils,.nils,Aa 0,Aa 0,Aa 0,.bool false,Aa 0,Aa 0,Aa 0,Aa 0,.int .u64 0,.nils,Aa 0,Aa 0],bx [3] (Eg a0)]) (aC (M4 n3 Ac)<|aC (Du n3)<|aN) ?_
     obtain⟨z2,o3,i0⟩:=bS i0
     refine Ge [.a,.a,.a,.a,.a,(.e z2.length (z2.flatMap (eI .i64))),.a,.a] (uo [] [(72,vP [7] (3)),(74,vI j0),(75,vI (Ab (j0+1))),(76,vO [76]),(77,vO [1003,7]),(78,vP [7] (3))] [.e (Bl [1003,7] 3 1 (eI .i64) z2),.e (Bl [76] 3 1 (eI .i64) ([Ab (j0+1)]:List (Int))),.k 0,.k 1,.k 2,.k 3,.k 4,.k 6,.k 7,.k 8,.k 9]) (aC (M4 o3 (eI .i64))<|aC (Du o3)<|aN)<|qN<|qN<|Tn ⟨(y2,z2,o0,p0,q0,t0),i0,wU⟩
    obtain⟨d3,p3,i0⟩:=bS i0
    refine Ge [.a,.a,.a,.a,.a,(.e d3.length (d3.flatMap (Ar))),.a,.a] (uo [] [(20,vP [7] (6)),(22,vP [3] (183)),(23,vA Ar a0.Cont),(24,vO [24]),(25,vO [1006,7]),(26,vP [7] (6))] [.e (Bl [1006,7] 61 6 Ar d3),.e (Bl [24] 61 6 Ar ([a0.Cont]:List (Ci))),.k 0,.k 2,.k 3,.k 4,.k 5,.k 6,.k 7,.k 8,.k 9]) (aC (M4 p3 Ar)<|aC (Du p3)<|aN)<|qN<|qN<|Tn ⟨(x0,n0,o0,p0,d3,t0),i0,wU⟩
   rintro⟨j1,k1,m1,n1,o1,p1⟩ m2
   replace m2:CB j0 j1 k1 m1 n1 o1 p1=some o2:=m2
   unfold CB at m2
   refine Ge (nA 3) (u [] [(8,vI (Ab (j0+1))),(17,vI j0),(18,vI (Ab (j0+1)))]) (aN)<|Tn ⟨((Ab (j0+1)),j1,k1,m1,n1,o1,p1),(sI m2).symm,wU⟩
  refine hE<|Te ?_
  obtain rfl:=y3 _ (sI i0).symm
  refine Te<|qX<|Tn ⟨(x0,n0,o0,p0,q0,t0),j2,wT⟩
 rintro⟨q1,t1,x1,y1,z1,d2⟩ p2
 replace p2:If k0 q1 t1 x1 y1 z1 d2=some r:=p2
 unfold If at p2
 exact Gg [.a,.a] (uo [7] [] [.k 0,.k 1,.k 2,.k 3,.k 4,.k 5,.k 7,.s 8 [(0,.osl [14,11]),(1,.osl [1001,7]),(3,.osl [1003,7]),(4,.osl [1004,7]),(5,.osl [1005,7]),(6,.osl [1006,7]),(13,Aa 100000),(14,Aa 100000),(15,.int .u64 1),(16,.osl [1016,7]),(18,Aa (-1:Int))]]) (aN)<|hR<|bE (.agg [.osl [14,11],.osl [1001,7],.nils,.osl [1003,7],.osl [1004,7],.osl [1005,7],.osl [1006,7],Aa 0,Aa 0,Aa 0,.bool false,Aa 0,Aa 0,Aa 100000,Aa 100000,.int .u64 1,.osl [1016,7],Aa 0,Aa (-1:Int)]) (.agg (Am (⟨k0,q1,([]:List (Int)),t1,x1,y1,z1,0,0,0,false,0,0,100000,100000,1,d2,0,(-1:Int)⟩:Aj))) (congrArg (vA Am) (sI p2))
end Go.PL
