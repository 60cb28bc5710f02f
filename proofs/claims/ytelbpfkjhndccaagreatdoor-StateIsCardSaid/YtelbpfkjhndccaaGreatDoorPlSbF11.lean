/- Functions of the program, as partial functions in Lean, with proofs. -/
import Derived.Test.YtelbpfkjhndccaaGreatDoorPlSbB
import Derived.Test.YtelbpfkjhndccaaGreatDoorPlSbF2
import Derived.Test.YtelbpfkjhndccaaGreatDoorPlSbF4
import Derived.Test.YtelbpfkjhndccaaGreatDoorPlSbF7
import Derived.Test.YtelbpfkjhndccaaGreatDoorPlSbF8
namespace Go.PL
open Go Go.RowKit Go.Proofs
set_option maxRecDepth 100000
set_option linter.all false
set_option maxHeartbeats 4000000
attribute [local irreducible] Ak Ca BP
def II (l7_38:List (List UInt8)):Option ((List UInt8)):=
 (if((l7_38.length:Int)==0)=true then
  some Pl
 else
  (Qt l7_38 Zr).bind fun r41=>
  some r41)
def IJ (a0:Ag) (l7_35:List (List UInt8)):Option ((List UInt8)):=
 (FW Yy a0.Value).bind fun r37=>
 (if(r37==([]:List UInt8))=true then
  II l7_35
 else
  (app 16 l7_35 ([r37]:List (List UInt8))).bind fun l43=>
  II l43)
def IK (a0:Ag) (l7_32:List (List UInt8)):Option ((List UInt8)):=
 (FW Yx a0.Tough).bind fun r34=>
 (if(r34==([]:List UInt8))=true then
  IJ a0 l7_32
 else
  (app 16 l7_32 ([r34]:List (List UInt8))).bind fun l45=>
  IJ a0 l45)
def IL (a0:Ag) (l7_29:List (List UInt8)):Option ((List UInt8)):=
 (FW Yw a0.Power).bind fun r31=>
 (if(r31==([]:List UInt8))=true then
  IK a0 l7_29
 else
  (app 16 l7_29 ([r31]:List (List UInt8))).bind fun l47=>
  IK a0 l47)
def KE (a0:Ag) (r6:(List (List UInt8))) (l7_26:List (List UInt8)):Option ((List UInt8)):=
 (idx r6 a0.Tap).bind fun e28=>
 (if(e28==([]:List UInt8))=true then
  IL a0 l7_26
 else
  (app 16 l7_26 ([e28]:List (List UInt8))).bind fun l49=>
  IL a0 l49)
def KF (vt12_52:Int) (l7_57:List (List UInt8)):Option ((Int×(List (List UInt8)))⊕((List (List UInt8)))):=
 some (.inl ((Ab (vt12_52+1)),l7_57))
def KG (a0:Ag) (vt12_52:Int) (l7_53:List (List UInt8)):Option ((Int×(List (List UInt8)))⊕((List (List UInt8)))):=
 (if(decide (vt12_52<17))=true then
  (Mw a0.Keys vt12_52).bind fun r59=>
  (if r59=true then
   (Qx vt12_52).bind fun r61=>
   (cat Cx r61).bind fun s62=>
   (app 16 l7_53 ([s62]:List (List UInt8))).bind fun l63=>
   KF vt12_52 l63
  else
   KF vt12_52 l7_53)
 else
  some (.inr l7_53))
def G3 (a0:Ag) (r6:(List (List UInt8))) (l7_24:List (List UInt8)):Option ((List UInt8)):=
 (iter (fun(v:Int×(List (List UInt8)))=>KG a0 v.1 v.2) FU ((0:Int),l7_24)).bind (fun o0=>KE a0 r6 o0)
def KH (a0:Ag) (r6:(List (List UInt8))) (l7_22:List (List UInt8)):Option ((List UInt8)):=
 (if(a0.Sub != ([]:List UInt8))=true then
  (cat Lm a0.Sub).bind fun s65=>
  (app 16 l7_22 ([s65]:List (List UInt8))).bind fun l66=>
  G3 a0 r6 l66
 else
  G3 a0 r6 l7_22)
def KI (vt11_69:Int) (l7_74:List (List UInt8)):Option ((Int×(List (List UInt8)))⊕((List (List UInt8)))):=
 some (.inl ((Ab (vt11_69+1)),l7_74))
def KJ (a0:Ag) (vt11_69:Int) (l7_70:List (List UInt8)):Option ((Int×(List (List UInt8)))⊕((List (List UInt8)))):=
 (if(decide (vt11_69<5))=true then
  (Mw a0.NotColors vt11_69).bind fun r76=>
  (if r76=true then
   (OR vt11_69).bind fun r78=>
   (cat C6 r78).bind fun s79=>
   (app 16 l7_70 ([s79]:List (List UInt8))).bind fun l80=>
   KI vt11_69 l80
  else
   KI vt11_69 l7_70)
 else
  some (.inr l7_70))
def KK (a0:Ag) (r6:(List (List UInt8))) (l7_20:List (List UInt8)):Option ((List UInt8)):=
 (iter (fun(v:Int×(List (List UInt8)))=>KJ a0 v.1 v.2) FU ((0:Int),l7_20)).bind (fun o0=>KH a0 r6 o0)
def KL (vt10_83:Int) (l7_88:List (List UInt8)):Option ((Int×(List (List UInt8)))⊕((List (List UInt8)))):=
 some (.inl ((Ab (vt10_83+1)),l7_88))
def KM (a0:Ag) (vt10_83:Int) (l7_84:List (List UInt8)):Option ((Int×(List (List UInt8)))⊕((List (List UInt8)))):=
 (if(decide (vt10_83<5))=true then
  (Mw a0.Colors vt10_83).bind fun r90=>
  (if r90=true then
   (OR vt10_83).bind fun r92=>
   (app 16 l7_84 ([r92]:List (List UInt8))).bind fun l93=>
   KL vt10_83 l93
  else
   KL vt10_83 l7_84)
 else
  some (.inr l7_84))
def KN (a0:Ag) (r6:(List (List UInt8))) (l7_18:List (List UInt8)):Option ((List UInt8)):=
 (iter (fun(v:Int×(List (List UInt8)))=>KM a0 v.1 v.2) FU ((0:Int),l7_18)).bind (fun o0=>KK a0 r6 o0)
def Jt (vt9_96:Int) (l7_101:List (List UInt8)):Option ((Int×(List (List UInt8)))⊕((List (List UInt8)))):=
 some (.inl ((Ab (vt9_96+1)),l7_101))
def KO (a0:Ag) (vt9_96:Int) (l7_97:List (List UInt8)):Option ((Int×(List (List UInt8)))⊕((List (List UInt8)))):=
 (if(decide (vt9_96<6))=true then
  (Mw a0.NotTypes vt9_96).bind fun r103=>
  (if r103=true then
   (KD vt9_96).bind fun r105=>
   (cat C6 r105).bind fun s106=>
   (app 16 l7_97 ([s106]:List (List UInt8))).bind fun l107=>
   Jt vt9_96 l107
  else
   Jt vt9_96 l7_97)
 else
  some (.inr l7_97))
def KP (a0:Ag) (r6:(List (List UInt8))) (l7_16:List (List UInt8)):Option ((List UInt8)):=
 (iter (fun(v:Int×(List (List UInt8)))=>KO a0 v.1 v.2) FU ((0:Int),l7_16)).bind (fun o0=>KN a0 r6 o0)
def Ju (vt8_110:Int) (l7_115:List (List UInt8)):Option ((Int×(List (List UInt8)))⊕((List (List UInt8)))):=
 some (.inl ((Ab (vt8_110+1)),l7_115))
def Jv (a0:Ag) (vt8_110:Int) (l7_111:List (List UInt8)):Option ((Int×(List (List UInt8)))⊕((List (List UInt8)))):=
 (if(decide (vt8_110<6))=true then
  (Mw a0.Types vt8_110).bind fun r117=>
  (if r117=true then
   (KD vt8_110).bind fun r119=>
   (app 16 l7_111 ([r119]:List (List UInt8))).bind fun l120=>
   Ju vt8_110 l120
  else
   Ju vt8_110 l7_111)
 else
  some (.inr l7_111))
def IM (a0:Ag) (r6:(List (List UInt8))) (l7_14:List (List UInt8)):Option ((List UInt8)):=
 (iter (fun(v:Int×(List (List UInt8)))=>Jv a0 v.1 v.2) FU ((0:Int),l7_14)).bind (fun o0=>KP a0 r6 o0)
def IP (a0:Ag) (r5:(List (List UInt8))) (r6:(List (List UInt8))) (l7_11:List (List UInt8)):Option ((List UInt8)):=
 (idx r5 a0.Self).bind fun e13=>
 (if(e13==([]:List UInt8))=true then
  IM a0 r6 l7_11
 else
  (app 16 l7_11 ([e13]:List (List UInt8))).bind fun l122=>
  IM a0 r6 l122)
def Kb (a0:Ag) (r4:(List (List UInt8))) (r5:(List (List UInt8))) (r6:(List (List UInt8))) (l7_8:List (List UInt8)):Option ((List UInt8)):=
 (idx r4 a0.Who).bind fun e10=>
 (if(e10==([]:List UInt8))=true then
  IP a0 r5 r6 l7_8
 else
  (app 16 l7_8 ([e10]:List (List UInt8))).bind fun l124=>
  IP a0 r5 r6 l124)
def QE (a0:Ag):Option ((List UInt8)):=
 (Lc a0).bind fun r1=>
 (if(!r1)=true then
  some ([]:List UInt8)
 else
  (Of).bind fun r3=>
  (Pt).bind fun r4=>
  (Og).bind fun r5=>
  (Pu).bind fun r6=>
  (idx r3 a0.Zone).bind fun e7=>
  (if(e7==([]:List UInt8))=true then
   Kb a0 r4 r5 r6 ([]:List (List UInt8))
  else
   (app 16 ([]:List (List UInt8)) ([e7]:List (List UInt8))).bind fun l126=>
   Kb a0 r4 r5 r6 l126))
def fO (a0:Ag) (r:(List UInt8)):Prop:=Af Tryz.prog I0 167 [vA As a0] (· =vS r)
theorem cN {a0:Ag} {r:(List UInt8)} (h:QE a0=some r):fO a0 r:=by
 refine Af.bo Ae Tryz.func167 rfl Tryz.ntmps167 [.tmp 2] fun _ _ _ _=>?_
 unfold QE at h
 refine Rg [.a,.a] (sl 145 [(1,vP [1] (0))] [bx [1] (As a0)]) (aN)<|hS ?_
 obtain⟨r1,hr1,h⟩:=bS h
 refine Gg [.a,(.c (vB r1)),.a] (u [] [(15,vB (!r1))]) (aC (IE hr1)<|aN)<|iC h (fun h=>?_) (fun h=>?_)
 ·exact Rg [.a] (sl 145 [(2,vS ([]:List UInt8))] []) (aN)<|hR<|Tr<|bQ _ (congrArg vS (sI h))
 refine hK<|Tn ?_
 obtain⟨r3,hr3,h⟩:=bS h
 refine Gg [(.c (vL eS r3)),.a] (u [15] [(3,vL eS r3)]) (aC (TK hr3)<|aN) ?_
 obtain⟨r4,hr4,h⟩:=bS h
 refine Gg [(.c (vL eS r4)),.a] (u [] [(4,vL eS r4)]) (aC (UV hr4)<|aN) ?_
 obtain⟨r5,hr5,h⟩:=bS h
 refine Gg [(.c (vL eS r5)),.a] (u [] [(5,vL eS r5)]) (aC (TL hr5)<|aN) ?_
 obtain⟨r6,hr6,h⟩:=bS h
 refine Gg [(.c (vL eS r6)),.a] (u [] [(6,vL eS r6)]) (aC (UX hr6)<|aN)<|Gg [.a] (uo [] [(7,vO [7])] [.e (Bp [7] 9 1 eS ([]:List (List UInt8))),.k 0]) (aN)<|hS<|hO ?_
 obtain⟨e7,j9,h⟩:=bS h
 refine Gp 6 [.a,.a,.a,.a,.a,(.v (vS e7))] (u [] [(20,vO [7]),(21,vL eS r3),(22,vP [1] (0)),(23,vI a0.Zone),(24,vX eS r3 ((a0.Zone).toNat *1)),(25,vS e7)]) (aC (AI j9)<|aC (DI j9 OB 0 1 false (vS e7))<|aC (Eq.refl (vS e7))<|aN)<|Run.inlJ (X:=(List (List UInt8))) (fun v=>(sl 145 [(1,vP [1] (0)),(4,vL eS r4),(5,vL eS r5),(6,vL eS r6),(26,vO [7])] [Bp [7] 9 1 eS v,bx [1] (As a0)])) (fun v=>Kb a0 r4 r5 r6 v=some r) rfl rfl ?_ ?_
 ·refine Ei 26 [vO [7],vS e7] [] Tryz.func216 Tryz.ntmps216 [.tmp 4] rfl rfl rfl rfl fun _ _ _ _=>Rg [.a] (sg 12 [(0,vO [7]),(1,vS e7)] [Bp [7] 9 1 eS ([]:List (List UInt8)),bx [1] (As a0)] 145 [(1,vP [1] (0)),(3,vL eS r3),(4,vL eS r4),(5,vL eS r5),(6,vL eS r6),(7,vO [7]),(20,vO [7]),(21,vL eS r3),(22,vP [1] (0)),(23,vI a0.Zone),(24,vX eS r3 ((a0.Zone).toNat *1)),(25,vS e7)] [26]) (aN)<|hS<|Gg [.a,.a] (u [] [(6,vB (e7==([]:List UInt8)))]) (aN)<|iC h (fun h=>?_) (fun h=>?_)
  ·refine Gg [.a,.a] (u [0,1,6] [(4,vO [7])]) (aN)<|hR<|Tr<|nR (vO [7]) ⟨([]:List (List UInt8)),h,lT⟩
  refine hK<|Tn ?_
  obtain⟨z2,q4,h⟩:=bS h
  refine Rg [.a,.a,.a,(.e z2.length (z2.flatMap (eS))),.a] (sg 12 [(4,vO [7])] [Bp [7] 9 1 eS z2,bx [1] (As a0)] 145 [(1,vP [1] (0)),(3,vL eS r3),(4,vL eS r4),(5,vL eS r5),(6,vL eS r6),(21,vL eS r3),(22,vP [1] (0)),(23,vI a0.Zone),(24,vX eS r3 ((a0.Zone).toNat *1)),(25,vS e7)] [26]) (aC (ND q4 eS)<|aC (CJ q4)<|aN)<|hR<|nR (vO [7]) ⟨z2,h,lT⟩
 rintro m7 n1
 replace n1:Kb a0 r4 r5 r6 m7=some r:=n1
 unfold Kb at n1
 refine Gw [.a] (u [] [(7,vO [7])]) (aN)<|Tn<|hS<|hO ?_
 obtain⟨k2,i6,n1⟩:=bS n1
 refine Gp 6 [.a,.a,.a,.a,.a,(.v (vS k2))] (u [] [(27,vO [7]),(28,vL eS r4),(29,vP [1] (1)),(30,vI a0.Who),(31,vX eS r4 ((a0.Who).toNat *1)),(32,vS k2)]) (aC (AI i6)<|aC (DI i6 OB 0 1 false (vS k2))<|aC (Eq.refl (vS k2))<|aN)<|Nj (X:=(List (List UInt8))) (fun v=>(uo [4,7,26,27,28,29,30,31,32] [(33,vO [7])] [.e (Bp [7] 9 1 eS v),.k 1])) (fun v=>IP a0 r5 r6 v=some r) rfl rfl ?_ ?_
 ·refine Ei 33 [vO [7],vS k2] [] Tryz.func216 Tryz.ntmps216 [.tmp 4] rfl rfl rfl rfl fun _ _ _ _=>Gg [.a] (u [] []) (aN)<|hS<|Gg [.a,.a] (u [] [(6,vB (k2==([]:List UInt8)))]) (aN)<|iC n1 (fun n1=>?_) (fun n1=>?_)
  ·refine Gg [.a,.a] (u [0,1,6] [(4,vO [7])]) (aN)<|hR<|Tr<|nR (vO [7]) ⟨m7,n1,lT⟩
  refine hK<|Tn ?_
  obtain⟨y2,p4,n1⟩:=bS n1
  refine Rg [.a,.a,.a,(.e y2.length (y2.flatMap (eS))),.a] (sg 12 [(4,vO [7])] [Bp [7] 9 1 eS y2,bx [1] (As a0)] 145 [(1,vP [1] (0)),(4,vL eS r4),(5,vL eS r5),(6,vL eS r6),(28,vL eS r4),(29,vP [1] (1)),(30,vI a0.Who),(31,vX eS r4 ((a0.Who).toNat *1)),(32,vS k2)] [33]) (aC (ND p4 eS)<|aC (CJ p4)<|aN)<|hR<|nR (vO [7]) ⟨y2,n1,lT⟩
 rintro d3 y0
 replace y0:IP a0 r5 r6 d3=some r:=y0
 unfold IP at y0
 refine Gw [.a] (u [] [(7,vO [7])]) (aN)<|Tn<|hS<|hO ?_
 obtain⟨o1,j6,y0⟩:=bS y0
 refine Gp 6 [.a,.a,.a,.a,.a,(.v (vS o1))] (u [] [(34,vO [7]),(35,vL eS r5),(36,vP [1] (2)),(37,vI a0.Self),(38,vX eS r5 ((a0.Self).toNat *1)),(39,vS o1)]) (aC (AI j6)<|aC (DI j6 OB 0 1 false (vS o1))<|aC (Eq.refl (vS o1))<|aN)<|Nj (X:=(List (List UInt8))) (fun v=>(uo [5,7,33,34,35,36,37,38,39] [(40,vO [7])] [.e (Bp [7] 9 1 eS v),.k 1])) (fun v=>IM a0 r6 v=some r) rfl rfl ?_ ?_
 ·refine Ei 40 [vO [7],vS o1] [] Tryz.func216 Tryz.ntmps216 [.tmp 4] rfl rfl rfl rfl fun _ _ _ _=>Rg [.a] (sg 12 [(0,vO [7]),(1,vS o1)] [Bp [7] 9 1 eS d3,bx [1] (As a0)] 145 [(1,vP [1] (0)),(5,vL eS r5),(6,vL eS r6),(7,vO [7]),(33,vO [7]),(34,vO [7]),(35,vL eS r5),(36,vP [1] (2)),(37,vI a0.Self),(38,vX eS r5 ((a0.Self).toNat *1)),(39,vS o1)] [40]) (aN)<|hS<|Gg [.a,.a] (u [] [(6,vB (o1==([]:List UInt8)))]) (aN)<|iC y0 (fun y0=>?_) (fun y0=>?_)
  ·refine Gg [.a,.a] (u [0,1,6] [(4,vO [7])]) (aN)<|hR<|Tr<|nR (vO [7]) ⟨d3,y0,lT⟩
  refine hK<|Tn ?_
  obtain⟨x2,o4,y0⟩:=bS y0
  refine Rg [.a,.a,.a,(.e x2.length (x2.flatMap (eS))),.a] (sg 12 [(4,vO [7])] [Bp [7] 9 1 eS x2,bx [1] (As a0)] 145 [(1,vP [1] (0)),(5,vL eS r5),(6,vL eS r6),(35,vL eS r5),(36,vP [1] (2)),(37,vI a0.Self),(38,vX eS r5 ((a0.Self).toNat *1)),(39,vS o1)] [40]) (aC (ND o4 eS)<|aC (CJ o4)<|aN)<|hR<|nR (vO [7]) ⟨x2,y0,lT⟩
 rintro k5 q1
 replace q1:IM a0 r6 k5=some r:=q1
 unfold IM at q1
 refine Gw [.a] (u [] [(7,vO [7])]) (aN)<|Tn<|Sj (X:=(List (List UInt8))) (fun v=>(sl 145 [(1,vP [1] (0)),(6,vL eS r6),(7,vO [7])] [Bp [7] 9 1 eS v,bx [1] (As a0)])) (fun v=>KP a0 r6 v=some r) ?_ ?_
 ·refine Rg [.a] (sl 145 [(1,vP [1] (0)),(6,vL eS r6),(7,vO [7]),(8,vI 0)] [Bp [7] 9 1 eS k5,bx [1] (As a0)]) (aN)<|hB ?_
  obtain⟨o10,m6,q1⟩:=bS q1
  refine Gi (fun(v:Int×(List (List UInt8)))=>(uo [] [(8,vI v.1)] [.e (Bp [7] 9 1 eS v.2),.k 1])) m6 (wT) ?_
  rintro⟨t0,m2⟩ n3 i0 d7
  replace i0:Jv a0 t0 m2=some n3:=i0
  unfold Jv at i0
  refine hS<|Gg [.a,.a] (u [] [(42,vB (decide (t0<6)))]) (aN)<|iC i0 (fun i0=>?_) (fun i0=>?_)
  ·refine hK<|Tn<|Gj (X:=(List (List UInt8))) (fun v=>(uo [42] [] [.e (Bp [7] 9 1 eS v),.k 1])) (fun v=>Ju t0 v=some n3) ?_ ?_
   ·refine hB ?_
    obtain⟨p7,t8,i0⟩:=bS i0
    refine Gg [.a,.a,.a,(.c (vB p7))] (u [42] [(48,vB p7)]) (aC (Nt t8)<|aN)<|iC i0 (fun i0=>?_) (fun i0=>?_)
    ·obtain⟨y3,x8,t2,n4,i0⟩:=Ex i0
     refine Ge [.a,.a,(.c (vS y3)),.a,(.e t2.length (t2.flatMap (eS))),.a] (uo [] [(50,vI t0),(51,vS y3),(52,vO [52]),(53,vO [7])] [.e (Bp [7] 9 1 eS t2),.e (Bp [52] 9 1 eS ([y3]:List (List UInt8))),.k 1]) (aC (PN x8)<|aC (ND n4 eS)<|aC (CJ n4)<|aN)<|qN<|Tn ⟨t2,i0,wT⟩
    refine hK<|qN<|Tn ⟨m2,i0,wT⟩
   rintro p3 i2
   replace i2:Ju t0 p3=some n3:=i2
   unfold Ju at i2
   refine Ge (nA 3) (u [] [(8,vI (Ab (t0+1))),(43,vI t0),(44,vI (Ab (t0+1)))]) (aN)<|Tn ⟨((Ab (t0+1)),p3),(sI i2).symm,wT⟩
  refine hE<|Te ?_
  obtain rfl:=d7 _ (sI i0).symm
  refine Te<|qX<|Tn ⟨m2,q1,wT⟩
 rintro y8 t1
 replace t1:KP a0 r6 y8=some r:=t1
 unfold KP at t1
 refine Gj (X:=(List (List UInt8))) (fun v=>(uo [] [] [.e (Bp [7] 9 1 eS v),.k 1])) (fun v=>KN a0 r6 v=some r) ?_ ?_
 ·refine Gg [.a] (u [] [(9,vI 0)]) (aN)<|hB ?_
  obtain⟨x10,j8,t1⟩:=bS t1
  refine Gi (fun(v:Int×(List (List UInt8)))=>(uo [] [(9,vI v.1)] [.e (Bp [7] 9 1 eS v.2),.k 1])) j8 (wT) ?_
  rintro⟨x0,m3⟩ k4 n0 o8
  replace n0:KO a0 x0 m3=some k4:=n0
  unfold KO at n0
  refine hS<|Gg [.a,.a] (u [] [(55,vB (decide (x0<6)))]) (aN)<|iC n0 (fun n0=>?_) (fun n0=>?_)
  ·refine hK<|Tn<|Gj (X:=(List (List UInt8))) (fun v=>(uo [55] [] [.e (Bp [7] 9 1 eS v),.k 1])) (fun v=>Jt x0 v=some k4) ?_ ?_
   ·refine hB ?_
    obtain⟨n7,p8,n0⟩:=bS n0
    refine Gg [.a,.a,.a,(.c (vB n7))] (u [55] [(61,vB n7)]) (aC (Nt p8)<|aN)<|iC n0 (fun n0=>?_) (fun n0=>?_)
    ·obtain⟨o7,q8,z3,t4,q2,m4,n0⟩:=I8 n0
     refine Ge [.a,.a,(.c (vS o7)),(.v (vS z3)),.a,(.e q2.length (q2.flatMap (eS))),.a] (uo [] [(63,vI x0),(64,vS o7),(65,vS z3),(66,vO [66]),(67,vO [7])] [.e (Bp [7] 9 1 eS q2),.e (Bp [66] 9 1 eS ([z3]:List (List UInt8))),.k 1]) (aC (PN q8)<|aC (By t4)<|aC (congrArg (fun z=>V.c (.str z)) (Bz t4).symm)<|aC (ND m4 eS)<|aC (CJ m4)<|aN)<|qN<|Tn ⟨q2,n0,wT⟩
    refine hK<|qN<|Tn ⟨m3,n0,wT⟩
   rintro o3 d2
   replace d2:Jt x0 o3=some k4:=d2
   unfold Jt at d2
   refine Ge (nA 3) (u [] [(9,vI (Ab (x0+1))),(56,vI x0),(57,vI (Ab (x0+1)))]) (aN)<|Tn ⟨((Ab (x0+1)),o3),(sI d2).symm,wT⟩
  refine hE<|Te ?_
  obtain rfl:=o8 _ (sI n0).symm
  refine Te<|qX<|Tn ⟨m3,t1,wT⟩
 rintro z8 x1
 replace x1:KN a0 r6 z8=some r:=x1
 unfold KN at x1
 refine Gj (X:=(List (List UInt8))) (fun v=>(uo [] [] [.e (Bp [7] 9 1 eS v),.k 1])) (fun v=>KK a0 r6 v=some r) ?_ ?_
 ·refine Gg [.a] (u [] [(10,vI 0)]) (aN)<|hB ?_
  obtain⟨t10,i8,x1⟩:=bS x1
  refine Gi (fun(v:Int×(List (List UInt8)))=>(uo [] [(10,vI v.1)] [.e (Bp [7] 9 1 eS v.2),.k 1])) i8 (wT) ?_
  rintro⟨p0,k3⟩ j4 m0 n8
  replace m0:KM a0 p0 k3=some j4:=m0
  unfold KM at m0
  refine hS<|Gg [.a,.a] (u [] [(69,vB (decide (p0<5)))]) (aN)<|iC m0 (fun m0=>?_) (fun m0=>?_)
  ·refine hK<|Tn<|Gj (X:=(List (List UInt8))) (fun v=>(uo [69] [] [.e (Bp [7] 9 1 eS v),.k 1])) (fun v=>KL p0 v=some j4) ?_ ?_
   ·refine hB ?_
    obtain⟨q9,m10,m0⟩:=bS m0
    refine Gg [.a,.a,.a,(.c (vB q9))] (u [69] [(75,vB q9)]) (aC (Nt m10)<|aN)<|iC m0 (fun m0=>?_) (fun m0=>?_)
    ·obtain⟨q7,n10,d6,z6,m0⟩:=Ex m0
     refine Ge [.a,.a,(.c (vS q7)),.a,(.e d6.length (d6.flatMap (eS))),.a] (uo [] [(77,vI p0),(78,vS q7),(79,vO [79]),(80,vO [7])] [.e (Bp [7] 9 1 eS d6),.e (Bp [79] 9 1 eS ([q7]:List (List UInt8))),.k 1]) (aC (Qs n10)<|aC (ND z6 eS)<|aC (CJ z6)<|aN)<|qN<|Tn ⟨d6,m0,wT⟩
    refine hK<|qN<|Tn ⟨k3,m0,wT⟩
   rintro y5 p2
   replace p2:KL p0 y5=some j4:=p2
   unfold KL at p2
   refine Ge (nA 3) (u [] [(10,vI (Ab (p0+1))),(70,vI p0),(71,vI (Ab (p0+1)))]) (aN)<|Tn ⟨((Ab (p0+1)),y5),(sI p2).symm,wT⟩
  refine hE<|Te ?_
  obtain rfl:=n8 _ (sI m0).symm
  refine Te<|qX<|Tn ⟨k3,x1,wT⟩
 rintro d9 y1
 replace y1:KK a0 r6 d9=some r:=y1
 unfold KK at y1
 refine Gj (X:=(List (List UInt8))) (fun v=>(uo [] [] [.e (Bp [7] 9 1 eS v),.k 1])) (fun v=>KH a0 r6 v=some r) ?_ ?_
 ·refine Gg [.a] (u [] [(11,vI 0)]) (aN)<|hB ?_
  obtain⟨q10,d8,y1⟩:=bS y1
  refine Gi (fun(v:Int×(List (List UInt8)))=>(uo [] [(11,vI v.1)] [.e (Bp [7] 9 1 eS v.2),.k 1])) d8 (wT) ?_
  rintro⟨q0,j3⟩ i4 k0 m8
  replace k0:KJ a0 q0 j3=some i4:=k0
  unfold KJ at k0
  refine hS<|Gg [.a,.a] (u [] [(82,vB (decide (q0<5)))]) (aN)<|iC k0 (fun k0=>?_) (fun k0=>?_)
  ·refine hK<|Tn<|Gj (X:=(List (List UInt8))) (fun v=>(uo [82] [] [.e (Bp [7] 9 1 eS v),.k 1])) (fun v=>KI q0 v=some i4) ?_ ?_
   ·refine hB ?_
    obtain⟨o9,pY,k0⟩:=bS k0
    refine Gg [.a,.a,.a,(.c (vB o9))] (u [82] [(88,vB o9)]) (aC (Nt pY)<|aN)<|iC k0 (fun k0=>?_) (fun k0=>?_)
    ·obtain⟨p9,k10,y7,k7,z5,y6,k0⟩:=I8 k0
     refine Ge [.a,.a,(.c (vS p9)),(.v (vS y7)),.a,(.e z5.length (z5.flatMap (eS))),.a] (uo [] [(90,vI q0),(91,vS p9),(92,vS y7),(93,vO [93]),(94,vO [7])] [.e (Bp [7] 9 1 eS z5),.e (Bp [93] 9 1 eS ([y7]:List (List UInt8))),.k 1]) (aC (Qs k10)<|aC (By k7)<|aC (congrArg (fun z=>V.c (.str z)) (Bz k7).symm)<|aC (ND y6 eS)<|aC (CJ y6)<|aN)<|qN<|Tn ⟨z5,k0,wT⟩
    refine hK<|qN<|Tn ⟨j3,k0,wT⟩
   rintro x5 o2
   replace o2:KI q0 x5=some i4:=o2
   unfold KI at o2
   refine Ge (nA 3) (u [] [(11,vI (Ab (q0+1))),(83,vI q0),(84,vI (Ab (q0+1)))]) (aN)<|Tn ⟨((Ab (q0+1)),x5),(sI o2).symm,wT⟩
  refine hE<|Te ?_
  obtain rfl:=m8 _ (sI k0).symm
  refine Te<|qX<|Tn ⟨j3,y1,wT⟩
 rintro m5 k1
 replace k1:KH a0 r6 m5=some r:=k1
 unfold KH at k1
 refine Gj (X:=(List (List UInt8))) (fun v=>(uo [] [] [.e (Bp [7] 9 1 eS v),.k 1])) (fun v=>G3 a0 r6 v=some r) ?_ ?_
 ·refine Gg (nA 3) (u [] [(97,vB (a0.Sub != ([]:List UInt8)))]) (aN)<|iC k1 (fun k1=>?_) (fun k1=>?_)
  ·obtain⟨x7,j7,j5,x6,k1⟩:=Ex k1
   refine Ge [.a,.a,.a,(.v (vS x7)),.a,(.e j5.length (j5.flatMap (eS))),.a] (uo [] [(99,vP [1] (7)),(100,vS a0.Sub),(101,vS x7),(102,vO [102]),(103,vO [7])] [.e (Bp [7] 9 1 eS j5),.e (Bp [102] 9 1 eS ([x7]:List (List UInt8))),.k 1]) (aC (By j7)<|aC (congrArg (fun z=>V.c (.str z)) (Bz j7).symm)<|aC (ND x6 eS)<|aC (CJ x6)<|aN)<|Tn ⟨j5,k1,wT⟩
  refine hK<|Tn ⟨m5,k1,wT⟩
 rintro i9 z1
 replace z1:G3 a0 r6 i9=some r:=z1
 unfold G3 at z1
 refine Gj (X:=(List (List UInt8))) (fun v=>(uo [] [] [.e (Bp [7] 9 1 eS v),.k 1])) (fun v=>KE a0 r6 v=some r) ?_ ?_
 ·refine Gg [.a] (u [] [(12,vI 0)]) (aN)<|hB ?_
  obtain⟨p10,z7,z1⟩:=bS z1
  refine Gi (fun(v:Int×(List (List UInt8)))=>(uo [] [(12,vI v.1)] [.e (Bp [7] 9 1 eS v.2),.k 1])) z7 (wT) ?_
  rintro⟨o0,j2⟩ d4 j0 k8
  replace j0:KG a0 o0 j2=some d4:=j0
  unfold KG at j0
  refine hS<|Gg [.a,.a] (u [] [(105,vB (decide (o0<17)))]) (aN)<|iC j0 (fun j0=>?_) (fun j0=>?_)
  ·refine hK<|Tn<|Sj (X:=(List (List UInt8))) (fun v=>(sl 145 [(1,vP [1] (0)),(6,vL eS r6),(7,vO [7]),(12,vI o0)] [Bp [7] 9 1 eS v,bx [1] (As a0)])) (fun v=>KF o0 v=some d4) ?_ ?_
   ·refine hB ?_
    obtain⟨m9,d10,j0⟩:=bS j0
    refine Rg [.a,.a,.a,(.c (vB m9))] (sl 145 [(1,vP [1] (0)),(6,vL eS r6),(7,vO [7]),(12,vI o0),(111,vB m9)] [Bp [7] 9 1 eS j2,bx [1] (As a0)]) (aC (Nt d10)<|aN)<|iC j0 (fun j0=>?_) (fun j0=>?_)
    ·obtain⟨n9,i10,t7,i7,i5,t6,j0⟩:=I8 j0
     refine Ge [.a,.a,(.c (vS n9)),(.v (vS t7)),.a,(.e i5.length (i5.flatMap (eS))),.a] (uo [] [(113,vI o0),(114,vS n9),(115,vS t7),(116,vO [116]),(117,vO [7])] [.e (Bp [7] 9 1 eS i5),.e (Bp [116] 9 1 eS ([t7]:List (List UInt8))),.k 1]) (aC (Uz i10)<|aC (By i7)<|aC (congrArg (fun z=>V.c (.str z)) (Bz i7).symm)<|aC (ND t6 eS)<|aC (CJ t6)<|aN)<|qN<|Tn ⟨i5,j0,wT⟩
    refine hK<|qN<|Tn ⟨j2,j0,wT⟩
   rintro t5 n2
   replace n2:KF o0 t5=some d4:=n2
   unfold KF at n2
   refine Ge (nA 3) (u [] [(12,vI (Ab (o0+1))),(106,vI o0),(107,vI (Ab (o0+1)))]) (aN)<|Tn ⟨((Ab (o0+1)),t5),(sI n2).symm,wT⟩
  refine hE<|Te ?_
  obtain rfl:=k8 _ (sI j0).symm
  refine Te<|qX<|Tn ⟨j2,z1,wT⟩
 rintro i3 z0
 replace z0:KE a0 r6 i3=some r:=z0
 unfold KE at z0
 refine hS<|hO ?_
 obtain⟨p1,k6,z0⟩:=bS z0
 refine Gp 6 [.a,.a,.a,.a,.a,(.v (vS p1))] (u [] [(118,vO [7]),(119,vL eS r6),(120,vP [1] (9)),(121,vI a0.Tap),(122,vX eS r6 ((a0.Tap).toNat *1)),(123,vS p1)]) (aC (AI k6)<|aC (DI k6 OB 0 1 false (vS p1))<|aC (Eq.refl (vS p1))<|aN)<|Run.inlJ (X:=(List (List UInt8))) (fun v=>(sl 145 [(1,vP [1] (0)),(124,vO [7])] [Bp [7] 9 1 eS v,bx [1] (As a0)])) (fun v=>IL a0 v=some r) rfl rfl ?_ ?_
 ·refine Ei 124 [vO [7],vS p1] [] Tryz.func216 Tryz.ntmps216 [.tmp 4] rfl rfl rfl rfl fun _ _ _ _=>Rg [.a] (sg 12 [(0,vO [7]),(1,vS p1)] [Bp [7] 9 1 eS i3,bx [1] (As a0)] 145 [(1,vP [1] (0)),(6,vL eS r6),(7,vO [7]),(118,vO [7]),(119,vL eS r6),(120,vP [1] (9)),(121,vI a0.Tap),(122,vX eS r6 ((a0.Tap).toNat *1)),(123,vS p1)] [124]) (aN)<|hS<|Gg [.a,.a] (u [] [(6,vB (p1==([]:List UInt8)))]) (aN)<|iC z0 (fun z0=>?_) (fun z0=>?_)
  ·refine Gg [.a,.a] (u [0,1,6] [(4,vO [7])]) (aN)<|hR<|Tr<|nR (vO [7]) ⟨i3,z0,lT⟩
  refine hK<|Tn ?_
  obtain⟨d5,q6,z0⟩:=bS z0
  refine Rg [.a,.a,.a,(.e d5.length (d5.flatMap (eS))),.a] (sg 12 [(4,vO [7])] [Bp [7] 9 1 eS d5,bx [1] (As a0)] 145 [(1,vP [1] (0)),(6,vL eS r6),(119,vL eS r6),(120,vP [1] (9)),(121,vI a0.Tap),(122,vX eS r6 ((a0.Tap).toNat *1)),(123,vS p1)] [124]) (aC (ND q6 eS)<|aC (CJ q6)<|aN)<|hR<|nR (vO [7]) ⟨d5,z0,lT⟩
 rintro n5 d1
 replace d1:IL a0 n5=some r:=d1
 unfold IL at d1
 refine Gw [.a] (u [] [(7,vO [7])]) (aN)<|Tn<|hS<|hO ?_
 obtain⟨q3,t9,d1⟩:=bS d1
 refine Gp 4 [.a,.a,.a,(.c (vS q3))] (u [] [(125,vO [7]),(126,vP [1] (10)),(127,vA CK a0.Power),(128,vS q3)]) (aC (Lb t9)<|aN)<|Run.inlJ (X:=(List (List UInt8))) (fun v=>(sl 145 [(1,vP [1] (0)),(129,vO [7])] [Bp [7] 9 1 eS v,bx [1] (As a0)])) (fun v=>IK a0 v=some r) rfl rfl ?_ ?_
 ·refine Ei 129 [vO [7],vS q3] [] Tryz.func216 Tryz.ntmps216 [.tmp 4] rfl rfl rfl rfl fun _ _ _ _=>Gg [.a] (u [] []) (aN)<|hS<|Gg [.a,.a] (u [] [(6,vB (q3==([]:List UInt8)))]) (aN)<|iC d1 (fun d1=>?_) (fun d1=>?_)
  ·refine Gg [.a,.a] (u [0,1,6] [(4,vO [7])]) (aN)<|hR<|Tr<|nR (vO [7]) ⟨n5,d1,lT⟩
  refine hK<|Tn ?_
  obtain⟨z4,p6,d1⟩:=bS d1
  refine Rg [.a,.a,.a,(.e z4.length (z4.flatMap (eS))),.a] (sg 12 [(4,vO [7])] [Bp [7] 9 1 eS z4,bx [1] (As a0)] 145 [(1,vP [1] (0)),(126,vP [1] (10)),(127,vA CK a0.Power),(128,vS q3)] [129]) (aC (ND p6 eS)<|aC (CJ p6)<|aN)<|hR<|nR (vO [7]) ⟨z4,d1,lT⟩
 rintro o5 i1
 replace i1:IK a0 o5=some r:=i1
 unfold IK at i1
 refine Gw [.a] (u [] [(7,vO [7])]) (aN)<|Tn<|hS<|hO ?_
 obtain⟨t3,x9,i1⟩:=bS i1
 refine Gp 4 [.a,.a,.a,(.c (vS t3))] (u [] [(130,vO [7]),(131,vP [1] (12)),(132,vA CK a0.Tough),(133,vS t3)]) (aC (Lb x9)<|aN)<|Run.inlJ (X:=(List (List UInt8))) (fun v=>(sl 145 [(1,vP [1] (0)),(134,vO [7])] [Bp [7] 9 1 eS v,bx [1] (As a0)])) (fun v=>IJ a0 v=some r) rfl rfl ?_ ?_
 ·refine Ei 134 [vO [7],vS t3] [] Tryz.func216 Tryz.ntmps216 [.tmp 4] rfl rfl rfl rfl fun _ _ _ _=>Gg [.a] (u [] []) (aN)<|hS<|Gg [.a,.a] (u [] [(6,vB (t3==([]:List UInt8)))]) (aN)<|iC i1 (fun i1=>?_) (fun i1=>?_)
  ·refine Gg [.a,.a] (u [0,1,6] [(4,vO [7])]) (aN)<|hR<|Tr<|nR (vO [7]) ⟨o5,i1,lT⟩
  refine hK<|Tn ?_
  obtain⟨y4,o6,i1⟩:=bS i1
  refine Rg [.a,.a,.a,(.e y4.length (y4.flatMap (eS))),.a] (sg 12 [(4,vO [7])] [Bp [7] 9 1 eS y4,bx [1] (As a0)] 145 [(1,vP [1] (0)),(131,vP [1] (12)),(132,vA CK a0.Tough),(133,vS t3)] [134]) (aC (ND o6 eS)<|aC (CJ o6)<|aN)<|hR<|nR (vO [7]) ⟨y4,i1,lT⟩
 rintro p5 j1
 replace j1:IJ a0 p5=some r:=j1
 unfold IJ at j1
 refine Gw [.a] (u [] [(7,vO [7])]) (aN)<|Tn<|hS<|hO ?_
 obtain⟨x3,y9,j1⟩:=bS j1
 refine Gp 4 [.a,.a,.a,(.c (vS x3))] (u [] [(135,vO [7]),(136,vP [1] (14)),(137,vA CK a0.Value),(138,vS x3)]) (aC (Lb y9)<|aN)<|Run.inlJ (X:=(List (List UInt8))) (fun v=>(sl 145 [(139,vO [7])] [Bp [7] 9 1 eS v])) (fun v=>II v=some r) rfl rfl ?_ ?_
 ·refine Ei 139 [vO [7],vS x3] [] Tryz.func216 Tryz.ntmps216 [.tmp 4] rfl rfl rfl rfl fun _ _ _ _=>Gg [.a] (u [] []) (aN)<|hS<|Gg [.a,.a] (u [] [(6,vB (x3==([]:List UInt8)))]) (aN)<|iC j1 (fun j1=>?_) (fun j1=>?_)
  ·refine Gg [.a,.a] (u [0,1,6] [(4,vO [7])]) (aN)<|hR<|Tr<|nR (vO [7]) ⟨p5,j1,lT⟩
  refine hK<|Tn ?_
  obtain⟨x4,n6,j1⟩:=bS j1
  refine Rg [.a,.a,.a,(.e x4.length (x4.flatMap (eS))),.a] (sg 12 [(4,vO [7])] [Bp [7] 9 1 eS x4,bx [1] (As a0)] 145 [(1,vP [1] (0)),(136,vP [1] (14)),(137,vA CK a0.Value),(138,vS x3)] [139]) (aC (ND n6 eS)<|aC (CJ n6)<|aN)<|hR<|nR (vO [7]) ⟨x4,j1,lT⟩
 rintro q5 m1
 replace m1:II q5=some r:=m1
 unfold II at m1
 refine Gw [.a] (u [] [(7,vO [7])]) (aN)<|Tn<|hS<|Gg (nA 3) (u [139] [(142,vB ((q5.length:Int)==0))]) (aN)<|iC m1 (fun m1=>?_) (fun m1=>?_)
 ·exact Rg [.a] (sl 145 [(2,vS Pl)] []) (aN)<|hR<|Tr<|bQ _ (congrArg vS (sI m1))
 refine hK<|Tn ?_
 obtain⟨k9,z9,m1⟩:=bS m1
 exact Rg [.a,(.c (vS k9)),.a] (sl 145 [(2,vS k9)] []) (aC (cr z9)<|aN)<|hR<|bQ _ (congrArg vS (sI m1))
def LY (a0:CA):Option (Bool):=
 (if(!a0.Object)=true then
  (some (if a0.Player=true then a0.Filter==(⟨0,0,0,0,0,0,0,[],0,0,(⟨0,0⟩:Ac),(⟨0,0⟩:Ac),(⟨0,0⟩:Ac)⟩:Ag)else false)).bind fun b2=>
  some b2
 else
  (Lc a0.Filter).bind fun r3=>
  (some (if(a0.Filter.Zone==0)=true then true else a0.Filter.Zone==3)).bind fun b4=>
  (some (if b4=true then true else a0.Filter.Zone==5)).bind fun b5=>
  (some (if r3=true then b5 else false)).bind fun b6=>
  some b6)
def fP (a0:CA) (r:Bool):Prop:=Af Tryz.prog I0 160 [vA AZ a0] (· =vB r)
theorem cO {a0:CA} {r:Bool} (h:LY a0=some r):fP a0 r:=by
 refine Af.bo Ae Tryz.func160 rfl Tryz.ntmps160 [.tmp 2] fun _ _ _ _=>?_
 unfold LY at h
 refine Rg [.a,.a] (sl 33 [(1,vP [1] (0))] [bx [1] (AZ a0)]) (aN)<|hS<|Gg (nA 3) (u [] [(6,vB (!a0.Object))]) (aN)<|iC h (fun h=>?_) (fun h=>?_)
 ·obtain⟨b2,i0,h⟩:=bS h
  exact Rg [.a,.a,.a,.a,.a,.a,(.v (vB (a0.Filter==(⟨0,0,0,0,0,0,0,[],0,0,(⟨0,0⟩:Ac),(⟨0,0⟩:Ac),(⟨0,0⟩:Ac)⟩:Ag)))),(.v (vB b2)),.a] (sl 33 [(2,vB b2)] []) (aG (a0.Player==true)<|aC (fun hg:(a0.Player==true)=true=>aC (And.intro trivial OJ)<|aN)<|aC (fun hg:(a0.Player==true)=true=>aC (gi (a0.Player==true))<|aC (gi (a0.Player==true))<|aC (congrArg (fun z=>V.c (.bool (z))) (Nb a0.Filter (⟨0,0,0,0,0,0,0,[],0,0,(⟨0,0⟩:Ac),(⟨0,0⟩:Ac),(⟨0,0⟩:Ac)⟩:Ag)))<|aN)<|aT a0.Player<|aB i0<|aN)<|hR<|Tr<|bQ _ (kB h)
 refine hK<|Tn<|Gg (nA 4) (u [6] [(3,vI a0.Filter.Zone)]) (aN) ?_
 obtain⟨r3,n0,b4,j0,b5,k0,b6,m0,h⟩:=D2 h
 exact Rg [.a,.a,(.c (vB r3)),.a,.a,.a,.a,.a,.a,(.v (vB b4)),.a,.a,.a,(.v (vB b5)),(.v (vB b6)),.a] (sl 33 [(2,vB b6)] []) (aC (IE n0)<|aG (r3==true)<|aG (r3==true)<|aG ((r3==true)&&((a0.Filter.Zone==0)==false))<|aC (fun hg:(r3==true)=true=>aC (gi (r3==true))<|aC (fun q:(a0.Filter.Zone==0)=false=>(gA hg (gF q)))<|aB j0<|aN)<|aG (r3==true)<|aG ((r3==true)&&(b4==false))<|aC (fun hg:(r3==true)=true=>aC (gi (r3==true))<|aC (fun q:b4=false=>(gA hg (gF q)))<|aB k0<|aN)<|aT r3<|aB m0<|aN)<|hR<|bQ _ (kB h)
def MQ (a0:HQ):Option (Bool):=
 (if(a0.Kind==4)=true then
  (Lc a0.Filter).bind fun r7=>
  some r7
 else
  some (a0.Filter==(⟨0,0,0,0,0,0,0,[],0,0,(⟨0,0⟩:Ac),(⟨0,0⟩:Ac),(⟨0,0⟩:Ac)⟩:Ag)))
def Lh (a0:HQ) (specs_t1_1:Int):Option (Bool):=
 (some (if(decide (a0.Kind<1))=true then true else decide (8<a0.Kind))).bind fun b3=>
 (if b3=true then
  some false
 else
  (Mx a0.Kind).bind fun r8=>
  (if r8=true then
   (some (if(decide (a0.N<1))=true then true else decide (specs_t1_1<a0.N))).bind fun b10=>
   (if b10=true then
    some false
   else
    MQ a0)
  else
   (if(a0.N != 0)=true then
    some false
   else
    MQ a0)))
def QF (a0:HQ) (a1:Int):Option (Bool):=
 (if(decide (4<a1))=true then
  Lh a0 (4:Int)
 else
  Lh a0 a1)
def lS (a0:HQ) (a1:Int) (r:Bool):Prop:=Af Tryz.prog I0 201 [vA Jx a0,vI a1] (· =vB r)
theorem jJ {a0:HQ} {a1:Int} {r:Bool} (h:QF a0 a1=some r):lS a0 a1 r:=by
 refine Af.bo Ae Tryz.func201 rfl Tryz.ntmps201 [.tmp 4] fun _ _ _ _=>?_
 unfold QF at h
 refine Gg [.a,.a] (uo [0] [(2,vP [2] (0))] [.e (bx [2] (Jx a0))]) (aN)<|Gj (X:=Int) (fun v=>(u [] [(1,vI v)])) (fun v=>Lh a0 v=some r) ?_ ?_
 ·refine Gg [.a,.a] (u [] [(6,vB (decide (4<a1)))]) (aN)<|iC h (fun h=>?_) (fun h=>?_)
  ·refine Ge [.a] (u [] [(1,vI 4)]) (aN)<|Tn ⟨4,h,wT⟩
  refine hK<|Tn ⟨a1,h,wT⟩
 rintro k0 i0
 replace i0:Lh a0 k0=some r:=i0
 unfold Lh at i0
 refine hS ?_
 obtain⟨b3,o0,i0⟩:=bS i0
 refine Gg [.a,.a,.a,.a,.a,.a,.a,(.v (vB b3))] (u [] [(14,vB b3)]) (aG ((decide (a0.Kind<1))==false)<|aG ((decide (a0.Kind<1))==false)<|aF (decide (a0.Kind<1))<|aB o0<|aN)<|iC i0 (fun i0=>?_) (fun i0=>?_)
 ·exact Rg [.a] (sl 40 [(4,vB false)] []) (aN)<|hR<|Tr<|bQ _ (kB i0)
 refine hK<|Tn<|Gj (X:=Unit) (fun v=>(u [1,14] [])) (fun v=>MQ a0=some r) ?_ ?_
 ·obtain⟨r8,q0,i0⟩:=bS i0
  refine Gg [.a,.a,(.c (vB r8))] (u [14] [(17,vB r8)]) (aC (UY q0)<|aN)<|iC i0 (fun i0=>?_) (fun i0=>?_)
  ·obtain⟨m0,n0,i0⟩:=bS i0
   refine Gg [.a,.a,.a,.a,.a,.a,.a,.a,(.v (vB m0))] (u [1,17] [(26,vB m0)]) (aG ((decide (a0.N<1))==false)<|aH ((decide (a0.N<1))==false)<|aF (decide (a0.N<1))<|aB n0<|aN)<|iC i0 (fun i0=>?_) (fun i0=>?_)
   ·exact Rg [.a] (sl 40 [(4,vB false)] []) (aN)<|hR<|Tr<|bQ _ (kB i0)
   refine hK<|Tn ⟨(),i0,wT⟩
  refine Gg (nA 3) (u [1,17] [(29,vB (a0.N != 0))]) (aN)<|iC i0 (fun i0=>?_) (fun i0=>?_)
  ·exact Rg [.a] (sl 40 [(4,vB false)] []) (aN)<|hR<|Tr<|bQ _ (kB i0)
  refine hK<|Tn ⟨(),i0,wT⟩
 rintro _ j0
 replace j0:MQ a0=some r:=j0
 unfold MQ at j0
 refine hS<|Gg (nA 3) (u [] [(32,vB (a0.Kind==4))]) (aN)<|iC j0 (fun j0=>?_) (fun j0=>?_)
 ·obtain⟨r7,p0,j0⟩:=bS j0
  exact Rg [.a,.a,(.c (vB r7)),.a] (sl 40 [(4,vB r7)] []) (aC (IE p0)<|aN)<|hR<|Tr<|bQ _ (kB j0)
 exact hK<|Tn<|Rg [.a,.a,.a,(.v (vB (a0.Filter==(⟨0,0,0,0,0,0,0,[],0,0,(⟨0,0⟩:Ac),(⟨0,0⟩:Ac),(⟨0,0⟩:Ac)⟩:Ag)))),.a] (sl 40 [(4,vB (a0.Filter==(⟨0,0,0,0,0,0,0,[],0,0,(⟨0,0⟩:Ac),(⟨0,0⟩:Ac),(⟨0,0⟩:Ac)⟩:Ag)))] []) (aC (And.intro trivial OJ)<|aC (congrArg (fun z=>V.c (.bool (z))) (Nb a0.Filter (⟨0,0,0,0,0,0,0,[],0,0,(⟨0,0⟩:Ac),(⟨0,0⟩:Ac),(⟨0,0⟩:Ac)⟩:Ag)))<|aN)<|hR<|bQ _ (kB j0)
def IQ (a0:Bm) (b3_1:Bm):Option (Bool):=
 (some (if(decide (0≤a0.Kind))=true then decide (a0.Kind≤7)else false)).bind fun b3=>
 (some (if b3=true then b3_1==(⟨a0.Kind,0,0,(⟨0,0,0,0,0,0,0,[],0,0,(⟨0,0⟩:Ac),(⟨0,0⟩:Ac),(⟨0,0⟩:Ac)⟩:Ag)⟩:Bm)else false)).bind fun b4=>
 some b4
def QG (a0:Bm):Option (Bool):=
 (if(a0.Kind==0)=true then
  (some (if(decide (a0.N<0))=true then true else decide (1000000<a0.N))).bind fun b6=>
  (if b6=true then
   some false
  else
   IQ a0 ({a0 with N:=(0:Int)}))
 else
  (if(a0.Kind==2)=true then
   (some (if(decide (a0.N<1))=true then true else decide (99<a0.N))).bind fun b9=>
   (gd (b9==false) (Lc a0.Filter)).bind fun r10=>
   (some (if b9=true then true else !r10)).bind fun b11=>
   (if b11=true then
    some false
   else
    IQ a0 ({{a0 with N:=(0:Int)}with Filter:=(⟨0,0,0,0,0,0,0,[],0,0,(⟨0,0⟩:Ac),(⟨0,0⟩:Ac),(⟨0,0⟩:Ac)⟩:Ag)}))
  else
   (if(a0.Kind==4)=true then
    (OT a0.Counter).bind fun r14=>
    (if(r14==([]:List UInt8))=true then
     some false
    else
     IQ a0 ({a0 with Counter:=(0:Int)}))
   else
    IQ a0 a0)))
def lV (a0:Bm) (r:Bool):Prop:=Af Tryz.prog I0 203 [vA Br a0] (· =vB r)
theorem jK {a0:Bm} {r:Bool} (h:QG a0=some r):lV a0 r:=by
 refine Af.bo Ae Tryz.func203 rfl Tryz.ntmps203 [.tmp 2] fun _ _ _ _=>?_
 unfold QG at h
 refine Rg [.a,.a] (sl 59 [(1,vP [1] (0))] [bx [1] (Br a0)]) (aN)<|Gg (nA 3) (uo [] [(3,vP [3] (0))] [.e (bx [3] (Br a0)),.k 0]) (aN)<|Gj (X:=Bm) (fun v=>(uo [] [] [.e (bx [3] (Br v)),.k 1])) (fun v=>IQ a0 v=some r) ?_ ?_
 ·refine Gg [.a,.a] (u [] [(6,vI a0.Kind)]) (aN)<|hB<|Gg [.a,.a] (u [] [(7,vB (a0.Kind==0))]) (aN)<|iC h (fun h=>?_) (fun h=>?_)
  ·refine Gg [.a,.a] (uo [6,7] [] [.e (bx [3] (Br ({a0 with N:=(0:Int)}))),.k 1]) (aN) ?_
   obtain⟨b6,x0,h⟩:=bS h
   refine Gg [.a,.a,.a,.a,.a,.a,.a,(.v (vB b6))] (u [] [(17,vB b6)]) (aG ((decide (a0.N<0))==false)<|aG ((decide (a0.N<0))==false)<|aF (decide (a0.N<0))<|aB x0<|aN)<|iC h (fun h=>?_) (fun h=>?_)
   ·exact Rg [.a] (sl 59 [(2,vB false)] []) (aN)<|hR<|qR<|Tr<|bQ _ (kB h)
   refine hK<|qN<|Tn ⟨({a0 with N:=(0:Int)}),h,wT⟩
  refine Gg [.a,.a] (u [7] [(18,vB (a0.Kind==2))]) (aN)<|iC h (fun h=>?_) (fun h=>?_)
  ·refine Gg [.a,.a] (uo [6,18] [] [.e (bx [3] (Br ({a0 with N:=(0:Int)}))),.k 1]) (aN)<|Gg (nA 3) (uo [] [] [.e (bx [3] (Br ({{a0 with N:=(0:Int)}with Filter:=(⟨0,0,0,0,0,0,0,[],0,0,(⟨0,0⟩:Ac),(⟨0,0⟩:Ac),(⟨0,0⟩:Ac)⟩:Ag)}))),.k 1]) (aC (And.intro trivial OJ)<|aN) ?_
   obtain⟨b9,y0,z0,o0,k0,n0,h⟩:=I8 h
   refine Gg [.a,.a,.a,.a,.a,.a,.a,(.v (vB b9)),.a,.a,.a,(.c (vB z0)),.a,(.v (vB k0))] (u [] [(36,vB k0)]) (aG ((decide (a0.N<1))==false)<|aG ((decide (a0.N<1))==false)<|aF (decide (a0.N<1))<|aB y0<|aG (b9==false)<|aC (c1 o0 IE)<|aG (b9==false)<|aF b9<|aB n0<|aN)<|iC h (fun h=>?_) (fun h=>?_)
   ·exact Rg [.a] (sl 59 [(2,vB false)] []) (aN)<|hR<|qR<|Tr<|bQ _ (kB h)
   refine hK<|qN<|Tn ⟨({{a0 with N:=(0:Int)}with Filter:=(⟨0,0,0,0,0,0,0,[],0,0,(⟨0,0⟩:Ac),(⟨0,0⟩:Ac),(⟨0,0⟩:Ac)⟩:Ag)}),h,wT⟩
  refine Gg [.a,.a] (u [6,18] [(37,vB (a0.Kind==4))]) (aN)<|iC h (fun h=>?_) (fun h=>?_)
  ·refine Gg [.a,.a] (uo [37] [] [.e (bx [3] (Br ({a0 with Counter:=(0:Int)}))),.k 1]) (aN) ?_
   obtain⟨m0,p0,h⟩:=bS h
   refine Gg [.a,.a,(.c (vS m0)),.a] (u [] [(43,vB (m0==([]:List UInt8)))]) (aC (Uy p0)<|aN)<|iC h (fun h=>?_) (fun h=>?_)
   ·exact Rg [.a] (sl 59 [(2,vB false)] []) (aN)<|hR<|qR<|Tr<|bQ _ (kB h)
   refine hK<|qN<|Tn ⟨({a0 with Counter:=(0:Int)}),h,wT⟩
  refine hK<|qN<|Tn ⟨a0,h,wT⟩
 rintro j0 i0
 replace i0:IQ a0 j0=some r:=i0
 unfold IQ at i0
 obtain⟨b3,q0,b4,t0,i0⟩:=Ex i0
 exact Rg [.a,.a,.a,.a,.a,.a,.a,(.v (vB b3)),.a,.a,.a,.a,.a,(.v (vB (j0==(⟨a0.Kind,0,0,(⟨0,0,0,0,0,0,0,[],0,0,(⟨0,0⟩:Ac),(⟨0,0⟩:Ac),(⟨0,0⟩:Ac)⟩:Ag)⟩:Bm)))),(.v (vB b4)),.a] (sl 59 [(2,vB b4)] []) (aG ((decide (0≤a0.Kind))==true)<|aG ((decide (0≤a0.Kind))==true)<|aT (decide (0≤a0.Kind))<|aB q0<|aG (b3==true)<|aC (fun hg:(b3==true)=true=>aC (And.intro (show ((b3==true)=true→(b3==true)=true)∧True from⟨id,trivial⟩) Zu)<|aN)<|aC (fun hg:(b3==true)=true=>aC (gi (b3==true))<|aC (gi (b3==true))<|aC (congrArg (fun z=>V.c (.bool (z))) (Ty j0 (⟨a0.Kind,0,0,(⟨0,0,0,0,0,0,0,[],0,0,(⟨0,0⟩:Ac),(⟨0,0⟩:Ac),(⟨0,0⟩:Ac)⟩:Ag)⟩:Bm)))<|aN)<|aT b3<|aB t0<|aN)<|hR<|bQ _ (kB i0)
end Go.PL
