/- Functions of the program, as partial functions in Lean, with proofs. -/
import Derived.Test.YthppcliidflkjaaGreatDoorPlCsB
import Derived.Test.YthppcliidflkjaaGreatDoorPlCsF0
namespace Go.PL
open Go Go.RowKit Go.Proofs
set_option maxRecDepth 100000
set_option linter.all false
set_option maxHeartbeats 4000000
attribute [local irreducible] Ah CP Dq
def EI (mask_t3_3:Int):Option (Int):=
 some mask_t3_3
def Cm (bit_t4_9:Int) (i_t5_10:Int) (mask_t3_14:Int):Option ((Int×Int×Int)⊕(Int)):=
 some (.inl (mask_t3_14,(A3 ((2:Int)*bit_t4_9)),(A3 (i_t5_10+1))))
def C5 (a0:Eg) (mask_t3_8:Int) (bit_t4_9:Int) (i_t5_10:Int):Option ((Int×Int×Int)⊕(Int)):=
 (if(decide (i_t5_10<5))=true then
  (Gk a0.Color.l i_t5_10).bind fun e16=>
  (if(decide (0<e16))=true then
   Cm bit_t4_9 i_t5_10 (A3 (mask_t3_8+bit_t4_9))
  else
   Cm bit_t4_9 i_t5_10 mask_t3_8)
 else
  some (.inr mask_t3_8))
def Gd (a0:Eg):Option (Int):=
 (Qy a0).bind fun r1=>
 (if(!r1)=true then
  some (0:Int)
 else
  (iter (fun(v:Int×Int×Int)=>C5 a0 v.1 v.2.1 v.2.2) FU ((0:Int),(1:Int),(0:Int))).bind (fun o0=>EI o0))
def UI (a0:Eg) (r:Int):Prop:=Bp Tryz.prog I0 13 [vA BC a0] (· =vI r)
theorem QX {a0:Eg} {r:Int} (h:Gd a0=some r):UI a0 r:=by
 refine Bp.bo DQ Tryz.func13 rfl Tryz.ntmps13 [.tmp 2] fun _ _ _ _=>?_
 unfold Gd at h
 refine Rg [.a,.a] (sl 24 [(1,vP [1] (0))] [bx [1] (BC a0)]) (aN)<|hS ?_
 obtain⟨r1,i1,h⟩:=bS h
 refine Gg [.a,(.c (vB r1)),.a] (u [] [(8,vB (!r1))]) (aC (bV i1)<|aN)<|iC h (fun h=>?_) (fun h=>?_)
 ·exact Rg [.a] (sl 24 [(2,vI 0)] []) (aN)<|hR<|Tr<|bQ _ (congrArg vI (sI h))
 refine hK<|Tn<|Gg [.a] (u [8] [(3,vI 0)]) (aN)<|Gg [.a] (u [] [(4,vI 1)]) (aN)<|Sj (X:=Int) (fun v=>(sl 24 [(3,vI v)] [])) (fun v=>EI v=some r) ?_ ?_
 ·refine Gg [.a] (u [] [(5,vI 0)]) (aN)<|hB ?_
  obtain⟨j1,z0,h⟩:=bS h
  refine Gi (fun(v:Int×Int×Int)=>(u [] [(3,vI v.1),(4,vI v.2.1),(5,vI v.2.2)])) z0 (wT) ?_
  rintro⟨m0,i0,j0⟩ t0 k0 d1
  replace k0:C5 a0 m0 i0 j0=some t0:=k0
  unfold C5 at k0
  refine hS<|Gg [.a,.a] (u [] [(10,vB (decide (j0<5)))]) (aN)<|iC k0 (fun k0=>?_) (fun k0=>?_)
  ·refine hK<|Tn<|hS<|hB<|Gj (X:=Int) (fun v=>(u [10] [(3,vI v)])) (fun v=>Cm i0 j0 v=some t0) ?_ ?_
   ·obtain⟨q0,y0,k0⟩:=bS k0
    refine Gg [.a,.a,.a,(.v (vI q0)),.a] (u [10] [(17,vB (decide (0<q0)))]) (aC (Fh y0)<|aC (oU y0 (kq .i64) (BC a0) 2 7 0 1 false (vI q0))<|aC (Eq.refl (vI q0))<|aN)<|iC k0 (fun k0=>?_) (fun k0=>?_)
    ·refine Re (nA 4) (sl 24 [(1,vP [1] (0)),(3,vI (A3 (m0+i0))),(4,vI i0),(5,vI j0),(17,vB (decide (0<q0))),(18,vI m0),(19,vI i0),(20,vI (A3 (m0+i0)))] [bx [1] (BC a0)]) (aN)<|Tn ⟨(A3 (m0+i0)),k0,wT⟩
    refine hK<|Tn ⟨m0,k0,wT⟩
   rintro n0 p0
   replace p0:Cm i0 j0 n0=some t0:=p0
   unfold Cm at p0
   refine Re (nA 3) (sl 24 [(1,vP [1] (0)),(3,vI n0),(4,vI (A3 ((2:Int)*i0))),(5,vI j0),(21,vI i0),(22,vI (A3 ((2:Int)*i0)))] [bx [1] (BC a0)]) (aN)<|qN<|Tn<|Re (nA 3) (sl 24 [(1,vP [1] (0)),(3,vI n0),(4,vI (A3 ((2:Int)*i0))),(5,vI (A3 (j0+1))),(11,vI j0),(12,vI (A3 (j0+1))),(21,vI i0),(22,vI (A3 ((2:Int)*i0)))] [bx [1] (BC a0)]) (aN)<|Tn ⟨(n0,(A3 ((2:Int)*i0)),(A3 (j0+1))),(sI p0).symm,wT⟩
  refine hE<|Te ?_
  obtain rfl:=d1 _ (sI k0).symm
  refine Te<|qX<|Tn ⟨m0,h,wT⟩
 rintro o0 x0
 replace x0:EI o0=some r:=x0
 unfold EI at x0
 exact Rg [.a,.a] (sl 24 [(2,vI o0)] []) (aN)<|hR<|bQ _ (congrArg vI (sI x0))
def Gf (a0:Bq):Option ((List (BT))):=
 (ED a0).bind fun r1=>
 (AM r1.Specs).bind fun r2=>
 some r2
def UJ:mN:=mC [UG,Ea] 6 Tryz.f6 .n [.s 33] [.k (.lst 42)] (fun x=>Gf x.1) Tryz.func6 (by kernel_rfl)
def Ly (a0:Bq) (r:(List (BT))):Prop:=Bp Tryz.prog I0 6 [vA BU a0] (· =vL Aq r)
theorem QY {a0:Bq} {r:(List (BT))} (h:Gf a0=some r):Ly a0 r:=lQ (by kernel_rfl) (UJ.ok (a0,()) r h)
def Hq (a0:Bq):Option ((List (BT))):=
 (I6 a0).bind fun r1=>
 (U3 144 ([]:List (BT)) r1.Specs).bind fun l2=>
 some l2
def W0:mN:=mC [WZ] 7 Tryz.f7 .n [.s 33] [.k (.lst 42)] (fun x=>Hq x.1) Tryz.func7 (by kernel_rfl)
def ND (a0:Bq) (r:(List (BT))):Prop:=Bp Tryz.prog I0 7 [vA BU a0] (· =vL Aq r)
theorem UK {a0:Bq} {r:(List (BT))} (h:Hq a0=some r):ND a0 r:=lQ (by kernel_rfl) (W0.ok (a0,()) r h)
end Go.PL
