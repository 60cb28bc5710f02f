/- Functions of the program, as partial functions in Lean, with proofs. -/
import Derived.Test.YtcmdlelhdimnfaaGreatDoorPlAcB
import Derived.Test.YtcmdlelhdimnfaaGreatDoorPlAcF0
import Derived.Test.YtcmdlelhdimnfaaGreatDoorPlAcF1
import Derived.Test.YtcmdlelhdimnfaaGreatDoorPlAcF2
import Derived.Test.YtcmdlelhdimnfaaGreatDoorPlAcF3
import Derived.Test.YtcmdlelhdimnfaaGreatDoorPlAcF4
namespace Go.PL
open Go Go.RowKit Go.Proofs
set_option maxRecDepth 100000
set_option linter.all false
set_option maxHeartbeats 4000000
attribute [local irreducible] Holds thenQ blockQ
/-- cardgame/state.Is -/
def state_Is (a0 : List (SCard)) (a1 : SState) : Option (Bool) :=
 (state_players a1).bind fun r1 =>
 (gd (r1 == true) (state_objects a0 a1)).bind fun r2 =>
 (some (if r1 = true then r2 else false)).bind fun b3 =>
 (gd (b3 == true) (state_places a1)).bind fun r4 =>
 (some (if b3 = true then r4 else false)).bind fun b5 =>
 (gd (b5 == true) (state_items a1)).bind fun r6 =>
 (some (if b5 = true then r6 else false)).bind fun b7 =>
 (gd (b7 == true) (state_effects a1)).bind fun r8 =>
 (some (if b7 = true then r8 else false)).bind fun b9 =>
 (gd (b9 == true) (state_numbers a1)).bind fun r10 =>
 (some (if b9 = true then r10 else false)).bind fun b11 =>
 some b11
def state_Is_C (a0 : List (SCard)) (a1 : SState) (r : Bool) : Prop := PCall Tryz.prog I0 16 [vL encSCard a0, vA encSState a1] (· = vB r)
theorem state_Is_ok {a0 : List (SCard)} {a1 : SState} {r : Bool} (h : state_Is a0 a1 = some r) : state_Is_C a0 a1 r := by
 refine PCall.bo I0_stable Tryz.func16 rfl Tryz.ntmps16 [.tmp 4] fun _ _ _ _ => ?_
 unfold state_Is at h
 refine Gg [.a,.a] (uo [1] [(3,vP [3] (0))] [.e (bx [3] (encSState a1))]) (aN) ?_
 obtain ⟨r1,q0,r2,t0,b3,m0,r4,x0,h⟩ := bS4 h
 obtain ⟨b5,n0,r6,y0,b7,o0,r8,z0,h⟩ := bS4 h
 obtain ⟨b9,p0,d1,k0,i0,j0,h⟩ := bS3 h
 exact Rg [.a,(.c (vB r1)),.a,.a,.a,(.c (vB r2)),(.v (vB b3)),.a,.a,(.c (vB r4)),(.v (vB b5)),.a,.a,(.c (vB r6)),(.v (vB b7)),.a,.a,(.c (vB r8)),(.v (vB b9)),.a,.a,(.c (vB d1)),(.v (vB i0)),.a] (sl 28 [(4,vB i0)] []) (aC (state_players_ok q0) <| aC (c2 t0 state_objects_ok) <| aT r1 <| aB m0 <| aC (c1 x0 state_places_ok) <| aT b3 <| aB n0 <| aC (c1 y0 state_items_ok) <| aT b5 <| aB o0 <| aC (c1 z0 state_effects_ok) <| aT b7 <| aB p0 <| aC (c1 k0 state_numbers_ok) <| aT b9 <| aB j0 <| aN) <| hR <| bQ _ (kB h)
def layer_All_J7 (l1020_17_9_5 : List (STraits)) : Option ((List (STraits))) :=
 some l1020_17_9_5
def layer_All_J12 (n_t6_9 : Int) : Option ((Int) ⊕ (Unit)) :=
 some (.inl (wrap64 (n_t6_9 + (1 : Int))))
def layer_All_J15 (n_t6_9 : Int) : Option ((Int) ⊕ (Unit)) :=
 layer_All_J12 n_t6_9
def layer_All_B16  : Option ((Unit) ⊕ (Unit)) :=
 (if (decide ((0 : Int) < (([] : List (Int)).length : Int))) = true then
  none
 else
  some (.inr ()))
def layer_All_J14 (n_t6_9 : Int) : Option ((Int) ⊕ (Unit)) :=
 (iter (fun (v : Unit) => layer_All_B16) FU ()).bind (fun o0 => layer_All_J15 n_t6_9)
def layer_All_B18 (b17_9_forces1 : List (SForce)) : Option ((Unit) ⊕ (Unit)) :=
 (if (decide ((0 : Int) < (b17_9_forces1.length : Int))) = true then
  (idx b17_9_forces1 (0 : Int)).bind fun e20 =>
  (app 8 ([] : List (Int)) ([e20.Stamp] : List (Int))).bind fun l21 =>
  none
 else
  some (.inr ()))
def layer_All_J13 (b17_9_forces1 : List (SForce)) (n_t6_9 : Int) : Option ((Int) ⊕ (Unit)) :=
 (iter (fun (v : Unit) => layer_All_B18 b17_9_forces1) FU ()).bind (fun o0 => layer_All_J14 n_t6_9)
def layer_All_J23 (b17_9_forces1 : List (SForce)) (n_t6_9 : Int) : Option ((Int) ⊕ (Unit)) :=
 layer_All_J13 b17_9_forces1 n_t6_9
def layer_All_B26 (a1 : SState) (l1020_17_9_5 : List (STraits)) (vt12_25 : Int) : Option ((Int) ⊕ (Unit)) :=
 (if (decide (vt12_25 < (a1.Objects.length : Int))) = true then
  (idx a1.Objects vt12_25).bind fun e28 =>
  (idx l1020_17_9_5 vt12_25).bind fun e29 =>
  (some (if (e28.Zone == (0 : Int)) = true then (bAnd .i64 e29.Line.Types (1 : Int)) != (0 : Int) else false)).bind fun b30 =>
  (if b30 = true then
   none
  else
   some (.inl (wrap64 (vt12_25 + (1 : Int)))))
 else
  some (.inr ()))
def layer_All_B10 (a1 : SState) (b17_9_forces1 : List (SForce)) (l1020_17_9_5 : List (STraits)) (n_t6_9 : Int) : Option ((Int) ⊕ (Unit)) :=
 (if (decide (n_t6_9 ≤ (8 : Int))) = true then
  (if (n_t6_9 == (7 : Int)) = true then
   (iter (fun (v : Int) => layer_All_B26 a1 l1020_17_9_5 v) FU (0 : Int)).bind (fun o0 => layer_All_J23 b17_9_forces1 n_t6_9)
  else
   layer_All_J13 b17_9_forces1 n_t6_9)
 else
  some (.inr ()))
def layer_All_J6 (a1 : SState) (b17_9_forces1 : List (SForce)) (l15_9_2 : List (Bool)) (l45_9_3 : List (Bool)) (l51_9_4 : List (List (Int))) (l1020_17_9_5 : List (STraits)) : Option ((List (STraits))) :=
 (iter (fun (v : Int) => layer_All_B10 a1 b17_9_forces1 l1020_17_9_5 v) FU (1 : Int)).bind (fun o0 => layer_All_J7 l1020_17_9_5)
def layer_All_J36 (a1 : SState) (r32 : (List (SForce))) (l33 : List (Bool)) (l1020_17_9_35 : List (STraits)) : Option ((List (STraits))) :=
 (need (0 ≤ (r32.length : Int) ∧ (r32.length : Int) ≤ (r32.length : Int) ∧ (r32.length : Int) * 1 ≤ 140737488355328 ∧ (r32.length : Int) ≤ maxLen)).bind fun u38 =>
 (some (List.replicate ((r32.length : Int)).toNat false)).bind fun l37 =>
 (need (0 ≤ (r32.length : Int) ∧ (r32.length : Int) ≤ (r32.length : Int) ∧ (r32.length : Int) * 24 ≤ 140737488355328 ∧ (r32.length : Int) ≤ maxLen)).bind fun u40 =>
 (some (List.replicate ((r32.length : Int)).toNat ([] : List (Int)))).bind fun l39 =>
 layer_All_J6 a1 r32 l33 l37 l39 l1020_17_9_35
def layer_All_B46 (a0 : List (SCard)) (a1 : SState) (vt21_43 : Int) (l1020_17_9_44 : List (STraits)) : Option ((Int × (List (STraits))) ⊕ ((List (STraits)))) :=
 (if (decide (vt21_43 < (a1.Objects.length : Int))) = true then
  (idx a1.Objects vt21_43).bind fun e48 =>
  (base_Of a0 e48).bind fun r49 =>
  (app 176 l1020_17_9_44 ([r49] : List (STraits))).bind fun l50 =>
  some (.inl ((wrap64 (vt21_43 + (1 : Int))), l50))
 else
  some (.inr l1020_17_9_44))
/-- cardgame/layer.All -/
def layer_All (a0 : List (SCard)) (a1 : SState) : Option ((List (STraits))) :=
 (layer_Forces a0 a1).bind fun r32 =>
 (need (0 ≤ (a1.Objects.length : Int) ∧ (a1.Objects.length : Int) ≤ (a1.Objects.length : Int) ∧ (a1.Objects.length : Int) * 1 ≤ 140737488355328 ∧ (a1.Objects.length : Int) ≤ maxLen)).bind fun u34 =>
 (some (List.replicate ((a1.Objects.length : Int)).toNat false)).bind fun l33 =>
 (iter (fun (v : Int × (List (STraits))) => layer_All_B46 a0 a1 v.1 v.2) FU ((0 : Int), ([] : List (STraits)))).bind (fun o0 => layer_All_J36 a1 r32 l33 o0)
def layer_All_C (a0 : List (SCard)) (a1 : SState) (r : (List (STraits))) : Prop := PCall Tryz.prog I0 32 [vL encSCard a0, vA encSState a1] (· = vL encSTraits r)
theorem layer_All_ok {a0 : List (SCard)} {a1 : SState} {r : (List (STraits))} (h : layer_All a0 a1 = some r) : layer_All_C a0 a1 r := by
 refine PCall.bo I0_stable Tryz.func32 rfl Tryz.ntmps32 [.tmp 4] fun _ _ _ _ => ?_
 unfold layer_All at h
 refine Gg [.a,.a] (uo [1] [(3,vP [3] (0))] [.e (bx [3] (encSState a1))]) (aN) <| hS <| hO <| Gp 2 [.a,.a] (u [] [(7,vL encSCard a0),(8,vA encSState a1)]) (aN) <| Run.inlJ (X := (List (SForce)) × (List (Bool)) × (List (Bool)) × (List (List (Int))) × (List (STraits))) (fun v => (sl 21 [(9,vP [17,9] (0))] [rw_ [45,9] 4 1 eB v.2.2.1,rw_ [51,9] 24 1 (eL (eI .i64)) v.2.2.2.1,rw_ [1020,17,9] 111 17 encSTraits v.2.2.2.2,rw_ [15,9] 4 1 eB v.2.1,bx [17,9] [.sl ((a1).Players).length (((a1).Players).flatMap (encSPlayer)),.sl ((a1).Objects).length (((a1).Objects).flatMap (encSObject)),.sl ((a1).Battlefield).length (((a1).Battlefield).flatMap (eI .i64)),.sl ((a1).Exile).length (((a1).Exile).flatMap (eI .i64)),.sl ((a1).Stack).length (((a1).Stack).flatMap (encSItem)),.sl ((a1).Waiting).length (((a1).Waiting).flatMap (encSWaiting)),.sl ((a1).Conts).length (((a1).Conts).flatMap (encSCont)),.int .i64 ((a1).Turn),.int .i64 ((a1).Active),.int .i64 ((a1).Step),.bool ((a1).Begun),.int .i64 ((a1).Priority),.int .i64 ((a1).Passes),.int .i64 ((a1).NextId),.int .i64 ((a1).NextStamp),.int .u64 ((a1).Seed),.sl ((a1).Extra).length (((a1).Extra).flatMap (eI .i64)),.int .i64 ((a1).Over),.int .i64 ((a1).Winner),.sl v.1.length (v.1.flatMap (encSForce)),.osl [1020,17,9],.osl [15,9],.osl [45,9],.osl [51,9]]])) (fun v => layer_All_J6 a1 v.1 v.2.1 v.2.2.1 v.2.2.2.1 v.2.2.2.2 = some r) rfl rfl ?_ ?_
 · refine Ei 9 [vL encSCard a0,vA encSState a1] [] Tryz.func65 Tryz.ntmps65 [.tmp 4] rfl rfl rfl rfl fun _ _ _ _ => Gg [.a,.a] (uo [1] [(3,vP [3,9] (0))] [.e (bx [3,9] (encSState a1)),.k 0]) (aN) <| hS ?_
   obtain ⟨m0,n4,o5,p4,k1,j4,h⟩ := bS3 h
   refine Holds.regS followsP [[],[],[],[1,2],[],[4],[4,5],[4,5,6],[0,1,2,3,4,5,6,7],[0,1,2,3,4,5,6,7,8],[0,1,2,3,4,5,6,7,8,9]] [7,9] [[false,false],[true,false],[true,true]] [.a,.a,.a,(.c (vL encSForce m0)),.a,.a,.a,(.e k1.length (k1.flatMap eB)),.a,.a,.a] [[15,9],[17,9],[3,9],[3]] ⟨slD 57 0 [(0,[],vL encSCard a0),(3,[],vP [3,9] (0)),(5,[(10,vP [17,9] (0))],.undef),(8,[(0,vA encSState a1)],.undef),(9,[(1,vL encSCard a0)],.undef),(10,[(2,vA encSState a1)],.undef),(11,[(3,vL encSForce m0)],.undef),(12,[(4,vP [3,9] (1))],.undef),(13,[(5,vL encSObject a1.Objects)],.undef),(14,[(6,vI (a1.Objects.length : Int))],.undef),(15,[(7,vO [15,9])],.undef),(16,[(8,.agg [.sl ((a1).Players).length (((a1).Players).flatMap (encSPlayer)),.sl ((a1).Objects).length (((a1).Objects).flatMap (encSObject)),.sl ((a1).Battlefield).length (((a1).Battlefield).flatMap (eI .i64)),.sl ((a1).Exile).length (((a1).Exile).flatMap (eI .i64)),.sl ((a1).Stack).length (((a1).Stack).flatMap (encSItem)),.sl ((a1).Waiting).length (((a1).Waiting).flatMap (encSWaiting)),.sl ((a1).Conts).length (((a1).Conts).flatMap (encSCont)),.int .i64 ((a1).Turn),.int .i64 ((a1).Active),.int .i64 ((a1).Step),.bool ((a1).Begun),.int .i64 ((a1).Priority),.int .i64 ((a1).Passes),.int .i64 ((a1).NextId),.int .i64 ((a1).NextStamp),.int .u64 ((a1).Seed),.sl ((a1).Extra).length (((a1).Extra).flatMap (eI .i64)),.int .i64 ((a1).Over),.int .i64 ((a1).Winner),.sl m0.length (m0.flatMap (encSForce)),.nils,.osl [15,9],.nils,.nils])],.undef),(17,[(9,vP [17,9] (0))],.undef)],[([(7,rw_ [15,9] 4 1 eB k1)],none),([(9,bx [17,9] [.sl ((a1).Players).length (((a1).Players).flatMap (encSPlayer)),.sl ((a1).Objects).length (((a1).Objects).flatMap (encSObject)),.sl ((a1).Battlefield).length (((a1).Battlefield).flatMap (eI .i64)),.sl ((a1).Exile).length (((a1).Exile).flatMap (eI .i64)),.sl ((a1).Stack).length (((a1).Stack).flatMap (encSItem)),.sl ((a1).Waiting).length (((a1).Waiting).flatMap (encSWaiting)),.sl ((a1).Conts).length (((a1).Conts).flatMap (encSCont)),.int .i64 ((a1).Turn),.int .i64 ((a1).Active),.int .i64 ((a1).Step),.bool ((a1).Begun),.int .i64 ((a1).Priority),.int .i64 ((a1).Passes),.int .i64 ((a1).NextId),.int .i64 ((a1).NextStamp),.int .u64 ((a1).Seed),.sl ((a1).Extra).length (((a1).Extra).flatMap (eI .i64)),.int .i64 ((a1).Over),.int .i64 ((a1).Winner),.sl m0.length (m0.flatMap (encSForce)),.nils,.osl [15,9],.nils,.nils])],none),([],some (bx [3,9] (encSState a1))),([],some (bx [3] (encSState a1)))],[vL encSCard a0,.undef,.undef,vP [3] (0),.undef,.undef,.undef,vL encSCard a0,vA encSState a1,.undef,.undef,.undef,.undef,.undef,.undef,.undef,.undef,.undef,.undef,.undef,.undef],[9]⟩ _ (bC (aN) <| bC (aN) <| bC (aN) <| bC (aC (layer_Forces_ok n4) <| aN) <| bC (aN) <| bC (aN) <| bC (aN) <| bC (aC (mk1 j4 eB) <| aC (need_b p4) <| aN) <| bC (aC (And.intro (show True ∧ (True ∧ (True ∧ True)) from ⟨trivial,⟨trivial,⟨trivial,trivial⟩⟩⟩) okp154) <| aN) <| bC (aN) <| bC (aN) <| bN) <| Tn <| Gs (u [8,9,10,11,12,13,14,15,16,17] []) <| Ow [17,9] 20 [1020,17,9] 111 17 (sg 57 [(0,vL encSCard a0),(3,vP [3,9] (0)),(5,vP [17,9] (0))] [rw_ [1020,17,9] 111 17 encSTraits ([] : List (STraits)),rw_ [15,9] 4 1 eB k1,bx [17,9] [.sl ((a1).Players).length (((a1).Players).flatMap (encSPlayer)),.sl ((a1).Objects).length (((a1).Objects).flatMap (encSObject)),.sl ((a1).Battlefield).length (((a1).Battlefield).flatMap (eI .i64)),.sl ((a1).Exile).length (((a1).Exile).flatMap (eI .i64)),.sl ((a1).Stack).length (((a1).Stack).flatMap (encSItem)),.sl ((a1).Waiting).length (((a1).Waiting).flatMap (encSWaiting)),.sl ((a1).Conts).length (((a1).Conts).flatMap (encSCont)),.int .i64 ((a1).Turn),.int .i64 ((a1).Active),.int .i64 ((a1).Step),.bool ((a1).Begun),.int .i64 ((a1).Priority),.int .i64 ((a1).Passes),.int .i64 ((a1).NextId),.int .i64 ((a1).NextStamp),.int .u64 ((a1).Seed),.sl ((a1).Extra).length (((a1).Extra).flatMap (eI .i64)),.int .i64 ((a1).Over),.int .i64 ((a1).Winner),.sl m0.length (m0.flatMap (encSForce)),.osl [1020,17,9],.osl [15,9],.nils,.nils],bx [3,9] (encSState a1),bx [3] (encSState a1)] 21 [(0,vL encSCard a0),(3,vP [3] (0)),(7,vL encSCard a0),(8,vA encSState a1)] [9]) <| Gj (X := (List (STraits))) (fun v => (uo [0,3] [] [.e (rw_ [1020,17,9] 111 17 encSTraits v),.k 1,.k 2,.k 4])) (fun v => layer_All_J36 a1 m0 k1 v = some r) ?_ ?_
   · refine Gg (nA 4) (uo [3] [(19,vL encSObject a1.Objects),(20,vI (a1.Objects.length : Int)),(21,vI (0 : Int))] [.k 0,.k 1,.k 2,.k 4]) (aN) <| hB ?_
     obtain ⟨n5,p3,h⟩ := bS h
     refine It (fun (v : Int × (List (STraits))) => (sg 57 [(0,vL encSCard a0),(5,vP [17,9] (0)),(19,vL encSObject a1.Objects),(20,vI (a1.Objects.length : Int)),(21,vI v.1)] [rw_ [1020,17,9] 111 17 encSTraits v.2,rw_ [15,9] 4 1 eB k1,bx [17,9] [.sl ((a1).Players).length (((a1).Players).flatMap (encSPlayer)),.sl ((a1).Objects).length (((a1).Objects).flatMap (encSObject)),.sl ((a1).Battlefield).length (((a1).Battlefield).flatMap (eI .i64)),.sl ((a1).Exile).length (((a1).Exile).flatMap (eI .i64)),.sl ((a1).Stack).length (((a1).Stack).flatMap (encSItem)),.sl ((a1).Waiting).length (((a1).Waiting).flatMap (encSWaiting)),.sl ((a1).Conts).length (((a1).Conts).flatMap (encSCont)),.int .i64 ((a1).Turn),.int .i64 ((a1).Active),.int .i64 ((a1).Step),.bool ((a1).Begun),.int .i64 ((a1).Priority),.int .i64 ((a1).Passes),.int .i64 ((a1).NextId),.int .i64 ((a1).NextStamp),.int .u64 ((a1).Seed),.sl ((a1).Extra).length (((a1).Extra).flatMap (eI .i64)),.int .i64 ((a1).Over),.int .i64 ((a1).Winner),.sl m0.length (m0.flatMap (encSForce)),.osl [1020,17,9],.osl [15,9],.nils,.nils],bx [3] (encSState a1)] 21 [(0,vL encSCard a0),(3,vP [3] (0)),(7,vL encSCard a0),(8,vA encSState a1)] [9])) p3 (wT) ?_
     rintro ⟨z0,y0⟩ d5 q0 z3
     replace q0 : layer_All_B46 a0 a1 z0 y0 = some d5 := q0
     unfold layer_All_B46 at q0
     refine Gg [.a] (u [] [(22,vB (decide (z0 < (a1.Objects.length : Int))))]) (aN) <| hS <| iC q0 (fun q0 => ?_) (fun q0 => ?_)
     · refine hK <| Tn <| hS <| hB ?_
       obtain ⟨x1,y2,q0⟩ := bS q0
       refine Gg [.a,(.v (vA encSObject x1)),.a,.a] (uo [22] [(7,vP [7,9] (0))] [.e (bx [7,9] (encSObject x1)),.k 0,.k 1,.k 2,.k 3]) (aC (idx_b y2) <| aC (eld y2 lenSObject 0 19 true (vA encSObject x1)) <| aC (Eq.refl (vA encSObject x1)) <| aN) ?_
       obtain ⟨j3,o4,o2,d3,q0⟩ := bS2 q0
       refine Holds.regS followsP [[],[],[1],[1,2],[1,2,3],[],[],[5,6],[5,6,7],[1,2,3,4,5,6,7,8],[0,1,2,3,4,5,6,7,8,9],[0,1,2,3,4,5,6,7,8,9,10],[0,1,2,3,4,5,6,7,8,9,10,11]] [0,8,9,12] [[false,false,false,false],[true,false,false,false],[false,true,false,false],[true,true,false,false],[false,true,true,false],[true,true,true,false],[true,true,true,true]] [.a,.a,.a,.a,.a,.a,.a,(.c (vA encSTraits j3)),.a,(.e o2.length (o2.flatMap (encSTraits))),.a,.a,.a] [[33,9],[7,9],[1020,17,9],[15,9],[17,9],[3]] ⟨slD 57 0 [(0,[],vL encSCard a0),(5,[],vP [17,9] (0)),(7,[],vP [7,9] (0)),(19,[],vL encSObject a1.Objects),(20,[],vI (a1.Objects.length : Int)),(21,[],vI z0),(25,[(0,vP [17,9] (0))],.undef),(26,[(1,vP [17,9] (0))],.undef),(27,[(2,vP [17,9] (0))],.undef),(28,[(3,vP [17,9] (20))],.undef),(29,[(4,vO [1020,17,9]),(9,.undef)],.undef),(30,[(5,vL encSCard a0)],.undef),(31,[(6,vA encSObject x1)],.undef),(32,[(7,vA encSTraits j3)],.undef),(33,[(8,vO [33,9])],.undef),(34,[(9,vO [1020,17,9])],.undef),(35,[(10,vP [17,9] (0))],.undef),(36,[(11,vP [17,9] (20))],.undef)],[([(8,rw_ [33,9] 111 17 encSTraits ([j3] : List (STraits)))],none),([],some (bx [7,9] (encSObject x1))),([(9,rw_ [1020,17,9] 111 17 encSTraits o2)],some (rw_ [1020,17,9] 111 17 encSTraits y0)),([],some (rw_ [15,9] 4 1 eB k1)),([(9,bx [17,9] [.sl ((a1).Players).length (((a1).Players).flatMap (encSPlayer)),.sl ((a1).Objects).length (((a1).Objects).flatMap (encSObject)),.sl ((a1).Battlefield).length (((a1).Battlefield).flatMap (eI .i64)),.sl ((a1).Exile).length (((a1).Exile).flatMap (eI .i64)),.sl ((a1).Stack).length (((a1).Stack).flatMap (encSItem)),.sl ((a1).Waiting).length (((a1).Waiting).flatMap (encSWaiting)),.sl ((a1).Conts).length (((a1).Conts).flatMap (encSCont)),.int .i64 ((a1).Turn),.int .i64 ((a1).Active),.int .i64 ((a1).Step),.bool ((a1).Begun),.int .i64 ((a1).Priority),.int .i64 ((a1).Passes),.int .i64 ((a1).NextId),.int .i64 ((a1).NextStamp),.int .u64 ((a1).Seed),.sl ((a1).Extra).length (((a1).Extra).flatMap (eI .i64)),.int .i64 ((a1).Over),.int .i64 ((a1).Winner),.sl m0.length (m0.flatMap (encSForce)),.any,.osl [15,9],.nils,.nils]),(12,bx [17,9] [.sl ((a1).Players).length (((a1).Players).flatMap (encSPlayer)),.sl ((a1).Objects).length (((a1).Objects).flatMap (encSObject)),.sl ((a1).Battlefield).length (((a1).Battlefield).flatMap (eI .i64)),.sl ((a1).Exile).length (((a1).Exile).flatMap (eI .i64)),.sl ((a1).Stack).length (((a1).Stack).flatMap (encSItem)),.sl ((a1).Waiting).length (((a1).Waiting).flatMap (encSWaiting)),.sl ((a1).Conts).length (((a1).Conts).flatMap (encSCont)),.int .i64 ((a1).Turn),.int .i64 ((a1).Active),.int .i64 ((a1).Step),.bool ((a1).Begun),.int .i64 ((a1).Priority),.int .i64 ((a1).Passes),.int .i64 ((a1).NextId),.int .i64 ((a1).NextStamp),.int .u64 ((a1).Seed),.sl ((a1).Extra).length (((a1).Extra).flatMap (eI .i64)),.int .i64 ((a1).Over),.int .i64 ((a1).Winner),.sl m0.length (m0.flatMap (encSForce)),.osl [1020,17,9],.osl [15,9],.nils,.nils])],some (bx [17,9] [.sl ((a1).Players).length (((a1).Players).flatMap (encSPlayer)),.sl ((a1).Objects).length (((a1).Objects).flatMap (encSObject)),.sl ((a1).Battlefield).length (((a1).Battlefield).flatMap (eI .i64)),.sl ((a1).Exile).length (((a1).Exile).flatMap (eI .i64)),.sl ((a1).Stack).length (((a1).Stack).flatMap (encSItem)),.sl ((a1).Waiting).length (((a1).Waiting).flatMap (encSWaiting)),.sl ((a1).Conts).length (((a1).Conts).flatMap (encSCont)),.int .i64 ((a1).Turn),.int .i64 ((a1).Active),.int .i64 ((a1).Step),.bool ((a1).Begun),.int .i64 ((a1).Priority),.int .i64 ((a1).Passes),.int .i64 ((a1).NextId),.int .i64 ((a1).NextStamp),.int .u64 ((a1).Seed),.sl ((a1).Extra).length (((a1).Extra).flatMap (eI .i64)),.int .i64 ((a1).Over),.int .i64 ((a1).Winner),.sl m0.length (m0.flatMap (encSForce)),.osl [1020,17,9],.osl [15,9],.nils,.nils])),([],some (bx [3] (encSState a1)))],[vL encSCard a0,.undef,.undef,vP [3] (0),.undef,.undef,.undef,vL encSCard a0,vA encSState a1,.undef,.undef,.undef,.undef,.undef,.undef,.undef,.undef,.undef,.undef,.undef,.undef],[9]⟩ _ (bC (aN) <| bC (aN) <| bC (aC (show True ∧ True from ⟨trivial,trivial⟩) <| aN) <| bC (aN) <| bC (aN) <| bC (aN) <| bC (aN) <| bC (aC (base_Of_ok o4) <| aN) <| bC (aN) <| bC (aC (ap1 d3 encSTraits) <| aC (app_b d3) <| aN) <| bC (aC (show True ∧ True from ⟨trivial,trivial⟩) <| aN) <| bC (aN) <| bC (aN) <| bN) <| qN <| Tn <| Ge [.a,.a] (u [] [(21,vI (wrap64 (z0 + (1 : Int)))),(37,vI (wrap64 (z0 + (1 : Int))))]) (aN) <| Tn ⟨((wrap64 (z0 + (1 : Int))),o2),(sI q0).symm,wT⟩
     refine hE <| Te ?_
     obtain rfl := z3 _ (sI q0).symm
     refine Te <| qX <| Tn ⟨y0,h,wT⟩
   rintro t0 t1
   replace t1 : layer_All_J36 a1 m0 k1 t0 = some r := t1
   unfold layer_All_J36 at t1
   refine hS ?_
   obtain ⟨p5,q4,j2,k4,q5,t4,k2,m4,t1⟩ := bS4 t1
   refine Holds.regS followsP [[],[],[],[2],[2,3],[2,3,4],[2,3,4,5],[2,3,4,5,6],[],[8],[8,9],[8,9,10],[8,9,10,11],[8,9,10,11,12],[0,2,3,4,5,6,7,8,9,10,11],[0,2,3,4,5,6,7,8,9,10,11,14],[0,2,3,4,5,6,7,8,9,10,11,14,15],[0,1,2,3,4,5,6,7,8,9,10,11,12,13,14,15,16],[0,1,2,3,4,5,6,7,8,9,10,11,12,13,14,15,16,17],[0,1,2,3,4,5,6,7,8,9,10,11,12,13,14,15,16,17,18]] [7,13,16,19] [[false,false,false,false],[true,false,false,false],[false,true,false,false],[true,true,false,false],[true,false,true,false],[true,true,true,false],[true,true,true,true]] [.a,.a,.a,.a,.a,.a,.a,(.e j2.length (j2.flatMap eB)),.a,.a,.a,.a,.a,(.e k2.length (k2.flatMap (eL (eI .i64)))),.a,.a,.a,.a,.a,.a] [[45,9],[51,9],[1020,17,9],[15,9],[17,9],[3]] ⟨slD 57 0 [(5,[],vP [17,9] (0)),(38,[(0,vP [17,9] (0))],.undef),(39,[(1,vP [17,9] (0))],.undef),(40,[(2,vP [17,9] (0))],.undef),(41,[(3,vP [17,9] (0))],.undef),(42,[(4,vP [17,9] (19))],.undef),(43,[(5,vL encSForce m0)],.undef),(44,[(6,vI (m0.length : Int))],.undef),(45,[(7,vO [45,9])],.undef),(46,[(8,vP [17,9] (0))],.undef),(47,[(9,vP [17,9] (0))],.undef),(48,[(10,vP [17,9] (19))],.undef),(49,[(11,vL encSForce m0)],.undef),(50,[(12,vI (m0.length : Int))],.undef),(51,[(13,vO [51,9])],.undef),(52,[(14,vP [17,9] (0))],.undef),(53,[(15,vP [17,9] (22))],.undef),(54,[(17,vP [17,9] (0))],.undef),(55,[(18,vP [17,9] (23))],.undef)],[([(7,rw_ [45,9] 4 1 eB j2)],none),([(13,rw_ [51,9] 24 1 (eL (eI .i64)) k2)],none),([],some (rw_ [1020,17,9] 111 17 encSTraits t0)),([],some (rw_ [15,9] 4 1 eB k1)),([(16,bx [17,9] [.sl ((a1).Players).length (((a1).Players).flatMap (encSPlayer)),.sl ((a1).Objects).length (((a1).Objects).flatMap (encSObject)),.sl ((a1).Battlefield).length (((a1).Battlefield).flatMap (eI .i64)),.sl ((a1).Exile).length (((a1).Exile).flatMap (eI .i64)),.sl ((a1).Stack).length (((a1).Stack).flatMap (encSItem)),.sl ((a1).Waiting).length (((a1).Waiting).flatMap (encSWaiting)),.sl ((a1).Conts).length (((a1).Conts).flatMap (encSCont)),.int .i64 ((a1).Turn),.int .i64 ((a1).Active),.int .i64 ((a1).Step),.bool ((a1).Begun),.int .i64 ((a1).Priority),.int .i64 ((a1).Passes),.int .i64 ((a1).NextId),.int .i64 ((a1).NextStamp),.int .u64 ((a1).Seed),.sl ((a1).Extra).length (((a1).Extra).flatMap (eI .i64)),.int .i64 ((a1).Over),.int .i64 ((a1).Winner),.sl m0.length (m0.flatMap (encSForce)),.osl [1020,17,9],.osl [15,9],.osl [45,9],.nils]),(19,bx [17,9] [.sl ((a1).Players).length (((a1).Players).flatMap (encSPlayer)),.sl ((a1).Objects).length (((a1).Objects).flatMap (encSObject)),.sl ((a1).Battlefield).length (((a1).Battlefield).flatMap (eI .i64)),.sl ((a1).Exile).length (((a1).Exile).flatMap (eI .i64)),.sl ((a1).Stack).length (((a1).Stack).flatMap (encSItem)),.sl ((a1).Waiting).length (((a1).Waiting).flatMap (encSWaiting)),.sl ((a1).Conts).length (((a1).Conts).flatMap (encSCont)),.int .i64 ((a1).Turn),.int .i64 ((a1).Active),.int .i64 ((a1).Step),.bool ((a1).Begun),.int .i64 ((a1).Priority),.int .i64 ((a1).Passes),.int .i64 ((a1).NextId),.int .i64 ((a1).NextStamp),.int .u64 ((a1).Seed),.sl ((a1).Extra).length (((a1).Extra).flatMap (eI .i64)),.int .i64 ((a1).Over),.int .i64 ((a1).Winner),.sl m0.length (m0.flatMap (encSForce)),.osl [1020,17,9],.osl [15,9],.osl [45,9],.osl [51,9]])],some (bx [17,9] [.sl ((a1).Players).length (((a1).Players).flatMap (encSPlayer)),.sl ((a1).Objects).length (((a1).Objects).flatMap (encSObject)),.sl ((a1).Battlefield).length (((a1).Battlefield).flatMap (eI .i64)),.sl ((a1).Exile).length (((a1).Exile).flatMap (eI .i64)),.sl ((a1).Stack).length (((a1).Stack).flatMap (encSItem)),.sl ((a1).Waiting).length (((a1).Waiting).flatMap (encSWaiting)),.sl ((a1).Conts).length (((a1).Conts).flatMap (encSCont)),.int .i64 ((a1).Turn),.int .i64 ((a1).Active),.int .i64 ((a1).Step),.bool ((a1).Begun),.int .i64 ((a1).Priority),.int .i64 ((a1).Passes),.int .i64 ((a1).NextId),.int .i64 ((a1).NextStamp),.int .u64 ((a1).Seed),.sl ((a1).Extra).length (((a1).Extra).flatMap (eI .i64)),.int .i64 ((a1).Over),.int .i64 ((a1).Winner),.sl m0.length (m0.flatMap (encSForce)),.osl [1020,17,9],.osl [15,9],.nils,.nils])),([],some (bx [3] (encSState a1)))],[vL encSCard a0,.undef,.undef,vP [3] (0),.undef,.undef,.undef,vL encSCard a0,vA encSState a1,.undef,.undef,.undef,.undef,.undef,.undef,.undef,.undef,.undef,.undef,.undef,.undef],[9]⟩ _ (bC (aN) <| bC (aN) <| bC (aN) <| bC (aC (show True ∧ True from ⟨trivial,trivial⟩) <| aN) <| bC (aN) <| bC (aN) <| bC (aN) <| bC (aC (mk1 k4 eB) <| aC (need_b q4) <| aN) <| bC (aN) <| bC (aC (show True ∧ True from ⟨trivial,trivial⟩) <| aN) <| bC (aN) <| bC (aN) <| bC (aN) <| bC (aC (mk1 m4 (eL (eI .i64))) <| aC (need_b t4) <| aN) <| bC (aC (show True ∧ True from ⟨trivial,trivial⟩) <| aN) <| bC (aN) <| bC (aN) <| bC (aC (show True ∧ True from ⟨trivial,trivial⟩) <| aN) <| bC (aN) <| bC (aN) <| bN) <| Tn <| Ls (sg 57 [(5,vP [17,9] (0))] [rw_ [45,9] 4 1 eB j2,rw_ [51,9] 24 1 (eL (eI .i64)) k2,rw_ [1020,17,9] 111 17 encSTraits t0,rw_ [15,9] 4 1 eB k1,bx [17,9] [.sl ((a1).Players).length (((a1).Players).flatMap (encSPlayer)),.sl ((a1).Objects).length (((a1).Objects).flatMap (encSObject)),.sl ((a1).Battlefield).length (((a1).Battlefield).flatMap (eI .i64)),.sl ((a1).Exile).length (((a1).Exile).flatMap (eI .i64)),.sl ((a1).Stack).length (((a1).Stack).flatMap (encSItem)),.sl ((a1).Waiting).length (((a1).Waiting).flatMap (encSWaiting)),.sl ((a1).Conts).length (((a1).Conts).flatMap (encSCont)),.int .i64 ((a1).Turn),.int .i64 ((a1).Active),.int .i64 ((a1).Step),.bool ((a1).Begun),.int .i64 ((a1).Priority),.int .i64 ((a1).Passes),.int .i64 ((a1).NextId),.int .i64 ((a1).NextStamp),.int .u64 ((a1).Seed),.sl ((a1).Extra).length (((a1).Extra).flatMap (eI .i64)),.int .i64 ((a1).Over),.int .i64 ((a1).Winner),.sl m0.length (m0.flatMap (encSForce)),.osl [1020,17,9],.osl [15,9],.osl [45,9],.osl [51,9]],bx [3] (encSState a1)] 21 [(0,vL encSCard a0),(3,vP [3] (0)),(7,vL encSCard a0),(8,vA encSState a1)] [9]) <| Gg [.a,.a] (u [5] [(4,vP [17,9] (0))]) (aN) <| hR <| nR (vP [17,9] (0)) ⟨(m0,k1,j2,k2,t0),t1,lT⟩
 rintro ⟨i0,m1,n1,o1,k0⟩ y1
 replace y1 : layer_All_J6 a1 i0 m1 n1 o1 k0 = some r := y1
 unfold layer_All_J6 at y1
 refine Gw [.a] (u [] [(5,vP [17,9] (0))]) (aN) <| Tn <| Gj (X := Unit) (fun v => (u [9] [])) (fun v => layer_All_J7 k0 = some r) ?_ ?_
 · refine Gg [.a] (u [9] [(6,vI (1 : Int))]) (aN) <| hB ?_
   obtain ⟨i5,k3,y1⟩ := bS y1
   refine Gi (fun (v : Int) => (u [] [(6,vI v)])) k3 (wT) ?_
   rintro j0 d1 o0 q3
   replace o0 : layer_All_B10 a1 i0 k0 j0 = some d1 := o0
   unfold layer_All_B10 at o0
   refine hS <| Gg [.a,.a] (u [] [(11,vB (decide (j0 ≤ (8 : Int))))]) (aN) <| iC o0 (fun o0 => ?_) (fun o0 => ?_)
   · refine hK <| Tn <| hS <| hB <| hO <| Gp 2 [.a,.a] (u [] [(14,vP [17,9] (0)),(15,vI j0)]) (aN) <| Nj (X := Unit) (fun v => (u [11,14,15] [])) (fun v => layer_All_J12 j0 = some d1) rfl rfl ?_ ?_
     · refine Ei 16 [vP [17,9] (0),vI j0] [] Tryz.func66 Tryz.ntmps66 [.tmp 4] rfl rfl rfl rfl fun _ _ _ _ => Rg [.a] (sg 63 [(0,vP [17,9] (0)),(1,vI j0)] [rw_ [45,9] 4 1 eB n1,rw_ [51,9] 24 1 (eL (eI .i64)) o1,rw_ [1020,17,9] 111 17 encSTraits k0,rw_ [15,9] 4 1 eB m1,bx [17,9] [.sl ((a1).Players).length (((a1).Players).flatMap (encSPlayer)),.sl ((a1).Objects).length (((a1).Objects).flatMap (encSObject)),.sl ((a1).Battlefield).length (((a1).Battlefield).flatMap (eI .i64)),.sl ((a1).Exile).length (((a1).Exile).flatMap (eI .i64)),.sl ((a1).Stack).length (((a1).Stack).flatMap (encSItem)),.sl ((a1).Waiting).length (((a1).Waiting).flatMap (encSWaiting)),.sl ((a1).Conts).length (((a1).Conts).flatMap (encSCont)),.int .i64 ((a1).Turn),.int .i64 ((a1).Active),.int .i64 ((a1).Step),.bool ((a1).Begun),.int .i64 ((a1).Priority),.int .i64 ((a1).Passes),.int .i64 ((a1).NextId),.int .i64 ((a1).NextStamp),.int .u64 ((a1).Seed),.sl ((a1).Extra).length (((a1).Extra).flatMap (eI .i64)),.int .i64 ((a1).Over),.int .i64 ((a1).Winner),.sl i0.length (i0.flatMap (encSForce)),.osl [1020,17,9],.osl [15,9],.osl [45,9],.osl [51,9]]] 21 [(5,vP [17,9] (0)),(6,vI j0),(11,vB (decide (j0 ≤ (8 : Int)))),(14,vP [17,9] (0)),(15,vI j0)] [16]) (aN) <| Gj (X := Unit) (fun v => (u [] [])) (fun v => layer_All_J13 i0 j0 = some d1) ?_ ?_
       · refine Gg [.a,.a] (u [] [(12,vB (j0 == (7 : Int)))]) (aN) <| iC o0 (fun o0 => ?_) (fun o0 => ?_)
         · refine hO <| Gp 1 [.a] (u [] [(13,vP [17,9] (0))]) (aN) <| Nj (X := Unit) (fun v => (u [12,13] [])) (fun v => layer_All_J23 i0 j0 = some d1) rfl rfl ?_ ?_
           · refine Ei 14 [vP [17,9] (0)] [] Tryz.func105 Tryz.ntmps105 [] rfl rfl rfl rfl fun _ _ _ _ => Gg (nA 7) (u [] [(10,vL encSObject a1.Objects),(11,vI (a1.Objects.length : Int)),(12,vI (0 : Int))]) (aC (show True ∧ True from ⟨trivial,trivial⟩) <| aN) <| hB ?_
             obtain ⟨m5,o3,o0⟩ := bS o0
             refine Gi (fun (v : Int) => (u [] [(12,vI v)])) o3 (wT) ?_
             rintro x0 z4 n0 y3
             replace n0 : layer_All_B26 a1 k0 x0 = some z4 := n0
             unfold layer_All_B26 at n0
             refine Gg [.a] (u [] [(13,vB (decide (x0 < (a1.Objects.length : Int))))]) (aN) <| hS <| iC n0 (fun n0 => ?_) (fun n0 => ?_)
             · refine hK <| Tn <| hS <| hB ?_
               obtain ⟨i1,t2,n0⟩ := bS n0
               refine Rg [.a,.a,(.v (vA encSObject i1)),.a,.a,.a] (sg 57 [(0,vP [17,9] (0)),(2,vI x0),(3,vP [3,14,16] (0)),(10,vL encSObject a1.Objects),(11,vI (a1.Objects.length : Int)),(12,vI x0)] [bx [3,14,16] (encSObject i1),rw_ [45,9] 4 1 eB n1,rw_ [51,9] 24 1 (eL (eI .i64)) o1,rw_ [1020,17,9] 111 17 encSTraits k0,rw_ [15,9] 4 1 eB m1,bx [17,9] [.sl ((a1).Players).length (((a1).Players).flatMap (encSPlayer)),.sl ((a1).Objects).length (((a1).Objects).flatMap (encSObject)),.sl ((a1).Battlefield).length (((a1).Battlefield).flatMap (eI .i64)),.sl ((a1).Exile).length (((a1).Exile).flatMap (eI .i64)),.sl ((a1).Stack).length (((a1).Stack).flatMap (encSItem)),.sl ((a1).Waiting).length (((a1).Waiting).flatMap (encSWaiting)),.sl ((a1).Conts).length (((a1).Conts).flatMap (encSCont)),.int .i64 ((a1).Turn),.int .i64 ((a1).Active),.int .i64 ((a1).Step),.bool ((a1).Begun),.int .i64 ((a1).Priority),.int .i64 ((a1).Passes),.int .i64 ((a1).NextId),.int .i64 ((a1).NextStamp),.int .u64 ((a1).Seed),.sl ((a1).Extra).length (((a1).Extra).flatMap (eI .i64)),.int .i64 ((a1).Over),.int .i64 ((a1).Winner),.sl i0.length (i0.flatMap (encSForce)),.osl [1020,17,9],.osl [15,9],.osl [45,9],.osl [51,9]]] 84 [(0,vP [17,9] (0)),(1,vI j0),(12,vB (j0 == (7 : Int))),(13,vP [17,9] (0)),(68,vP [17,9] (0)),(69,vI j0),(74,vB (decide (j0 ≤ (8 : Int)))),(77,vP [17,9] (0)),(78,vI j0)] [14,16]) (aC (idx_b t2) <| aC (eld t2 lenSObject 0 19 true (vA encSObject i1)) <| aC (Eq.refl (vA encSObject i1)) <| aN) ?_
               obtain ⟨p2,x2,n0⟩ := bS n0
               refine Gg (nA 7) (u [2] [(4,vP [1020,17,9] ((x0).toNat * 17))]) (aC (show True ∧ True from ⟨trivial,trivial⟩) <| aC (idx_b x2) <| aN) ?_
               obtain ⟨d4,i4,n0⟩ := bS n0
               refine Gg [.a,.a,.a,.a,.a,.a,.a,.a,(.v (vI p2.Line.Types)),.a,.a,(.v (vB d4))] (u [] [(34,vB d4)]) (aC (fun hg : ((i1.Zone == (0 : Int)) == true) = true => aC (show (((i1.Zone == (0 : Int)) == true) = true → ((i1.Zone == (0 : Int)) == true) = true) ∧ True from ⟨id,trivial⟩) <| aN) <| aG ((i1.Zone == (0 : Int)) == true) <| aG ((i1.Zone == (0 : Int)) == true) <| aC (fun hg : ((i1.Zone == (0 : Int)) == true) = true => aC (gi ((i1.Zone == (0 : Int)) == true)) <| aC (eld x2 lenSTraits 10 1 false (vI p2.Line.Types)) <| aC (Eq.refl (vI p2.Line.Types)) <| aN) <| aG ((i1.Zone == (0 : Int)) == true) <| aG ((i1.Zone == (0 : Int)) == true) <| aT (i1.Zone == (0 : Int)) <| aB i4 <| aN) <| iC n0 (fun n0 => ?_) (fun n0 => ?_)
               · cases n0
               refine hK <| qN <| Tn <| Ge [.a,.a] (u [] [(12,vI (wrap64 (x0 + (1 : Int)))),(56,vI (wrap64 (x0 + (1 : Int))))]) (aN) <| Tn ⟨(wrap64 (x0 + (1 : Int))),(sI n0).symm,wT⟩
             refine hE <| Te ?_
             obtain rfl := y3 _ (sI n0).symm
             refine Te <| qX <| nN (.tup []) ⟨(),o0,lT⟩
           rintro _ i2
           replace i2 : layer_All_J23 i0 j0 = some d1 := i2
           unfold layer_All_J23 at i2
           refine Gw [] (u [] []) (aN) <| Tn ⟨(),i2,wT⟩
         refine hK <| Tn ⟨(),o0,wT⟩
       rintro _ p1
       replace p1 : layer_All_J13 i0 j0 = some d1 := p1
       unfold layer_All_J13 at p1
       refine Gg (nA 3) (uo [] [(5,vO [5,16]),(6,vO [6,16]),(7,vO [7,16])] [.e (rw_ [7,16] 3 1 (eI .i64) ([] : List (Int))),.e (rw_ [6,16] 3 1 (eI .i64) ([] : List (Int))),.e (rw_ [5,16] 3 1 (eI .i64) ([] : List (Int))),.k 0,.k 1,.k 2,.k 3,.k 4]) (aN) <| Gj (X := Unit) (fun v => (u [] [])) (fun v => layer_All_J14 j0 = some d1) ?_ ?_
       · refine Gg (nA 6) (u [] [(18,vL encSForce i0),(19,vI (i0.length : Int)),(20,vI (0 : Int))]) (aC (show True ∧ True from ⟨trivial,trivial⟩) <| aN) <| hB ?_
         obtain ⟨k5,n3,p1⟩ := bS p1
         refine Gi (fun (v : Unit) => (u [] [])) n3 (wT) ?_
         rintro _ y4 p0 x3
         replace p0 : layer_All_B18 i0 = some y4 := p0
         unfold layer_All_B18 at p0
         refine Gg [.a] (u [] [(21,vB (decide ((0 : Int) < (i0.length : Int))))]) (aN) <| hS <| iC p0 (fun p0 => ?_) (fun p0 => ?_)
         · refine hK <| Tn <| hS <| hB ?_
           obtain ⟨m2,q2,p0⟩ := bS p0
           refine Gg [.a,.a,(.v (vA encSForce m2)),.a,.a,.a] (uo [21] [(8,vI (0 : Int)),(9,vP [9,16] (0))] [.e (bx [9,16] (encSForce m2)),.k 0,.k 1,.k 2,.k 3,.k 4,.k 5,.k 6,.k 7]) (aC (idx_b q2) <| aC (eld q2 lenSForce 0 23 true (vA encSForce m2)) <| aC (Eq.refl (vA encSForce m2)) <| aN) ?_
           obtain ⟨i3,z2,p0⟩ := bS p0
           refine Gg [.a,.a,.a,.a,(.e i3.length (i3.flatMap (eI .i64))),.a] (uo [] [] [.e (rw_ [7,16] 3 1 (eI .i64) i3),.k 0,.k 2,.k 3,.k 4,.k 5,.k 6,.k 7,.k 8]) (aC (ap1 z2 (eI .i64)) <| aC (app_b z2) <| aN) ?_
           cases p0
         refine hE <| Te ?_
         obtain rfl := x3 _ (sI p0).symm
         refine Te <| qX <| Tn ⟨(),p1,wT⟩
       rintro _ q1
       replace q1 : layer_All_J14 j0 = some d1 := q1
       unfold layer_All_J14 at q1
       refine Gj (X := Unit) (fun v => (uo [0,1,5,7] [] [.k 1,.k 3,.k 4,.k 5,.k 6,.k 7])) (fun v => layer_All_J15 j0 = some d1) ?_ ?_
       · refine hB ?_
         obtain ⟨j5,m3,q1⟩ := bS q1
         refine Gi (fun (v : Unit) => (u [] [])) m3 (wT) ?_
         rintro _ x4 j1 t3
         replace j1 : layer_All_B16 = some x4 := j1
         unfold layer_All_B16 at j1
         refine hS <| Gg (nA 3) (u [] [(40,vB (decide ((0 : Int) < (([] : List (Int)).length : Int))))]) (aN) <| iC j1 (fun j1 => ?_) (fun j1 => ?_)
         · refine hK <| Tn <| hB <| hS ?_
           cases j1
         refine hE <| Te ?_
         obtain rfl := t3 _ (sI j1).symm
         refine Te <| qX <| Tn ⟨(),q1,wT⟩
       rintro _ d2
       replace d2 : layer_All_J15 j0 = some d1 := d2
       unfold layer_All_J15 at d2
       refine Gg [.a,.a] (u [6] [(4,vO [6,16])]) (aN) <| hR <| nR (vO [6,16]) ⟨(),d2,lT⟩
     rintro _ z1
     replace z1 : layer_All_J12 j0 = some d1 := z1
     unfold layer_All_J12 at z1
     refine Gw [] (u [] []) (aN) <| qN <| Tn <| Re (nA 3) (sl 21 [(5,vP [17,9] (0)),(6,vI (wrap64 (j0 + (1 : Int)))),(12,vI j0),(13,vI (wrap64 (j0 + (1 : Int))))] [rw_ [45,9] 4 1 eB n1,rw_ [51,9] 24 1 (eL (eI .i64)) o1,rw_ [1020,17,9] 111 17 encSTraits k0,rw_ [15,9] 4 1 eB m1,bx [17,9] [.sl ((a1).Players).length (((a1).Players).flatMap (encSPlayer)),.sl ((a1).Objects).length (((a1).Objects).flatMap (encSObject)),.sl ((a1).Battlefield).length (((a1).Battlefield).flatMap (eI .i64)),.sl ((a1).Exile).length (((a1).Exile).flatMap (eI .i64)),.sl ((a1).Stack).length (((a1).Stack).flatMap (encSItem)),.sl ((a1).Waiting).length (((a1).Waiting).flatMap (encSWaiting)),.sl ((a1).Conts).length (((a1).Conts).flatMap (encSCont)),.int .i64 ((a1).Turn),.int .i64 ((a1).Active),.int .i64 ((a1).Step),.bool ((a1).Begun),.int .i64 ((a1).Priority),.int .i64 ((a1).Passes),.int .i64 ((a1).NextId),.int .i64 ((a1).NextStamp),.int .u64 ((a1).Seed),.sl ((a1).Extra).length (((a1).Extra).flatMap (eI .i64)),.int .i64 ((a1).Over),.int .i64 ((a1).Winner),.sl i0.length (i0.flatMap (encSForce)),.osl [1020,17,9],.osl [15,9],.osl [45,9],.osl [51,9]]]) (aN) <| Tn ⟨(wrap64 (j0 + (1 : Int))),(sI z1).symm,wT⟩
   refine hE <| Te ?_
   obtain rfl := q3 _ (sI o0).symm
   refine Te <| qX <| Tn ⟨(),y1,wT⟩
 rintro _ n2
 replace n2 : layer_All_J7 k0 = some r := n2
 unfold layer_All_J7 at n2
 exact Gg (nA 5) (uo [5] [(4,vO [1020,17,9])] [.k 2]) (aC (show True ∧ True from ⟨trivial,trivial⟩) <| aN) <| hR <| bE (vO [1020,17,9]) (vL encSTraits k0) (congrArg (vL encSTraits) (sI n2))
end Go.PL
