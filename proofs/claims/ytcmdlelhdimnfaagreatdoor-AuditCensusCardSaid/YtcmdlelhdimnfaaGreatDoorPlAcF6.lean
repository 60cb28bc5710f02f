/- Functions of the program, as partial functions in Lean, with proofs. -/
import Derived.Test.YtcmdlelhdimnfaaGreatDoorPlAcB
import Derived.Test.YtcmdlelhdimnfaaGreatDoorPlAcF5
namespace Go.PL
open Go Go.RowKit Go.Proofs
set_option maxRecDepth 100000
set_option linter.all false
set_option maxHeartbeats 4000000
attribute [local irreducible] Holds thenQ blockQ
def audit_fights_J3  (l5_2 : List (Int)) : Option ((List (Int))) :=
 some l5_2
def audit_fights_J12 (vt16_6 : Int) (l5_11 : List (Int)) : Option ((Int × (List (Int))) ⊕ ((List (Int)))) :=
 some (.inl ((wrap64 (vt16_6 + (1 : Int))), l5_11))
def audit_fights_B9 (a1 : SState) (r1 : (List (STraits))) (vt16_6 : Int) (l5_7 : List (Int)) : Option ((Int × (List (Int))) ⊕ ((List (Int)))) :=
 (if (decide (vt16_6 < (a1.Objects.length : Int))) = true then
  (idx a1.Objects vt16_6).bind fun e13 =>
  (gd ((decide (vt16_6 < (r1.length : Int))) == true) (idx r1 vt16_6)).bind fun e14 =>
  (some (if (decide (vt16_6 < (r1.length : Int))) = true then (bAnd .i64 e14.Line.Types (1 : Int)) != (0 : Int) else false)).bind fun b15 =>
  (some (if (decide ((0 : Int) ≤ e13.Attack)) = true then true else e13.Blocks != (0 : Int))).bind fun b16 =>
  (some (if b16 = true then !b15 else false)).bind fun b17 =>
  (if b17 = true then
   (app 8 l5_7 ([e13.Id] : List (Int))).bind fun l19 =>
   audit_fights_J12 vt16_6 l19
  else
   audit_fights_J12 vt16_6 l5_7)
 else
  some (.inr l5_7))
/-- cardgame/audit.fights -/
def audit_fights (a0 : List (SCard)) (a1 : SState) : Option ((List (Int))) :=
 (layer_All a0 a1).bind fun r1 =>
 (iter (fun (v : Int × (List (Int))) => audit_fights_B9 a1 r1 v.1 v.2) FU ((0 : Int), ([] : List (Int)))).bind (fun o0 => audit_fights_J3 o0)
def audit_fights_C (a0 : List (SCard)) (a1 : SState) (r : (List (Int))) : Prop := PCall Tryz.prog I0 19 [vL encSCard a0, vA encSState a1] (· = vL (eI .i64) r)
theorem audit_fights_ok {a0 : List (SCard)} {a1 : SState} {r : (List (Int))} (h : audit_fights a0 a1 = some r) : audit_fights_C a0 a1 r := by
 refine PCall.bo I0_stable Tryz.func19 rfl Tryz.ntmps19 [.tmp 4] fun _ _ _ _ => ?_
 unfold audit_fights at h
 refine Gg [.a,.a] (uo [1] [(3,vP [3] (0))] [.e (bx [3] (encSState a1))]) (aN) <| Gg [.a] (uo [] [(5,vO [5])] [.e (rw_ [5] 3 1 (eI .i64) ([] : List (Int))),.k 0]) (aN) ?_
 obtain ⟨r1,x1,h⟩ := bS h
 refine Gg [.a,.a,(.c (vL encSTraits r1)),.a] (u [0] [(6,vL encSTraits r1)]) (aC (layer_All_ok x1) <| aN) <| Sj (X := (List (Int))) (fun v => (sl 54 [(5,vO [5])] [rw_ [5] 3 1 (eI .i64) v])) (fun v => audit_fights_J3 v = some r) ?_ ?_
 · refine Gg (nA 4) (uo [3] [(14,vL encSObject a1.Objects),(15,vI (a1.Objects.length : Int)),(16,vI (0 : Int))] [.k 0]) (aN) <| hB ?_
   obtain ⟨y1,q1,h⟩ := bS h
   refine Gi (fun (v : Int × (List (Int))) => (uo [] [(16,vI v.1)] [.e (rw_ [5] 3 1 (eI .i64) v.2)])) q1 (wT) ?_
   rintro ⟨i0,o0⟩ j1 j0 t1
   replace j0 : audit_fights_B9 a1 r1 i0 o0 = some j1 := j0
   unfold audit_fights_B9 at j0
   refine Gg [.a] (u [] [(17,vB (decide (i0 < (a1.Objects.length : Int))))]) (aN) <| hS <| iC j0 (fun j0 => ?_) (fun j0 => ?_)
   · refine hK <| Tn <| Gj (X := (List (Int))) (fun v => (uo [17] [] [.e (rw_ [5] 3 1 (eI .i64) v)])) (fun v => audit_fights_J12 i0 v = some j1) ?_ ?_
     · refine hB ?_
       obtain ⟨k0,y0,j0⟩ := bS j0
       refine Gg [.a,.a,(.v (vA encSObject k0)),.a,.a,.a] (uo [17] [(7,vI i0),(8,vP [8] (0))] [.e (bx [8] (encSObject k0)),.k 0]) (aC (idx_b y0) <| aC (eld y0 lenSObject 0 19 true (vA encSObject k0)) <| aC (Eq.refl (vA encSObject k0)) <| aN) ?_
       obtain ⟨x0,z0,k1,n1,j0⟩ := bS2 j0
       refine Rg [.a,.a,.a,.a,.a,.a,.a,.a,.a,.a,(.v (vI x0.Line.Types)),.a,.a,(.v (vB k1)),.a] (sl 54 [(5,vO [5]),(6,vL encSTraits r1),(8,vP [8] (0)),(9,vB k1),(14,vL encSObject a1.Objects),(15,vI (a1.Objects.length : Int)),(16,vI i0)] [bx [8] (encSObject k0),rw_ [5] 3 1 (eI .i64) o0]) (aC (fun hg : ((decide (i0 < (r1.length : Int))) == true) = true => aC (gi ((decide (i0 < (r1.length : Int))) == true)) <| aC (gi ((decide (i0 < (r1.length : Int))) == true)) <| aC (gidx_b z0 hg).1 <| aN) <| aG ((decide (i0 < (r1.length : Int))) == true) <| aG ((decide (i0 < (r1.length : Int))) == true) <| aC (fun hg : ((decide (i0 < (r1.length : Int))) == true) = true => aC (gi ((decide (i0 < (r1.length : Int))) == true)) <| aC (eld (gd_t z0 hg) lenSTraits 10 1 false (vI x0.Line.Types)) <| aC (Eq.refl (vI x0.Line.Types)) <| aN) <| aG ((decide (i0 < (r1.length : Int))) == true) <| aG ((decide (i0 < (r1.length : Int))) == true) <| aT (decide (i0 < (r1.length : Int))) <| aB n1 <| aN) ?_
       obtain ⟨t0,o1,m1,p1,j0⟩ := bS2 j0
       refine Gg [.a,.a,.a,.a,.a,.a,.a,(.v (vB t0)),.a,.a,.a,(.v (vB m1))] (u [9] [(46,vB m1)]) (aG ((decide ((0 : Int) ≤ k0.Attack)) == false) <| aG ((decide ((0 : Int) ≤ k0.Attack)) == false) <| aF (decide ((0 : Int) ≤ k0.Attack)) <| aB o1 <| aG (t0 == true) <| aT t0 <| aB p1 <| aN) <| iC j0 (fun j0 => ?_) (fun j0 => ?_)
       · obtain ⟨q0,d1,j0⟩ := bS j0
         refine Ge [.a,.a,.a,.a,(.e q0.length (q0.flatMap (eI .i64))),.a] (uo [] [(48,vP [8] (0)),(49,vI k0.Id),(50,vO [50]),(51,vO [5])] [.e (rw_ [5] 3 1 (eI .i64) q0),.e (rw_ [50] 3 1 (eI .i64) ([k0.Id] : List (Int))),.k 0]) (aC (ap1 d1 (eI .i64)) <| aC (app_b d1) <| aN) <| qN <| Tn ⟨q0,j0,wT⟩
       refine hK <| qN <| Tn ⟨o0,j0,wT⟩
     rintro n0 m0
     replace m0 : audit_fights_J12 i0 n0 = some j1 := m0
     unfold audit_fights_J12 at m0
     refine Re [.a,.a] (sl 54 [(5,vO [5]),(6,vL encSTraits r1),(14,vL encSObject a1.Objects),(15,vI (a1.Objects.length : Int)),(16,vI (wrap64 (i0 + (1 : Int)))),(52,vI (wrap64 (i0 + (1 : Int))))] [rw_ [5] 3 1 (eI .i64) n0]) (aN) <| Tn ⟨((wrap64 (i0 + (1 : Int))),n0),(sI m0).symm,wT⟩
   refine hE <| Te ?_
   obtain rfl := t1 _ (sI j0).symm
   refine Te <| qX <| Tn ⟨o0,h,wT⟩
 rintro i1 p0
 replace p0 : audit_fights_J3 i1 = some r := p0
 unfold audit_fights_J3 at p0
 exact Gg [.a,.a] (u [5] [(4,vO [5])]) (aN) <| hR <| bE (vO [5]) (vL (eI .i64) i1) (congrArg (vL (eI .i64)) (sI p0))
end Go.PL
