/- Functions of the program, as partial functions in Lean, with proofs. -/
import Derived.Test.YtcmdlelhdimnfaaGreatDoorPlAcB
import Derived.Test.YtcmdlelhdimnfaaGreatDoorPlAcF0
import Derived.Test.YtcmdlelhdimnfaaGreatDoorPlAcF1
import Derived.Test.YtcmdlelhdimnfaaGreatDoorPlAcF4
import Derived.Test.YtcmdlelhdimnfaaGreatDoorPlAcF5
import Derived.Test.YtcmdlelhdimnfaaGreatDoorPlAcF6
namespace Go.PL
open Go Go.RowKit Go.Proofs
set_option maxRecDepth 100000
set_option linter.all false
set_option maxHeartbeats 4000000
attribute [local irreducible] Holds thenQ blockQ
def audit_Look_J14  (l1000_15_13 : List (SFlaw)) : Option ((List (SFlaw))) :=
 some l1000_15_13
def audit_Look_J12 (a1 : SState) (a2 : SState) (l1000_15_11 : List (SFlaw)) : Option ((List (SFlaw))) :=
 (gd ((a1.Over != (0 : Int)) == true) (state_Same a1 a2)).bind fun r15 =>
 (some (if (a1.Over != (0 : Int)) = true then !r15 else false)).bind fun b16 =>
 (if b16 = true then
  (app 16 l1000_15_11 ([(⟨(6 : Int), (0 : Int)⟩ : SFlaw)] : List (SFlaw))).bind fun l18 =>
  audit_Look_J14 l18
 else
  audit_Look_J14 l1000_15_11)
def audit_Look_J10 (a1 : SState) (a2 : SState) (l1000_15_9 : List (SFlaw)) : Option ((List (SFlaw))) :=
 (if (decide (a2.Turn < a1.Turn)) = true then
  (app 16 l1000_15_9 ([(⟨(5 : Int), (0 : Int)⟩ : SFlaw)] : List (SFlaw))).bind fun l20 =>
  audit_Look_J12 a1 a2 l20
 else
  audit_Look_J12 a1 a2 l1000_15_9)
def audit_Look_J29 (vt72_23 : Int) (l1000_15_28 : List (SFlaw)) : Option ((Int × (List (SFlaw))) ⊕ ((List (SFlaw)))) :=
 some (.inl ((wrap64 (vt72_23 + (1 : Int))), l1000_15_28))
def audit_Look_J32 (vt72_23 : Int) (l1000_15_24 : List (SFlaw)) (r30 : Bool) (q31 : Bool) : Option ((Int × (List (SFlaw))) ⊕ ((List (SFlaw)))) :=
 (some (if (!r30) = true then q31 else false)).bind fun b33 =>
 (if b33 = true then
  (app 16 l1000_15_24 ([(⟨(4 : Int), vt72_23⟩ : SFlaw)] : List (SFlaw))).bind fun l35 =>
  audit_Look_J29 vt72_23 l35
 else
  audit_Look_J29 vt72_23 l1000_15_24)
def audit_Look_J37 (vt72_23 : Int) (l1000_15_24 : List (SFlaw)) (r30 : Bool) (r_t7_36 : Int) : Option ((Int × (List (SFlaw))) ⊕ ((List (SFlaw)))) :=
 audit_Look_J32 vt72_23 l1000_15_24 r30 (decide ((0 : Int) ≤ r_t7_36))
def audit_Look_J38 (vt72_23 : Int) (l1000_15_24 : List (SFlaw)) (r30 : Bool) : Option ((Int × (List (SFlaw))) ⊕ ((List (SFlaw)))) :=
 audit_Look_J37 vt72_23 l1000_15_24 r30 (-1 : Int)
def audit_Look_B42 (a2 : SState) (vt72_23 : Int) (note_t8_40 : Int) : Option ((Int) ⊕ (Unit ⊕ Int)) :=
 (if (decide (note_t8_40 < (a2.Stack.length : Int))) = true then
  (idx a2.Stack note_t8_40).bind fun e44 =>
  (if (e44.Control == vt72_23) = true then
   some (.inr (.inr note_t8_40))
  else
   some (.inl (wrap64 (note_t8_40 + (1 : Int)))))
 else
  some (.inr (.inl ())))
def audit_Look_B26 (a2 : SState) (vt72_23 : Int) (l1000_15_24 : List (SFlaw)) : Option ((Int × (List (SFlaw))) ⊕ ((List (SFlaw)))) :=
 (if (decide (vt72_23 < (a2.Players.length : Int))) = true then
  (audit_living a2 vt72_23).bind fun r30 =>
  (if ((!r30) == true) = true then
   (iter (fun (v : Int) => audit_Look_B42 a2 vt72_23 v) FU (0 : Int)).bind (Sum.elim (fun o0 => audit_Look_J38 vt72_23 l1000_15_24 r30) (fun o1 => audit_Look_J37 vt72_23 l1000_15_24 r30 o1))
  else
   audit_Look_J32 vt72_23 l1000_15_24 r30 false)
 else
  some (.inr l1000_15_24))
def audit_Look_J8 (a1 : SState) (a2 : SState) (l1000_15_7 : List (SFlaw)) : Option ((List (SFlaw))) :=
 (iter (fun (v : Int × (List (SFlaw))) => audit_Look_B26 a2 v.1 v.2) FU ((0 : Int), l1000_15_7)).bind (fun o0 => audit_Look_J10 a1 a2 o0)
def audit_Look_J55 (vt58_49 : Int) (l1000_15_54 : List (SFlaw)) : Option ((Int × (List (SFlaw))) ⊕ ((List (SFlaw)))) :=
 some (.inl ((wrap64 (vt58_49 + (1 : Int))), l1000_15_54))
def audit_Look_B52 (r6 : (List (Int))) (r46 : (List (Int))) (vt58_49 : Int) (l1000_15_50 : List (SFlaw)) : Option ((Int × (List (SFlaw))) ⊕ ((List (SFlaw)))) :=
 (if (decide (vt58_49 < (r46.length : Int))) = true then
  (idx r46 vt58_49).bind fun e56 =>
  (slices_Contains_int_int r6 e56).bind fun r57 =>
  (if r57 = true then
   (app 16 l1000_15_50 ([(⟨(3 : Int), e56⟩ : SFlaw)] : List (SFlaw))).bind fun l59 =>
   audit_Look_J55 vt58_49 l59
  else
   audit_Look_J55 vt58_49 l1000_15_50)
 else
  some (.inr l1000_15_50))
def audit_Look_J5 (a0 : List (SCard)) (a1 : SState) (a2 : SState) (l1000_15_4 : List (SFlaw)) : Option ((List (SFlaw))) :=
 (audit_fights a0 a1).bind fun r6 =>
 (audit_fights a0 a2).bind fun r46 =>
 (iter (fun (v : Int × (List (SFlaw))) => audit_Look_B52 r6 r46 v.1 v.2) FU ((0 : Int), l1000_15_4)).bind (fun o0 => audit_Look_J8 a1 a2 o0)
def audit_Look_J68 (vt31_62 : Int) (l1000_15_67 : List (SFlaw)) : Option ((Int × (List (SFlaw))) ⊕ ((List (SFlaw)))) :=
 some (.inl ((wrap64 (vt31_62 + (1 : Int))), l1000_15_67))
def audit_Look_B65 (a1 : SState) (a2 : SState) (vt31_62 : Int) (l1000_15_63 : List (SFlaw)) : Option ((Int × (List (SFlaw))) ⊕ ((List (SFlaw)))) :=
 (if (decide (vt31_62 < (a2.Players.length : Int))) = true then
  (audit_living a2 vt31_62).bind fun r69 =>
  (gd (r69 == true) (audit_Census a1 vt31_62)).bind fun r70 =>
  (gd (r69 == true) (audit_Census a2 vt31_62)).bind fun r71 =>
  (gd (r69 == true) (slices_Equal_int_int r70 r71)).bind fun r72 =>
  (some (if r69 = true then !r72 else false)).bind fun b73 =>
  (if b73 = true then
   (app 16 l1000_15_63 ([(⟨(2 : Int), vt31_62⟩ : SFlaw)] : List (SFlaw))).bind fun l75 =>
   audit_Look_J68 vt31_62 l75
  else
   audit_Look_J68 vt31_62 l1000_15_63)
 else
  some (.inr l1000_15_63))
/-- cardgame/audit.Look -/
def audit_Look (a0 : List (SCard)) (a1 : SState) (a2 : SState) : Option ((List (SFlaw))) :=
 (state_Is a0 a2).bind fun r1 =>
 (if (!r1) = true then
  (app 16 ([] : List (SFlaw)) ([(⟨(1 : Int), (0 : Int)⟩ : SFlaw)] : List (SFlaw))).bind fun l3 =>
  some l3
 else
  (iter (fun (v : Int × (List (SFlaw))) => audit_Look_B65 a1 a2 v.1 v.2) FU ((0 : Int), ([] : List (SFlaw)))).bind (fun o0 => audit_Look_J5 a0 a1 a2 o0))
def audit_Look_C (a0 : List (SCard)) (a1 : SState) (a2 : SState) (r : (List (SFlaw))) : Prop := PCall Tryz.prog I0 11 [vL encSCard a0, vA encSState a1, vA encSState a2] (· = vL encSFlaw r)
theorem audit_Look_ok {a0 : List (SCard)} {a1 : SState} {a2 : SState} {r : (List (SFlaw))} (h : audit_Look a0 a1 a2 = some r) : audit_Look_C a0 a1 a2 r := by
 refine PCall.bo I0_stable Tryz.func11 rfl Tryz.ntmps11 [.tmp 6] fun _ _ _ _ => ?_
 unfold audit_Look at h
 refine Gg (nA 3) (uo [1,2] [(4,vP [4] (0)),(5,vP [5] (0))] [.e (bx [5] (encSState a2)),.e (bx [4] (encSState a1))]) (aN) <| Gg (nA 3) (uo [] [(7,vP [15] (0))] [.e (bx [15] [.nils]),.k 0,.k 1]) (aC (And.intro trivial okp88) <| aN) <| Ow [15] 0 [1000,15] 57 2 (sl 111 [(0,vL encSCard a0),(4,vP [4] (0)),(5,vP [5] (0)),(7,vP [15] (0))] [rw_ [1000,15] 57 2 encSFlaw ([] : List (SFlaw)),bx [15] [.osl [1000,15]],bx [5] (encSState a2),bx [4] (encSState a1)]) <| Gg (nA 3) (u [] [(8,.c (.bmv 15 [.ptr [15] (0)]))]) (aC (show True ∧ True from ⟨trivial,trivial⟩) <| aN) <| hS ?_
 obtain ⟨r1,m6,h⟩ := bS h
 refine Gg [.a,.a,(.c (vB r1)),.a] (u [] [(21,vB (!r1))]) (aC (state_Is_ok m6) <| aN) <| iC h (fun h => ?_) (fun h => ?_)
 · refine hS <| hO <| Gp 1 [.a] (u [] [(22,.c (.bmv 15 [.ptr [15] (0)]))]) (aN) <| rI rfl rfl <| EiB 23 [vI (1 : Int),vI (0 : Int)] [.ptr [15] (0)] Tryz.func15 Tryz.ntmps15 [] rfl rfl rfl rfl fun _ _ _ _ => ?_
   obtain ⟨l3,m5,h⟩ := bS h
   exact Re [.a,.a,.a,.a,.a,.a,.a,.a,.a,(.e l3.length (l3.flatMap (encSFlaw))),.a,.a,.a] (sg 18 [(0,vP [15] (0)),(1,vI (1 : Int)),(2,vI (0 : Int)),(6,vP [15] (0)),(7,vP [15] (0)),(8,vP [15] (0)),(9,vP [15] (0)),(11,vI (1 : Int)),(12,vI (0 : Int)),(13,.agg [.int .i64 (1 : Int),.int .i64 (0 : Int)]),(14,vO [14,23]),(15,vO [1000,15]),(16,vP [15] (0)),(17,vP [15] (0))] [rw_ [1000,15] 57 2 encSFlaw l3,rw_ [14,23] 57 2 encSFlaw ([(⟨(1 : Int),(0 : Int)⟩ : SFlaw)] : List (SFlaw)),bx [15] [.osl [1000,15]],bx [5] (encSState a2),bx [4] (encSState a1)] 111 [(0,vL encSCard a0),(4,vP [4] (0)),(5,vP [5] (0)),(7,vP [15] (0)),(8,.c (.bmv 15 [.ptr [15] (0)])),(21,vB (!r1)),(22,.c (.bmv 15 [.ptr [15] (0)]))] [23]) (aC (show True ∧ True from ⟨trivial,trivial⟩) <| aC (And.intro (show True ∧ (True ∧ True) from ⟨trivial,⟨trivial,trivial⟩⟩) okp57) <| aC (ap1 m5 encSFlaw) <| aC (app_b m5) <| aC (show True ∧ True from ⟨trivial,trivial⟩) <| aN) <| nN (.tup []) <| Rw [] (sl 111 [(0,vL encSCard a0),(4,vP [4] (0)),(5,vP [5] (0)),(7,vP [15] (0)),(8,.c (.bmv 15 [.ptr [15] (0)])),(21,vB (!r1)),(22,.c (.bmv 15 [.ptr [15] (0)])),(23,.tup [])] [rw_ [1000,15] 57 2 encSFlaw l3,rw_ [14,23] 57 2 encSFlaw ([(⟨(1 : Int),(0 : Int)⟩ : SFlaw)] : List (SFlaw)),bx [15] [.osl [1000,15]],bx [5] (encSState a2),bx [4] (encSState a1)]) (aN) <| Tn <| Rg (nA 5) (sl 111 [(6,vO [1000,15])] [rw_ [1000,15] 57 2 encSFlaw l3]) (aC (show True ∧ True from ⟨trivial,trivial⟩) <| aN) <| hR <| Tr <| bE (vO [1000,15]) (vL encSFlaw l3) (congrArg (vL encSFlaw) (sI h))
 refine hK <| Tn <| Gj (X := (List (SFlaw))) (fun v => (uo [21] [] [.e (rw_ [1000,15] 57 2 encSFlaw v),.k 1,.k 2,.k 3])) (fun v => audit_Look_J5 a0 a1 a2 v = some r) ?_ ?_
 · refine Gg (nA 4) (u [21] [(30,vI (a2.Players.length : Int)),(31,vI (0 : Int))]) (aN) <| hB ?_
   obtain ⟨x6,z4,h⟩ := bS h
   refine Gi (fun (v : Int × (List (SFlaw))) => (uo [] [(31,vI v.1)] [.e (rw_ [1000,15] 57 2 encSFlaw v.2),.k 1,.k 2,.k 3])) z4 (wT) ?_
   rintro ⟨j0,y0⟩ m3 q0 j5
   replace q0 : audit_Look_B65 a1 a2 j0 y0 = some m3 := q0
   unfold audit_Look_B65 at q0
   refine Gg [.a] (u [] [(32,vB (decide (j0 < (a2.Players.length : Int))))]) (aN) <| hS <| iC q0 (fun q0 => ?_) (fun q0 => ?_)
   · refine hK <| Tn <| Sj (X := (List (SFlaw))) (fun v => (sl 111 [(0,vL encSCard a0),(4,vP [4] (0)),(5,vP [5] (0)),(7,vP [15] (0)),(8,.c (.bmv 15 [.ptr [15] (0)])),(30,vI (a2.Players.length : Int)),(31,vI j0)] [rw_ [1000,15] 57 2 encSFlaw v,bx [15] [.osl [1000,15]],bx [5] (encSState a2),bx [4] (encSState a1)])) (fun v => audit_Look_J68 j0 v = some m3) ?_ ?_
     · refine hB <| Rg [.a,.a] (sl 111 [(0,vL encSCard a0),(4,vP [4] (0)),(5,vP [5] (0)),(7,vP [15] (0)),(8,.c (.bmv 15 [.ptr [15] (0)])),(9,vI j0),(30,vI (a2.Players.length : Int)),(31,vI j0)] [rw_ [1000,15] 57 2 encSFlaw y0,bx [15] [.osl [1000,15]],bx [5] (encSState a2),bx [4] (encSState a1)]) (aN) <| hS ?_
       obtain ⟨o0,z5,x3,d6,y3,i6,j3,j6,q0⟩ := bS4 q0
       obtain ⟨z3,p5,q0⟩ := bS q0
       refine Holds.regN [0,1,2,3,7,15,31,47,143,271,287,303,399,415,431,447,511,1023,2047,4095,8191,319,383,159,175,191,255,63,127] 8191 [.a,.a,(.c (vB o0)),.a,.a,.a,(.c (vL (eI .i64) x3)),.a,.a,(.c (vL (eI .i64) y3)),(.c (vB j3)),.a,(.v (vB z3))] [[1000,15],[15],[5],[4]] (fun n => ⟨[vL encSCard a0,.undef,.undef,.undef,vP [4] (0),vP [5] (0),.undef,vP [15] (0),.c (.bmv 15 [.ptr [15] (0)]),vI j0,.undef,.undef,.undef,.undef,.undef,.undef,.undef,.undef,.undef,.undef,.undef,.undef,.undef,.undef,.undef,.undef,.undef,.undef,.undef,.undef,vI (a2.Players.length : Int),vI j0,.undef,.undef,cond (Nat.testBit n 0) (vA encSState a2) (.undef),cond (Nat.testBit n 1) (vI j0) (.undef),cond (Nat.testBit n 2) (vB o0) (.undef),cond (Nat.testBit n 3) (vB o0) (.undef),cond (Nat.testBit n 4) (.g (o0 == true) (vA encSState a1)) (.undef),cond (Nat.testBit n 5) (.g (o0 == true) (vI j0)) (.undef),cond (Nat.testBit n 6) (.g (o0 == true) (vL (eI .i64) x3)) (.undef),cond (Nat.testBit n 7) (.g (o0 == true) (vA encSState a2)) (.undef),cond (Nat.testBit n 8) (.g (o0 == true) (vI j0)) (.undef),cond (Nat.testBit n 9) (.g (o0 == true) (vL (eI .i64) y3)) (.undef),cond (Nat.testBit n 10) (.g (o0 == true) (vB j3)) (.undef),cond (Nat.testBit n 11) (.g (o0 == true) (vB (!j3))) (.undef),cond (Nat.testBit n 12) (vB z3) (.undef),.undef,.undef,.undef,.undef,.undef,.undef,.undef,.undef,.undef,.undef,.undef,.undef,.undef,.undef,.undef,.undef,.undef,.undef,.undef,.undef,.undef,.undef,.undef,.undef,.undef,.undef,.undef,.undef,.undef,.undef,.undef,.undef,.undef,.undef,.undef,.undef,.undef,.undef,.undef,.undef,.undef,.undef,.undef,.undef,.undef,.undef,.undef,.undef,.undef,.undef,.undef,.undef,.undef,.undef,.undef,.undef,.undef,.undef,.undef,.undef,.undef,.undef,.undef,.undef],List.filterMap id [some (rw_ [1000,15] 57 2 encSFlaw y0),some (bx [15] [.osl [1000,15]]),some (bx [5] (encSState a2)),some (bx [4] (encSState a1))],[],[]⟩) [[],[],[audit_living_C a2 j0 o0],[],[],[],[(o0 == true) = true → andL [(o0 == true) = true → (o0 == true) = true,(o0 == true) = true → (o0 == true) = true] ∧ audit_Census_C a1 j0 x3],[],[],[(o0 == true) = true → andL [(o0 == true) = true → (o0 == true) = true,(o0 == true) = true → (o0 == true) = true] ∧ audit_Census_C a2 j0 y3],[(o0 == true) = true → andL [(o0 == true) = true → (o0 == true) = true,(o0 == true) = true → (o0 == true) = true] ∧ slices_Equal_int_int_C x3 y3 j3],[(o0 == true) = true → andL [(o0 == true) = true → (o0 == true) = true]],[o0 = true → (o0 == true) = true,(vB (if o0 = true then !j3 else false) : V) = vB z3]] followsP (by kernel_rfl) (by kernel_rfl) (by decide) (Less.t (by kernel_rfl)) (by kernel_rfl) ⟨trivial,trivial,⟨(audit_living_ok z5),trivial⟩,trivial,trivial,trivial,⟨(fun hg => ⟨⟨id,id,trivial⟩,audit_Census_ok (gd_t d6 hg)⟩),trivial⟩,trivial,trivial,⟨(fun hg => ⟨⟨id,id,trivial⟩,audit_Census_ok (gd_t i6 hg)⟩),trivial⟩,⟨(fun hg => ⟨⟨id,id,trivial⟩,slices_Equal_int_int_ok (gd_t j6 hg)⟩),trivial⟩,⟨(fun hg => ⟨id,trivial⟩),trivial⟩,⟨(fun q => (gT q)),(congrArg vB (sI p5)),trivial⟩,trivial⟩ <| Tn <| Gs (u [34,35,36,37,38,39,40,41,42,43,44,45] []) <| iC q0 (fun q0 => ?_) (fun q0 => ?_)
       · refine hO <| Gp 2 [.a,.a] (u [] [(47,.c (.bmv 15 [.ptr [15] (0)])),(48,vI j0)]) (aN) <| rI rfl rfl <| EiB 49 [vI (2 : Int),vI j0] [.ptr [15] (0)] Tryz.func15 Tryz.ntmps15 [] rfl rfl rfl rfl fun _ _ _ _ => ?_
         obtain ⟨t3,o4,q0⟩ := bS q0
         refine Ge [.a,.a,.a,.a,.a,.a,.a,.a,.a,(.e t3.length (t3.flatMap (encSFlaw))),.a,.a,.a] (uo [] [(6,vP [15] (0)),(7,vP [15] (0)),(8,vP [15] (0)),(9,vP [15] (0)),(11,vI (2 : Int)),(12,vI j0),(13,.agg [.int .i64 (2 : Int),.int .i64 j0]),(14,vO [14,49]),(15,vO [1000,15]),(16,vP [15] (0)),(17,vP [15] (0))] [.e (rw_ [1000,15] 57 2 encSFlaw t3),.e (rw_ [14,49] 57 2 encSFlaw ([(⟨(2 : Int),j0⟩ : SFlaw)] : List (SFlaw))),.k 1,.k 2,.k 3]) (aC (show True ∧ True from ⟨trivial,trivial⟩) <| aC (And.intro (show True ∧ (True ∧ True) from ⟨trivial,⟨trivial,trivial⟩⟩) okp57) <| aC (ap1 o4 encSFlaw) <| aC (app_b o4) <| aC (show True ∧ True from ⟨trivial,trivial⟩) <| aN) <| nN (.tup []) <| Gw [] (u [] []) (aN) <| qN <| Tn ⟨t3,q0,wT⟩
       refine hK <| qN <| Tn ⟨y0,q0,wT⟩
     rintro z1 y2
     replace y2 : audit_Look_J68 j0 z1 = some m3 := y2
     unfold audit_Look_J68 at y2
     refine Ge [.a,.a] (u [] [(31,vI (wrap64 (j0 + (1 : Int)))),(50,vI (wrap64 (j0 + (1 : Int))))]) (aN) <| Tn ⟨((wrap64 (j0 + (1 : Int))),z1),(sI y2).symm,wT⟩
   refine hE <| Te ?_
   obtain rfl := j5 _ (sI q0).symm
   refine Te <| qX <| Tn ⟨y0,h,wT⟩
 rintro z2 p1
 replace p1 : audit_Look_J5 a0 a1 a2 z2 = some r := p1
 unfold audit_Look_J5 at p1
 obtain ⟨r6,n6,p1⟩ := bS p1
 refine Gg [.a,.a,(.c (vL (eI .i64) r6)),.a] (u [] [(10,vL (eI .i64) r6)]) (aC (audit_fights_ok n6) <| aN) <| Gj (X := (List (SFlaw))) (fun v => (uo [0,10] [] [.e (rw_ [1000,15] 57 2 encSFlaw v),.k 1,.k 2,.k 3])) (fun v => audit_Look_J8 a1 a2 v = some r) ?_ ?_
 · obtain ⟨k2,x5,p1⟩ := bS p1
   refine Gg [.a,.a,(.c (vL (eI .i64) k2)),.a,.a] (u [0] [(56,vL (eI .i64) k2),(57,vI (k2.length : Int)),(58,vI (0 : Int))]) (aC (audit_fights_ok x5) <| aN) <| hB ?_
   obtain ⟨t6,y4,p1⟩ := bS p1
   refine It (fun (v : Int × (List (SFlaw))) => (sl 111 [(4,vP [4] (0)),(5,vP [5] (0)),(7,vP [15] (0)),(8,.c (.bmv 15 [.ptr [15] (0)])),(10,vL (eI .i64) r6),(56,vL (eI .i64) k2),(57,vI (k2.length : Int)),(58,vI v.1)] [rw_ [1000,15] 57 2 encSFlaw v.2,bx [15] [.osl [1000,15]],bx [5] (encSState a2),bx [4] (encSState a1)])) y4 (wT) ?_
   rintro ⟨z0,k1⟩ k3 p0 i5
   replace p0 : audit_Look_B52 r6 k2 z0 k1 = some k3 := p0
   unfold audit_Look_B52 at p0
   refine Gg [.a] (u [] [(59,vB (decide (z0 < (k2.length : Int))))]) (aN) <| hS <| iC p0 (fun p0 => ?_) (fun p0 => ?_)
   · refine hK <| Tn <| Gj (X := (List (SFlaw))) (fun v => (uo [59] [] [.e (rw_ [1000,15] 57 2 encSFlaw v),.k 1,.k 2,.k 3])) (fun v => audit_Look_J55 z0 v = some k3) ?_ ?_
     · refine hB ?_
       obtain ⟨o1,i4,p0⟩ := bS p0
       refine Gg [.a,(.v (vI o1)),.a] (u [59] [(12,vI o1)]) (aC (idx_b i4) <| aC (eld i4 (lenI .i64) 0 1 false (vI o1)) <| aC (Eq.refl (vI o1)) <| aN) ?_
       obtain ⟨q4,y5,p0⟩ := bS p0
       refine Gg [.a,.a,(.c (vB q4))] (u [] [(64,vB q4)]) (aC (slices_Contains_int_int_ok y5) <| aN) <| iC p0 (fun p0 => ?_) (fun p0 => ?_)
       · refine hO <| Gp 2 [.a,.a] (u [] [(65,.c (.bmv 15 [.ptr [15] (0)])),(66,vI o1)]) (aN) <| rI rfl rfl <| EiB 67 [vI (3 : Int),vI o1] [.ptr [15] (0)] Tryz.func15 Tryz.ntmps15 [] rfl rfl rfl rfl fun _ _ _ _ => ?_
         obtain ⟨i3,n4,p0⟩ := bS p0
         refine Ge [.a,.a,.a,.a,.a,.a,.a,.a,.a,(.e i3.length (i3.flatMap (encSFlaw))),.a,.a,.a] (uo [] [(6,vP [15] (0)),(7,vP [15] (0)),(8,vP [15] (0)),(9,vP [15] (0)),(11,vI (3 : Int)),(12,vI o1),(13,.agg [.int .i64 (3 : Int),.int .i64 o1]),(14,vO [14,67]),(15,vO [1000,15]),(16,vP [15] (0)),(17,vP [15] (0))] [.e (rw_ [1000,15] 57 2 encSFlaw i3),.e (rw_ [14,67] 57 2 encSFlaw ([(⟨(3 : Int),o1⟩ : SFlaw)] : List (SFlaw))),.k 1,.k 2,.k 3]) (aC (show True ∧ True from ⟨trivial,trivial⟩) <| aC (And.intro (show True ∧ (True ∧ True) from ⟨trivial,⟨trivial,trivial⟩⟩) okp57) <| aC (ap1 n4 encSFlaw) <| aC (app_b n4) <| aC (show True ∧ True from ⟨trivial,trivial⟩) <| aN) <| nN (.tup []) <| Rw [] (sl 111 [(4,vP [4] (0)),(5,vP [5] (0)),(7,vP [15] (0)),(8,.c (.bmv 15 [.ptr [15] (0)])),(10,vL (eI .i64) r6),(12,vI o1),(56,vL (eI .i64) k2),(57,vI (k2.length : Int)),(58,vI z0),(64,vB q4),(65,.c (.bmv 15 [.ptr [15] (0)])),(66,vI o1),(67,.tup [])] [rw_ [1000,15] 57 2 encSFlaw i3,rw_ [14,67] 57 2 encSFlaw ([(⟨(3 : Int),o1⟩ : SFlaw)] : List (SFlaw)),bx [15] [.osl [1000,15]],bx [5] (encSState a2),bx [4] (encSState a1)]) (aN) <| qN <| Tn ⟨i3,p0,wT⟩
       refine hK <| qN <| Tn ⟨k1,p0,wT⟩
     rintro y1 x2
     replace x2 : audit_Look_J55 z0 y1 = some k3 := x2
     unfold audit_Look_J55 at x2
     refine Ge [.a,.a] (u [] [(58,vI (wrap64 (z0 + (1 : Int)))),(68,vI (wrap64 (z0 + (1 : Int))))]) (aN) <| Tn ⟨((wrap64 (z0 + (1 : Int))),y1),(sI x2).symm,wT⟩
   refine hE <| Te ?_
   obtain rfl := i5 _ (sI p0).symm
   refine Te <| qX <| Tn ⟨k1,p1,wT⟩
 rintro i2 n2
 replace n2 : audit_Look_J8 a1 a2 i2 = some r := n2
 unfold audit_Look_J8 at n2
 refine Sj (X := (List (SFlaw))) (fun v => (sl 111 [(4,vP [4] (0)),(5,vP [5] (0)),(7,vP [15] (0)),(8,.c (.bmv 15 [.ptr [15] (0)]))] [rw_ [1000,15] 57 2 encSFlaw v,bx [15] [.osl [1000,15]],bx [5] (encSState a2),bx [4] (encSState a1)])) (fun v => audit_Look_J10 a1 a2 v = some r) ?_ ?_
 · refine Rg (nA 4) (sl 111 [(4,vP [4] (0)),(5,vP [5] (0)),(7,vP [15] (0)),(8,.c (.bmv 15 [.ptr [15] (0)])),(71,vI (a2.Players.length : Int)),(72,vI (0 : Int))] [rw_ [1000,15] 57 2 encSFlaw i2,bx [15] [.osl [1000,15]],bx [5] (encSState a2),bx [4] (encSState a1)]) (aN) <| hB ?_
   obtain ⟨p6,t4,n2⟩ := bS n2
   refine Gi (fun (v : Int × (List (SFlaw))) => (uo [] [(72,vI v.1)] [.e (rw_ [1000,15] 57 2 encSFlaw v.2),.k 1,.k 2,.k 3])) t4 (wT) ?_
   rintro ⟨i0,m0⟩ n1 n0 d5
   replace n0 : audit_Look_B26 a2 i0 m0 = some n1 := n0
   unfold audit_Look_B26 at n0
   refine Gg [.a] (u [] [(73,vB (decide (i0 < (a2.Players.length : Int))))]) (aN) <| hS <| iC n0 (fun n0 => ?_) (fun n0 => ?_)
   · refine hK <| Tn <| Gj (X := (List (SFlaw))) (fun v => (uo [73] [] [.e (rw_ [1000,15] 57 2 encSFlaw v),.k 1,.k 2,.k 3])) (fun v => audit_Look_J29 i0 v = some n1) ?_ ?_
     · refine hB <| Gg (nA 3) (uo [73] [(13,vP [13] (0))] [.e (bx [13] [.int .i64 i0]),.k 0,.k 1,.k 2,.k 3]) (aN) <| hS <| hO ?_
       obtain ⟨t0,t5,n0⟩ := bS n0
       refine Gp 8 [.a,.a,(.c (vB t0)),.a,.a,.a,.a,.a] (u [] [(75,vA encSState a2),(76,vI i0),(77,vB t0),(78,vB (!t0)),(79,vB (!t0)),(80,.g ((!t0) == true) (vP [5] (4))),(81,.g ((!t0) == true) (vL encSItem a2.Stack)),(82,.g ((!t0) == true) (.c (.clo 22 [.ptr [13] (0)])))]) (aC (audit_living_ok t5) <| aG ((!t0) == true) <| aC (fun hg : ((!t0) == true) = true => aC (show True ∧ True from ⟨trivial,trivial⟩) <| aN) <| aN) <| Ng (X := Bool) (g := ((!t0) == true)) (fun v => (u [75,76,77,78,80,81,82] [(83,.g ((!t0) == true) (vB v))])) (fun v => audit_Look_J32 i0 m0 t0 v = some n1) 83 rfl rfl rfl (fun d2 => ?_) (fun d2 => ?_) ?_
       · replace n0 := iT n0 d2
         refine Esc.ung (x := vL encSItem a2.Stack) 81 d2 <| Esc.ung (x := .c (.clo 22 [.ptr [13] (0)])) 82 d2 <| Ei 83 [vL encSItem a2.Stack,.c (.clo 22 [.ptr [13] (0)])] [] Tryz.func21 Tryz.ntmps21 [.tmp 4] rfl rfl rfl rfl fun _ _ _ _ => Gg [.a] (u [] []) (aN) <| hS <| hO <| Rp 2 [.a,.a] (sg 9 [(0,vL encSItem a2.Stack),(1,.c (.clo 22 [.ptr [13] (0)])),(5,vL encSItem a2.Stack),(6,.c (.clo 22 [.ptr [13] (0)]))] [bx [13] [.int .i64 i0],rw_ [1000,15] 57 2 encSFlaw m0,bx [15] [.osl [1000,15]],bx [5] (encSState a2),bx [4] (encSState a1)] 111 [(4,vP [4] (0)),(5,vP [5] (0)),(7,vP [15] (0)),(8,.c (.bmv 15 [.ptr [15] (0)])),(13,vP [13] (0)),(71,vI (a2.Players.length : Int)),(72,vI i0),(75,vA encSState a2),(76,vI i0),(77,vB t0),(78,vB (!t0)),(79,vB (!t0)),(80,.g ((!t0) == true) (vP [5] (4))),(81,vL encSItem a2.Stack),(82,.c (.clo 22 [.ptr [13] (0)]))] [83]) (aN) <| Nj (X := Int) (fun v => (u [0,1,5,6] [(7,vI v)])) (fun v => audit_Look_J37 i0 m0 t0 v = some n1) rfl rfl ?_ ?_
         · refine Ei 7 [vL encSItem a2.Stack,.c (.clo 22 [.ptr [13] (0)])] [] Tryz.func34 Tryz.ntmps34 [.tmp 4] rfl rfl rfl rfl fun _ _ _ _ => Gg [.a] (u [] []) (aN) <| Gj (X := Unit) (fun v => (u [0,1] [])) (fun v => audit_Look_J38 i0 m0 t0 = some n1) ?_ ?_
           · refine Gg (nA 3) (u [] [(7,vI (a2.Stack.length : Int)),(8,vI (0 : Int))]) (aN) <| hB ?_
             obtain ⟨q6,x4,n0⟩ := bS n0
             refine Gi (fun (v : Int) => (u [] [(8,vI v)])) x4 (wT) ?_
             rintro k0 k6 x0 o3
             replace x0 : audit_Look_B42 a2 i0 k0 = some k6 := x0
             unfold audit_Look_B42 at x0
             refine Gg [.a] (u [] [(9,vB (decide (k0 < (a2.Stack.length : Int))))]) (aN) <| hS <| iC x0 (fun x0 => ?_) (fun x0 => ?_)
             · refine hK <| Tn <| hS <| hB <| Gg [.a,.a] (u [9] [(5,vI k0)]) (aN) <| hS <| hO ?_
               obtain ⟨m2,d4,x0⟩ := bS x0
               refine Rp 5 [.a,.a,.a,.a,(.v (vA encSItem m2))] (sg 19 [(0,vL encSItem a2.Stack),(1,.c (.clo 22 [.ptr [13] (0)])),(5,vI k0),(7,vI (a2.Stack.length : Int)),(8,vI k0),(11,.c (.clo 22 [.ptr [13] (0)])),(12,vL encSItem a2.Stack),(13,vI k0),(14,vX encSItem a2.Stack ((k0).toNat * 94)),(15,vA encSItem m2)] [bx [13] [.int .i64 i0],rw_ [1000,15] 57 2 encSFlaw m0,bx [15] [.osl [1000,15]],bx [5] (encSState a2),bx [4] (encSState a1)] 120 [(0,vL encSItem a2.Stack),(1,.c (.clo 22 [.ptr [13] (0)])),(5,vL encSItem a2.Stack),(6,.c (.clo 22 [.ptr [13] (0)])),(13,vP [4] (0)),(14,vP [5] (0)),(16,vP [15] (0)),(17,.c (.bmv 15 [.ptr [15] (0)])),(22,vP [13] (0)),(80,vI (a2.Players.length : Int)),(81,vI i0),(84,vA encSState a2),(85,vI i0),(86,vB t0),(87,vB (!t0)),(88,vB (!t0)),(89,.g ((!t0) == true) (vP [5] (4))),(90,vL encSItem a2.Stack),(91,.c (.clo 22 [.ptr [13] (0)]))] [7,83]) (aC (idx_b d4) <| aC (eld d4 lenSItem 0 94 true (vA encSItem m2)) <| aC (Eq.refl (vA encSItem m2)) <| aN) <| rI rfl rfl <| Ei 16 [vA encSItem m2] [.ptr [13] (0)] Tryz.func22 Tryz.ntmps22 [.tmp 3] rfl rfl rfl rfl fun _ _ _ _ => Gg [.a,.a] (uo [0] [(2,vP [2,16,7,83] (0))] [.e (bx [2,16,7,83] (encSItem m2)),.k 0,.k 1,.k 2,.k 3,.k 4]) (aN) <| Gg (nA 5) (uo [1,2] [(3,vB (m2.Control == i0))] [.k 1,.k 2,.k 3,.k 4,.k 5]) (aN) <| hR <| nR (vB (m2.Control == i0)) <| Gw [] (u [] []) (aN) <| Tn <| iC x0 (fun x0 => ?_) (fun x0 => ?_)
               · refine Gg [.a,.a] (u [0,1,5,7,8,11,12,13,14,15,16] [(4,vI k0)]) (aN) <| hR <| qR <| Tr ?_
                 obtain rfl := o3 _ (sI x0).symm
                 replace n0 := sumR n0
                 refine Tr <| qR <| Tr <| nR (vI k0) ⟨k0,n0,lT⟩
               refine hK <| qN <| Tn <| Ge [.a,.a] (u [] [(8,vI (wrap64 (k0 + (1 : Int)))),(18,vI (wrap64 (k0 + (1 : Int))))]) (aN) <| Tn ⟨(wrap64 (k0 + (1 : Int))),(sI x0).symm,wT⟩
             refine hE <| Te ?_
             obtain rfl := o3 _ (sI x0).symm
             replace n0 := sumL n0
             refine Te <| qX <| Tn ⟨(),n0,wT⟩
           rintro _ t2
           replace t2 : audit_Look_J38 i0 m0 t0 = some n1 := t2
           unfold audit_Look_J38 at t2
           refine Gg [.a] (u [] [(4,vI (-1 : Int))]) (aN) <| hR <| nR (vI (-1 : Int)) ⟨(-1 : Int),t2,lT⟩
         rintro m1 q2
         replace q2 : audit_Look_J37 i0 m0 t0 m1 = some n1 := q2
         unfold audit_Look_J37 at q2
         refine Gw [.a,.a] (u [] [(4,vB (decide ((0 : Int) ≤ m1))),(8,vB (decide ((0 : Int) ≤ m1)))]) (aN) <| Tn <| hR <| nR (vB (decide ((0 : Int) ≤ m1))) ⟨(decide ((0 : Int) ≤ m1)),q2,lT⟩
       · replace n0 := iF n0 d2
         exact ⟨false,vB false,n0,lT⟩
       rintro p4 i1
       replace i1 : audit_Look_J32 i0 m0 t0 p4 = some n1 := i1
       unfold audit_Look_J32 at i1
       obtain ⟨n3,o5,i1⟩ := bS i1
       refine Gw [(.v (vB n3))] (u [] [(84,vB n3)]) (aT (!t0) <| aB o5 <| aN) <| Tn <| iC i1 (fun i1 => ?_) (fun i1 => ?_)
       · refine hO <| Gp 2 [.a,.a] (u [] [(85,.c (.bmv 15 [.ptr [15] (0)])),(86,vI i0)]) (aN) <| rI rfl rfl <| EiB 87 [vI (4 : Int),vI i0] [.ptr [15] (0)] Tryz.func15 Tryz.ntmps15 [] rfl rfl rfl rfl fun _ _ _ _ => ?_
         obtain ⟨d3,m4,i1⟩ := bS i1
         refine Re [.a,.a,.a,.a,.a,.a,.a,.a,.a,(.e d3.length (d3.flatMap (encSFlaw))),.a,.a,.a] (sg 18 [(0,vP [15] (0)),(1,vI (4 : Int)),(2,vI i0),(6,vP [15] (0)),(7,vP [15] (0)),(8,vP [15] (0)),(9,vP [15] (0)),(11,vI (4 : Int)),(12,vI i0),(13,.agg [.int .i64 (4 : Int),.int .i64 i0]),(14,vO [14,87]),(15,vO [1000,15]),(16,vP [15] (0)),(17,vP [15] (0))] [rw_ [1000,15] 57 2 encSFlaw d3,rw_ [14,87] 57 2 encSFlaw ([(⟨(4 : Int),i0⟩ : SFlaw)] : List (SFlaw)),bx [13] [.int .i64 i0],bx [15] [.osl [1000,15]],bx [5] (encSState a2),bx [4] (encSState a1)] 111 [(4,vP [4] (0)),(5,vP [5] (0)),(7,vP [15] (0)),(8,.c (.bmv 15 [.ptr [15] (0)])),(13,vP [13] (0)),(71,vI (a2.Players.length : Int)),(72,vI i0),(79,vB (!t0)),(83,.g ((!t0) == true) (vB p4)),(84,vB n3),(85,.c (.bmv 15 [.ptr [15] (0)])),(86,vI i0)] [87]) (aC (show True ∧ True from ⟨trivial,trivial⟩) <| aC (And.intro (show True ∧ (True ∧ True) from ⟨trivial,⟨trivial,trivial⟩⟩) okp57) <| aC (ap1 m4 encSFlaw) <| aC (app_b m4) <| aC (show True ∧ True from ⟨trivial,trivial⟩) <| aN) <| nN (.tup []) <| Rw [] (sl 111 [(4,vP [4] (0)),(5,vP [5] (0)),(7,vP [15] (0)),(8,.c (.bmv 15 [.ptr [15] (0)])),(13,vP [13] (0)),(71,vI (a2.Players.length : Int)),(72,vI i0),(79,vB (!t0)),(83,.g ((!t0) == true) (vB p4)),(84,vB n3),(85,.c (.bmv 15 [.ptr [15] (0)])),(86,vI i0),(87,.tup [])] [rw_ [1000,15] 57 2 encSFlaw d3,rw_ [14,87] 57 2 encSFlaw ([(⟨(4 : Int),i0⟩ : SFlaw)] : List (SFlaw)),bx [13] [.int .i64 i0],bx [15] [.osl [1000,15]],bx [5] (encSState a2),bx [4] (encSState a1)]) (aN) <| qN <| Tn ⟨d3,i1,wT⟩
       refine hK <| qN <| Tn ⟨m0,i1,wT⟩
     rintro x1 p2
     replace p2 : audit_Look_J29 i0 x1 = some n1 := p2
     unfold audit_Look_J29 at p2
     refine Ge [.a,.a] (u [] [(72,vI (wrap64 (i0 + (1 : Int)))),(88,vI (wrap64 (i0 + (1 : Int))))]) (aN) <| Tn ⟨((wrap64 (i0 + (1 : Int))),x1),(sI p2).symm,wT⟩
   refine hE <| Te ?_
   obtain rfl := d5 _ (sI n0).symm
   refine Te <| qX <| Tn ⟨m0,n2,wT⟩
 rintro j2 j1
 replace j1 : audit_Look_J10 a1 a2 j2 = some r := j1
 unfold audit_Look_J10 at j1
 refine Gj (X := (List (SFlaw))) (fun v => (uo [] [] [.e (rw_ [1000,15] 57 2 encSFlaw v),.k 1,.k 2,.k 3])) (fun v => audit_Look_J12 a1 a2 v = some r) ?_ ?_
 · refine Gg (nA 5) (u [] [(93,vB (decide (a2.Turn < a1.Turn)))]) (aN) <| iC j1 (fun j1 => ?_) (fun j1 => ?_)
   · refine hO <| Gp 1 [.a] (u [] [(94,.c (.bmv 15 [.ptr [15] (0)]))]) (aN) <| rI rfl rfl <| EiB 95 [vI (5 : Int),vI (0 : Int)] [.ptr [15] (0)] Tryz.func15 Tryz.ntmps15 [] rfl rfl rfl rfl fun _ _ _ _ => ?_
     obtain ⟨q3,k4,j1⟩ := bS j1
     refine Ge [.a,.a,.a,.a,.a,.a,.a,.a,.a,(.e q3.length (q3.flatMap (encSFlaw))),.a,.a,.a] (uo [] [(6,vP [15] (0)),(7,vP [15] (0)),(8,vP [15] (0)),(9,vP [15] (0)),(11,vI (5 : Int)),(12,vI (0 : Int)),(13,.agg [.int .i64 (5 : Int),.int .i64 (0 : Int)]),(14,vO [14,95]),(15,vO [1000,15]),(16,vP [15] (0)),(17,vP [15] (0))] [.e (rw_ [1000,15] 57 2 encSFlaw q3),.e (rw_ [14,95] 57 2 encSFlaw ([(⟨(5 : Int),(0 : Int)⟩ : SFlaw)] : List (SFlaw))),.k 1,.k 2,.k 3]) (aC (show True ∧ True from ⟨trivial,trivial⟩) <| aC (And.intro (show True ∧ (True ∧ True) from ⟨trivial,⟨trivial,trivial⟩⟩) okp57) <| aC (ap1 k4 encSFlaw) <| aC (app_b k4) <| aC (show True ∧ True from ⟨trivial,trivial⟩) <| aN) <| nN (.tup []) <| Gw [] (u [] []) (aN) <| Tn ⟨q3,j1,wT⟩
   refine hK <| Tn ⟨j2,j1,wT⟩
 rintro q1 d1
 replace d1 : audit_Look_J12 a1 a2 q1 = some r := d1
 unfold audit_Look_J12 at d1
 refine Gj (X := (List (SFlaw))) (fun v => (uo [4,5,8] [] [.e (rw_ [1000,15] 57 2 encSFlaw v),.k 1])) (fun v => audit_Look_J14 v = some r) ?_ ?_
 · obtain ⟨o6,q5,k5,n5,d1⟩ := bS2 d1
   refine Gg [.a,.a,.a,.a,.a,.a,(.c (vB o6)),.a,(.v (vB k5))] (uo [4,5] [(104,vB k5)] [.k 0,.k 1]) (aC (c2 q5 state_Same_ok) <| aG ((a1.Over != (0 : Int)) == true) <| aT (a1.Over != (0 : Int)) <| aB n5 <| aN) <| iC d1 (fun d1 => ?_) (fun d1 => ?_)
   · refine hO <| Gp 1 [.a] (u [] [(105,.c (.bmv 15 [.ptr [15] (0)]))]) (aN) <| rI rfl rfl <| EiB 106 [vI (6 : Int),vI (0 : Int)] [.ptr [15] (0)] Tryz.func15 Tryz.ntmps15 [] rfl rfl rfl rfl fun _ _ _ _ => ?_
     obtain ⟨p3,j4,d1⟩ := bS d1
     refine Ge [.a,.a,.a,.a,.a,.a,.a,.a,.a,(.e p3.length (p3.flatMap (encSFlaw))),.a,.a,.a] (uo [] [(6,vP [15] (0)),(7,vP [15] (0)),(8,vP [15] (0)),(9,vP [15] (0)),(11,vI (6 : Int)),(12,vI (0 : Int)),(13,.agg [.int .i64 (6 : Int),.int .i64 (0 : Int)]),(14,vO [14,106]),(15,vO [1000,15]),(16,vP [15] (0)),(17,vP [15] (0))] [.e (rw_ [1000,15] 57 2 encSFlaw p3),.e (rw_ [14,106] 57 2 encSFlaw ([(⟨(6 : Int),(0 : Int)⟩ : SFlaw)] : List (SFlaw))),.k 1]) (aC (show True ∧ True from ⟨trivial,trivial⟩) <| aC (And.intro (show True ∧ (True ∧ True) from ⟨trivial,⟨trivial,trivial⟩⟩) okp57) <| aC (ap1 j4 encSFlaw) <| aC (app_b j4) <| aC (show True ∧ True from ⟨trivial,trivial⟩) <| aN) <| nN (.tup []) <| Gw [] (u [] []) (aN) <| Tn ⟨p3,d1,wT⟩
   refine hK <| Tn ⟨q1,d1,wT⟩
 rintro t1 o2
 replace o2 : audit_Look_J14 t1 = some r := o2
 unfold audit_Look_J14 at o2
 exact Gg (nA 5) (uo [7] [(6,vO [1000,15])] [.k 0]) (aC (show True ∧ True from ⟨trivial,trivial⟩) <| aN) <| hR <| bE (vO [1000,15]) (vL encSFlaw t1) (congrArg (vL encSFlaw) (sI o2))
end Go.PL
