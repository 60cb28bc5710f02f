/- Functions of the program, as partial functions in Lean, with proofs. -/
import Derived.Test.YtcmdlelhdimnfaaGreatDoorPlAcB
import Derived.Test.YtcmdlelhdimnfaaGreatDoorPlAcF2
namespace Go.PL
open Go Go.RowKit Go.Proofs
set_option maxRecDepth 100000
set_option linter.all false
set_option maxHeartbeats 4000000
attribute [local irreducible] Holds thenQ blockQ
/-- cardgame/state.zonefind -/
def state_zonefind (a0 : SState) (a1 : Int) : Option (SObject × Bool) :=
 (slices_BinarySearchFunc_api_Object_api_Object_int_state_zonefind_1 a0.Objects a1).bind fun r1 =>
 (if (!r1.2) = true then
  some ((⟨(0 : Int), (0 : Int), (0 : Int), (0 : Int), (0 : Int), false, false, false, false, (0 : Int), (⟨(0 : Int), (0 : Int), (0 : Int)⟩ : A3 (Int)), (0 : Int), (0 : Int), (0 : Int), false, (0 : Int), (0 : Int)⟩ : SObject), false)
 else
  (idx a0.Objects r1.1).bind fun e3 =>
  some (e3, true))
def state_zonefind_C (a0 : SState) (a1 : Int) (r : SObject × Bool) : Prop := PCall Tryz.prog I0 60 [vA encSState a0, vI a1] (· = .tup [vA encSObject r.1, vB r.2])
theorem state_zonefind_ok {a0 : SState} {a1 : Int} {r : SObject × Bool} (h : state_zonefind a0 a1 = some r) : state_zonefind_C a0 a1 r := by
 refine PCall.bo I0_stable Tryz.func60 rfl Tryz.ntmps60 [.cell 4 38, .tmp 5] fun _ _ _ _ => ?_
 unfold state_zonefind at h
 refine Rg (nA 3) (sl 23 [(1,vI a1),(2,vP [2] (0)),(4,vP [4] (0))] [bx [4] [.int .i64 (0 : Int),.int .i64 (0 : Int),.int .i64 (0 : Int),.int .i64 (0 : Int),.int .i64 (0 : Int),.bool false,.bool false,.bool false,.bool false,.int .i64 (0 : Int),.int .i64 (((⟨(0 : Int),(0 : Int),(0 : Int)⟩ : A3 (Int))).x0),.int .i64 (((⟨(0 : Int),(0 : Int),(0 : Int)⟩ : A3 (Int))).x1),.int .i64 (((⟨(0 : Int),(0 : Int),(0 : Int)⟩ : A3 (Int))).x2),.int .i64 (0 : Int),.int .i64 (0 : Int),.int .i64 (0 : Int),.bool false,.int .i64 (0 : Int),.int .i64 (0 : Int)],bx [2] (encSState a0)]) (aN) ?_
 obtain ⟨r1,j0,h⟩ := bS h
 refine Gg [.a,.a,.a,(.c (.tup [vI r1.1,vB r1.2])),.a,.a,.a,.a,.a] (u [1] [(6,vI r1.1),(7,vB r1.2)]) (aC (slices_BinarySearchFunc_api_Object_api_Object_int_state_zonefind_1_ok j0) <| aC (show True ∧ 0 < [V.undef,V.undef].length from ⟨trivial,(by decide)⟩) <| aC (show True ∧ 1 < [V.undef,V.undef].length from ⟨trivial,(by decide)⟩) <| aN) <| hS <| Gg [.a,.a] (u [7] [(16,vB (!r1.2))]) (aN) <| iC h (fun h => ?_) (fun h => ?_)
 · exact Gg (nA 3) (uo [2,6,16] [(5,vB false)] [.k 0]) (aC (And.intro trivial okp38) <| aN) <| hR <| Tr <| bE (.tup [.agg [.int .i64 (0 : Int),.int .i64 (0 : Int),.int .i64 (0 : Int),.int .i64 (0 : Int),.int .i64 (0 : Int),.bool false,.bool false,.bool false,.bool false,.int .i64 (0 : Int),.int .i64 (((⟨(0 : Int),(0 : Int),(0 : Int)⟩ : A3 (Int))).x0),.int .i64 (((⟨(0 : Int),(0 : Int),(0 : Int)⟩ : A3 (Int))).x1),.int .i64 (((⟨(0 : Int),(0 : Int),(0 : Int)⟩ : A3 (Int))).x2),.int .i64 (0 : Int),.int .i64 (0 : Int),.int .i64 (0 : Int),.bool false,.int .i64 (0 : Int),.int .i64 (0 : Int)],vB false]) (.tup [.agg (encSObject (⟨(0 : Int),(0 : Int),(0 : Int),(0 : Int),(0 : Int),false,false,false,false,(0 : Int),(⟨(0 : Int),(0 : Int),(0 : Int)⟩ : A3 (Int)),(0 : Int),(0 : Int),(0 : Int),false,(0 : Int),(0 : Int)⟩ : SObject)),vB false]) (congrArg (fun (q : SObject × Bool) => (.tup [vA encSObject q.1,vB q.2] : V)) (sI h))
 refine hK <| Tn ?_
 obtain ⟨e3,i0,h⟩ := bS h
 exact Rg [.a,.a,.a,.a,(.v (vA encSObject e3)),.a,.a] (sl 23 [(4,vP [4] (0)),(5,vB true)] [bx [4] (encSObject e3)]) (aC (idx_b i0) <| aC (eld i0 lenSObject 0 19 true (vA encSObject e3)) <| aC (Eq.refl (vA encSObject e3)) <| aN) <| hR <| bE (.tup [vA encSObject e3,vB true]) (.tup [.agg (encSObject e3),vB true]) (congrArg (fun (q : SObject × Bool) => (.tup [vA encSObject q.1,vB q.2] : V)) (sI h))
def base_Of_J6  (b6_5 : STraits) : Option (STraits) :=
 some b6_5
def base_Of_J4 (a1 : SObject) (b6_3 : STraits) : Option (STraits) :=
 (some (if (a1.Zone == (0 : Int)) = true then true else a1.Zone == (5 : Int))).bind fun b7 =>
 (if b7 = true then
  base_Of_J6 ({ { b6_3 with Control := a1.Owner } with Control := a1.Control })
 else
  base_Of_J6 ({ b6_3 with Control := a1.Owner }))
def base_Of_J2 (a0 : List (SCard)) (a1 : SObject) (i_t5_1 : Int) : Option (STraits) :=
 (some (if (decide ((0 : Int) ≤ i_t5_1)) = true then decide (i_t5_1 < (a0.length : Int)) else false)).bind fun b9 =>
 (if b9 = true then
  (idx a0 i_t5_1).bind fun e11 =>
  (base_Printed e11).bind fun r12 =>
  base_Of_J4 a1 r12
 else
  base_Of_J4 a1 (⟨[], (⟨(0 : Int), (0 : Int), (⟨(0 : Int), (0 : Int), (0 : Int), (0 : Int), (0 : Int)⟩ : A5 (Int))⟩ : SCost), (0 : Int), (⟨(0 : Int), (0 : Int), ([] : List (List UInt8))⟩ : SLine), (0 : Int), (0 : Int), (0 : Int), ([] : List (SAbility)), (0 : Int)⟩ : STraits))
/-- cardgame/base.Of -/
def base_Of (a0 : List (SCard)) (a1 : SObject) : Option (STraits) :=
 (if (decide (a1.Copy < (0 : Int))) = true then
  base_Of_J2 a0 a1 a1.Card
 else
  base_Of_J2 a0 a1 a1.Copy)
def base_Of_C (a0 : List (SCard)) (a1 : SObject) (r : STraits) : Prop := PCall Tryz.prog I0 104 [vL encSCard a0, vA encSObject a1] (· = vA encSTraits r)
theorem base_Of_ok {a0 : List (SCard)} {a1 : SObject} {r : STraits} (h : base_Of a0 a1 = some r) : base_Of_C a0 a1 r := by
 refine PCall.bo I0_stable Tryz.func104 rfl Tryz.ntmps104 [.cell 4 111] fun _ _ _ _ => ?_
 unfold base_Of at h
 refine Gg [.a,.a] (uo [1] [(3,vP [3] (0)),(4,vP [4] (0))] [.e (bx [4] [.str ([]),.int .i64 (0 : Int),.int .i64 (0 : Int),.int .i64 (((⟨(0 : Int),(0 : Int),(0 : Int),(0 : Int),(0 : Int)⟩ : A5 (Int))).x0),.int .i64 (((⟨(0 : Int),(0 : Int),(0 : Int),(0 : Int),(0 : Int)⟩ : A5 (Int))).x1),.int .i64 (((⟨(0 : Int),(0 : Int),(0 : Int),(0 : Int),(0 : Int)⟩ : A5 (Int))).x2),.int .i64 (((⟨(0 : Int),(0 : Int),(0 : Int),(0 : Int),(0 : Int)⟩ : A5 (Int))).x3),.int .i64 (((⟨(0 : Int),(0 : Int),(0 : Int),(0 : Int),(0 : Int)⟩ : A5 (Int))).x4),.int .i64 (0 : Int),.int .i64 (0 : Int),.int .i64 (0 : Int),.nils,.int .i64 (0 : Int),.int .i64 (0 : Int),.int .i64 (0 : Int),.nils,.int .i64 (0 : Int)]),.e (bx [3] (encSObject a1))]) (aN) <| Gg (nA 3) (u [] [(5,vI a1.Copy)]) (aN) <| Gj (X := Int) (fun v => (u [] [(5,vI v)])) (fun v => base_Of_J2 a0 a1 v = some r) ?_ ?_
 · refine Gg [.a,.a] (u [] [(10,vB (decide (a1.Copy < (0 : Int))))]) (aN) <| iC h (fun h => ?_) (fun h => ?_)
   · refine Ge (nA 3) (u [] [(5,vI a1.Card),(11,vP [3] (1)),(12,vI a1.Card)]) (aN) <| Tn ⟨a1.Card,h,wT⟩
   refine hK <| Tn ⟨a1.Copy,h,wT⟩
 rintro i0 j0
 replace j0 : base_Of_J2 a0 a1 i0 = some r := j0
 unfold base_Of_J2 at j0
 refine Gg (nA 3) (uo [] [(6,vP [6] (0))] [.e (bx [6] [.str ([]),.int .i64 (0 : Int),.int .i64 (0 : Int),.int .i64 (((⟨(0 : Int),(0 : Int),(0 : Int),(0 : Int),(0 : Int)⟩ : A5 (Int))).x0),.int .i64 (((⟨(0 : Int),(0 : Int),(0 : Int),(0 : Int),(0 : Int)⟩ : A5 (Int))).x1),.int .i64 (((⟨(0 : Int),(0 : Int),(0 : Int),(0 : Int),(0 : Int)⟩ : A5 (Int))).x2),.int .i64 (((⟨(0 : Int),(0 : Int),(0 : Int),(0 : Int),(0 : Int)⟩ : A5 (Int))).x3),.int .i64 (((⟨(0 : Int),(0 : Int),(0 : Int),(0 : Int),(0 : Int)⟩ : A5 (Int))).x4),.int .i64 (0 : Int),.int .i64 (0 : Int),.int .i64 (0 : Int),.nils,.int .i64 (0 : Int),.int .i64 (0 : Int),.int .i64 (0 : Int),.nils,.int .i64 (0 : Int)]),.k 0,.k 1]) (aC (And.intro trivial okp111) <| aN) <| Gj (X := STraits) (fun v => (uo [0,5] [] [.e (bx [6] (encSTraits v)),.k 1,.k 2])) (fun v => base_Of_J4 a1 v = some r) ?_ ?_
 · obtain ⟨b9,d1,j0⟩ := bS j0
   refine Gg [.a,.a,.a,.a,.a,.a,.a,(.v (vB b9))] (u [] [(21,vB b9)]) (aG ((decide ((0 : Int) ≤ i0)) == true) <| aH ((decide ((0 : Int) ≤ i0)) == true) <| aT (decide ((0 : Int) ≤ i0)) <| aB d1 <| aN) <| iC j0 (fun j0 => ?_) (fun j0 => ?_)
   · obtain ⟨o0,t0,q0,y0,j0⟩ := bS2 j0
     refine Ge [.a,.a,.a,(.v (vA encSCard o0)),(.c (vA encSTraits q0)),.a] (uo [] [(22,vL encSCard a0),(23,vI i0),(24,vX encSCard a0 ((i0).toNat * 17)),(25,vA encSCard o0),(26,vA encSTraits q0)] [.e (bx [6] (encSTraits q0)),.k 1,.k 2]) (aC (idx_b t0) <| aC (eld t0 lenSCard 0 17 true (vA encSCard o0)) <| aC (Eq.refl (vA encSCard o0)) <| aC (base_Printed_ok y0) <| aN) <| Tn ⟨q0,j0,wT⟩
   refine hK <| Tn ⟨(⟨[],(⟨(0 : Int),(0 : Int),(⟨(0 : Int),(0 : Int),(0 : Int),(0 : Int),(0 : Int)⟩ : A5 (Int))⟩ : SCost),(0 : Int),(⟨(0 : Int),(0 : Int),([] : List (List UInt8))⟩ : SLine),(0 : Int),(0 : Int),(0 : Int),([] : List (SAbility)),(0 : Int)⟩ : STraits),j0,(wN [[6]] [])⟩
 rintro m0 k0
 replace k0 : base_Of_J4 a1 m0 = some r := k0
 unfold base_Of_J4 at k0
 refine Gg (nA 4) (uo [] [] [.e (bx [6] (encSTraits ({ m0 with Control := a1.Owner }))),.k 1,.k 2]) (aN) <| Gj (X := STraits) (fun v => (uo [3] [] [.e (bx [6] (encSTraits v)),.k 1])) (fun v => base_Of_J6 v = some r) ?_ ?_
 · obtain ⟨b7,z0,k0⟩ := bS k0
   refine Gg [.a,.a,.a,.a,.a,.a,.a,(.v (vB b7))] (u [] [(37,vB b7)]) (aG ((a1.Zone == (0 : Int)) == false) <| aG ((a1.Zone == (0 : Int)) == false) <| aF (a1.Zone == (0 : Int)) <| aB z0 <| aN) <| iC k0 (fun k0 => ?_) (fun k0 => ?_)
   · refine Re (nA 4) (sl 42 [(3,vP [3] (0)),(4,vP [4] (0)),(6,vP [6] (0)),(37,vB b7),(38,vP [3] (3)),(39,vI a1.Control),(40,vP [6] (16))] [bx [6] (encSTraits ({ { m0 with Control := a1.Owner } with Control := a1.Control })),bx [4] [.str ([]),.int .i64 (0 : Int),.int .i64 (0 : Int),.int .i64 (((⟨(0 : Int),(0 : Int),(0 : Int),(0 : Int),(0 : Int)⟩ : A5 (Int))).x0),.int .i64 (((⟨(0 : Int),(0 : Int),(0 : Int),(0 : Int),(0 : Int)⟩ : A5 (Int))).x1),.int .i64 (((⟨(0 : Int),(0 : Int),(0 : Int),(0 : Int),(0 : Int)⟩ : A5 (Int))).x2),.int .i64 (((⟨(0 : Int),(0 : Int),(0 : Int),(0 : Int),(0 : Int)⟩ : A5 (Int))).x3),.int .i64 (((⟨(0 : Int),(0 : Int),(0 : Int),(0 : Int),(0 : Int)⟩ : A5 (Int))).x4),.int .i64 (0 : Int),.int .i64 (0 : Int),.int .i64 (0 : Int),.nils,.int .i64 (0 : Int),.int .i64 (0 : Int),.int .i64 (0 : Int),.nils,.int .i64 (0 : Int)],bx [3] (encSObject a1)]) (aN) <| Tn ⟨({ { m0 with Control := a1.Owner } with Control := a1.Control }),k0,wT⟩
   refine hK <| Tn ⟨({ m0 with Control := a1.Owner }),k0,wT⟩
 rintro n0 p0
 replace p0 : base_Of_J6 n0 = some r := p0
 unfold base_Of_J6 at p0
 exact Rg [.a,.a] (sl 42 [(4,vP [4] (0))] [bx [4] (encSTraits n0)]) (aN) <| hR <| bE (vA encSTraits n0) (.agg (encSTraits n0)) (congrArg (vA encSTraits) (sI p0))
/-- cardgame/state.each[cardgame/api.Cont] -/
def state_each_api_Cont_state_sameCont (a0 : List (SCont)) (a1 : List (SCont)) : Option (Bool) :=
 (slices_EqualFunc_api_Cont_api_Cont_api_Cont_api_Cont_state_sameCont a0 a1).bind fun r1 =>
 some r1
def state_each_api_Cont_state_sameCont_C (a0 : List (SCont)) (a1 : List (SCont)) (r : Bool) : Prop := PCall Tryz.prog I0 43 [vL encSCont a0, vL encSCont a1, .c (.fn 44)] (· = vB r)
theorem state_each_api_Cont_state_sameCont_ok {a0 : List (SCont)} {a1 : List (SCont)} {r : Bool} (h : state_each_api_Cont_state_sameCont a0 a1 = some r) : state_each_api_Cont_state_sameCont_C a0 a1 r := by
 refine PCall.bo I0_stable Tryz.func43 rfl Tryz.ntmps43 [.tmp 6] fun _ _ _ _ => ?_
 unfold state_each_api_Cont_state_sameCont at h
 refine Gg [.a] (u [] []) (aN) ?_
 obtain ⟨r1,i0,h⟩ := bS h
 exact Rg [.a,.a,.a,(.c (vB r1)),.a] (sl 11 [(6,vB r1)] []) (aC (slices_EqualFunc_api_Cont_api_Cont_api_Cont_api_Cont_state_sameCont_ok i0) <| aN) <| hR <| bQ _ (kB h)
end Go.PL
