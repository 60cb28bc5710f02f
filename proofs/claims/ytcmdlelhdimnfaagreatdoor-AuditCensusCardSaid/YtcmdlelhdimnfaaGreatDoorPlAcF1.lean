/- Functions of the program, as partial functions in Lean, with proofs. -/
import Derived.Test.YtcmdlelhdimnfaaGreatDoorPlAcB
import Derived.Test.YtcmdlelhdimnfaaGreatDoorPlAcF0
namespace Go.PL
open Go Go.RowKit Go.Proofs
set_option maxRecDepth 100000
set_option linter.all false
set_option maxHeartbeats 4000000
attribute [local irreducible] Holds thenQ blockQ
def state_players_J1 (a0 : SState) : Option (Bool) :=
 (state_in (a0.Players.length : Int) (2 : Int) (4 : Int)).bind fun r2 =>
 some r2
def state_players_B5 (a0 : SState) (vt8_4 : Int) : Option ((Int) ⊕ (Unit ⊕ Unit)) :=
 (if (decide (vt8_4 < (a0.Players.length : Int))) = true then
  (idx a0.Players vt8_4).bind fun e7 =>
  (state_in e7.Life (-1000000 : Int) (1000000 : Int)).bind fun r8 =>
  (gd ((!r8) == false) (state_in e7.Venom (0 : Int) (1000000 : Int))).bind fun r9 =>
  (some (if (!r8) = true then true else !r9)).bind fun b10 =>
  (gd (b10 == false) (state_in e7.Lands (0 : Int) (1000000 : Int))).bind fun r11 =>
  (some (if b10 = true then true else !r11)).bind fun b12 =>
  (gd (b12 == false) (mana_Whole e7.Pool)).bind fun r13 =>
  (some (if b12 = true then true else !r13)).bind fun b14 =>
  (if b14 = true then
   some (.inr (.inr ()))
  else
   some (.inl (wrap64 (vt8_4 + (1 : Int)))))
 else
  some (.inr (.inl ())))
/-- cardgame/state.players -/
def state_players (a0 : SState) : Option (Bool) :=
 (iter (fun (v : Int) => state_players_B5 a0 v) FU (0 : Int)).bind (Sum.elim (fun o0 => state_players_J1 a0) (fun o1 => some false))
def state_players_C (a0 : SState) (r : Bool) : Prop := PCall Tryz.prog I0 26 [vA encSState a0] (· = vB r)
theorem state_players_ok {a0 : SState} {r : Bool} (h : state_players a0 = some r) : state_players_C a0 r := by
 refine PCall.bo I0_stable Tryz.func26 rfl Tryz.ntmps26 [.tmp 2] fun _ _ _ _ => ?_
 unfold state_players at h
 refine Rg [.a,.a] (sl 39 [(1,vP [1] (0))] [bx [1] (encSState a0)]) (aN) <| Gj (X := Unit) (fun v => (u [] [])) (fun v => state_players_J1 a0 = some r) ?_ ?_
 · refine Gg (nA 4) (u [] [(6,vL encSPlayer a0.Players),(7,vI (a0.Players.length : Int)),(8,vI (0 : Int))]) (aN) <| hB ?_
   obtain ⟨q1,z0,h⟩ := bS h
   refine Gi (fun (v : Int) => (u [] [(8,vI v)])) z0 (wT) ?_
   rintro j0 p1 i0 o0
   replace i0 : state_players_B5 a0 j0 = some p1 := i0
   unfold state_players_B5 at i0
   refine Gg [.a] (u [] [(9,vB (decide (j0 < (a0.Players.length : Int))))]) (aN) <| hS <| iC i0 (fun i0 => ?_) (fun i0 => ?_)
   · refine hK <| Tn <| hS <| hB ?_
     obtain ⟨e7,q0,i0⟩ := bS i0
     refine Gg [.a,(.v (vA encSPlayer e7)),.a,.a] (uo [9] [(4,vP [4] (0))] [.e (bx [4] (encSPlayer e7)),.k 0]) (aC (idx_b q0) <| aC (eld q0 lenSPlayer 0 14 true (vA encSPlayer e7)) <| aC (Eq.refl (vA encSPlayer e7)) <| aN) ?_
     obtain ⟨r8,k1,r9,m1,m0,t0,n1,d1,i0⟩ := bS4 i0
     obtain ⟨n0,x0,o1,i1,p0,y0,i0⟩ := bS3 i0
     refine Gg [.a,.a,(.c (vB r8)),.a,.a,.a,.a,(.c (vB r9)),.a,(.v (vB m0)),.a,.a,.a,(.c (vB n1)),.a,(.v (vB n0)),.a,.a,.a,(.c (vB o1)),.a,(.v (vB p0))] (uo [4] [(33,vB p0)] [.k 1]) (aC (state_in_ok k1) <| aG ((!r8) == false) <| aC (c1 m1 state_in_ok) <| aG ((!r8) == false) <| aF (!r8) <| aB t0 <| aG (m0 == false) <| aC (c1 d1 state_in_ok) <| aG (m0 == false) <| aF m0 <| aB x0 <| aG (n0 == false) <| aC (c1 i1 mana_Whole_ok) <| aG (n0 == false) <| aF n0 <| aB y0 <| aN) <| iC i0 (fun i0 => ?_) (fun i0 => ?_)
     · refine Rg [.a] (sl 39 [(2,vB false)] []) (aN) <| hR <| qR <| Tr ?_
       obtain rfl := o0 _ (sI i0).symm
       replace h := sumR h
       exact Tr <| qR <| Tr <| bQ _ (kB h)
     refine hK <| qN <| Tn <| Ge [.a,.a] (u [] [(8,vI (wrap64 (j0 + (1 : Int)))),(34,vI (wrap64 (j0 + (1 : Int))))]) (aN) <| Tn ⟨(wrap64 (j0 + (1 : Int))),(sI i0).symm,wT⟩
   refine hE <| Te ?_
   obtain rfl := o0 _ (sI i0).symm
   replace h := sumL h
   refine Te <| qX <| Tn ⟨(),h,wT⟩
 rintro _ k0
 replace k0 : state_players_J1 a0 = some r := k0
 unfold state_players_J1 at k0
 obtain ⟨r2,j1,k0⟩ := bS k0
 exact Rg [.a,.a,.a,(.c (vB r2)),.a] (sl 39 [(2,vB r2)] []) (aC (state_in_ok j1) <| aN) <| hR <| bQ _ (kB k0)
/-- cardgame/object.Is -/
def object_Is (a0 : SObject) (a1 : Int) (a2 : Int) : Option (Bool) :=
 (some (if (decide (a0.Id < (1 : Int))) = true then true else decide (a0.Card < (0 : Int)))).bind fun b1 =>
 (some (if b1 = true then true else decide (a1 ≤ a0.Card))).bind fun b2 =>
 (some (if b2 = true then true else decide (a0.Owner < (0 : Int)))).bind fun b3 =>
 (some (if b3 = true then true else decide (a2 ≤ a0.Owner))).bind fun b4 =>
 (some (if b4 = true then true else decide (a0.Control < (0 : Int)))).bind fun b5 =>
 (some (if b5 = true then true else decide (a2 ≤ a0.Control))).bind fun b6 =>
 (gd (b6 == false) (object_in a0.Zone (0 : Int) (5 : Int))).bind fun r7 =>
 (some (if b6 = true then true else !r7)).bind fun b8 =>
 (if b8 = true then
  some false
 else
  (object_in a0.Damage (0 : Int) (1000000 : Int)).bind fun r10 =>
  (gd ((!r10) == false) (object_in a0.Stamp (0 : Int) (1000000 : Int))).bind fun r11 =>
  (some (if (!r10) = true then true else !r11)).bind fun b12 =>
  (gd (b12 == false) (object_in a0.Blocks (0 : Int) (1000000 : Int))).bind fun r13 =>
  (some (if b12 = true then true else !r13)).bind fun b14 =>
  (gd (b14 == false) (object_in a0.Shield (0 : Int) (1000000 : Int))).bind fun r15 =>
  (some (if b14 = true then true else !r15)).bind fun b16 =>
  (gd (b16 == false) (counter_Is a0.Counters)).bind fun r17 =>
  (some (if b16 = true then true else !r17)).bind fun b18 =>
  (if b18 = true then
   some false
  else
   (some (if (decide (a0.Copy < (-1 : Int))) = true then true else decide (a1 ≤ a0.Copy))).bind fun b20 =>
   (some (if b20 = true then true else decide (a0.Attack < (-1 : Int)))).bind fun b21 =>
   (some (if b21 = true then true else decide (a2 ≤ a0.Attack))).bind fun b22 =>
   (if b22 = true then
    some false
   else
    (if (a0.Zone == (0 : Int)) = true then
     some true
    else
     (object_Ended a0).bind fun r25 =>
     (object_Calm r25).bind fun r26 =>
     (some (if (a0 == r26) = true then !a0.Tapped else false)).bind fun b27 =>
     (some (if b27 = true then !a0.Sick else false)).bind fun b28 =>
     (some (if b28 = true then a0.Counters == (⟨(0 : Int), (0 : Int), (0 : Int)⟩ : A3 (Int)) else false)).bind fun b29 =>
     some b29))))
def object_Is_C (a0 : SObject) (a1 : Int) (a2 : Int) (r : Bool) : Prop := PCall Tryz.prog I0 58 [vA encSObject a0, vI a1, vI a2] (· = vB r)
theorem object_Is_ok {a0 : SObject} {a1 : Int} {a2 : Int} {r : Bool} (h : object_Is a0 a1 a2 = some r) : object_Is_C a0 a1 a2 r := by
 refine PCall.bo I0_stable Tryz.func58 rfl Tryz.ntmps58 [.tmp 6] fun _ _ _ _ => ?_
 unfold object_Is at h
 refine Gg [.a,.a] (uo [0] [(3,vP [3] (0))] [.e (bx [3] (encSObject a0))]) (aN) <| hS ?_
 obtain ⟨b1,m2,b2,n2,b3,o2,b4,p2,h⟩ := bS4 h
 obtain ⟨b5,q2,b6,t2,r7,y2,b8,x2,h⟩ := bS4 h
 refine Gg [.a,.a,.a,.a,.a,.a,.a,(.v (vB b1)),.a,.a,.a,.a,.a,(.v (vB b2)),.a,.a,.a,.a,(.v (vB b3)),.a,.a,.a,.a,.a,(.v (vB b4)),.a,.a,.a,.a,(.v (vB b5)),.a,.a,.a,.a,.a,(.v (vB b6)),.a,.a,.a,(.c (vB r7)),.a,(.v (vB b8))] (u [] [(48,vB b8)]) (aG ((decide (a0.Id < (1 : Int))) == false) <| aG ((decide (a0.Id < (1 : Int))) == false) <| aF (decide (a0.Id < (1 : Int))) <| aB m2 <| aG (b1 == false) <| aH (b1 == false) <| aF b1 <| aB n2 <| aG (b2 == false) <| aG (b2 == false) <| aF b2 <| aB o2 <| aG (b3 == false) <| aH (b3 == false) <| aF b3 <| aB p2 <| aG (b4 == false) <| aG (b4 == false) <| aF b4 <| aB q2 <| aG (b5 == false) <| aH (b5 == false) <| aF b5 <| aB t2 <| aG (b6 == false) <| aC (c1 y2 object_in_ok) <| aG (b6 == false) <| aF b6 <| aB x2 <| aN) <| iC h (fun h => ?_) (fun h => ?_)
 · exact Rg [.a] (sl 121 [(6,vB false)] []) (aN) <| hR <| Tr <| bQ _ (kB h)
 refine hK <| Tn <| hS ?_
 obtain ⟨t0,x1,z2,y1,k0,d1,d3,z1,h⟩ := bS4 h
 obtain ⟨m0,i1,i3,d2,n0,j1,j3,i2,h⟩ := bS4 h
 obtain ⟨x0,k1,h⟩ := bS h
 refine Gg [.a,.a,(.c (vB t0)),.a,.a,.a,.a,(.c (vB z2)),.a,(.v (vB k0)),.a,.a,.a,(.c (vB d3)),.a,(.v (vB m0)),.a,.a,.a,(.c (vB i3)),.a,(.v (vB n0)),.a,.a,.a,(.c (vB j3)),.a,(.v (vB x0))] (u [48] [(76,vB x0)]) (aC (object_in_ok x1) <| aG ((!t0) == false) <| aC (c1 y1 object_in_ok) <| aG ((!t0) == false) <| aF (!t0) <| aB d1 <| aG (k0 == false) <| aC (c1 z1 object_in_ok) <| aG (k0 == false) <| aF k0 <| aB i1 <| aG (m0 == false) <| aC (c1 d2 object_in_ok) <| aG (m0 == false) <| aF m0 <| aB j1 <| aG (n0 == false) <| aC (c1 i2 counter_Is_ok) <| aG (n0 == false) <| aF n0 <| aB k1 <| aN) <| iC h (fun h => ?_) (fun h => ?_)
 · exact Rg [.a] (sl 121 [(6,vB false)] []) (aN) <| hR <| Tr <| bQ _ (kB h)
 refine hK <| Tn <| hS ?_
 obtain ⟨o0,m1,p0,n1,y0,o1,h⟩ := bS3 h
 refine Gg [.a,.a,.a,.a,.a,.a,.a,.a,(.v (vB o0)),.a,.a,.a,.a,(.v (vB p0)),.a,.a,.a,.a,.a,(.v (vB y0))] (u [1,2,76] [(96,vB y0)]) (aG ((decide (a0.Copy < (-1 : Int))) == false) <| aH ((decide (a0.Copy < (-1 : Int))) == false) <| aF (decide (a0.Copy < (-1 : Int))) <| aB m1 <| aG (o0 == false) <| aG (o0 == false) <| aF o0 <| aB n1 <| aG (p0 == false) <| aH (p0 == false) <| aF p0 <| aB o1 <| aN) <| iC h (fun h => ?_) (fun h => ?_)
 · exact Rg [.a] (sl 121 [(6,vB false)] []) (aN) <| hR <| Tr <| bQ _ (kB h)
 refine hK <| Tn <| hS <| Gg (nA 3) (u [96] [(99,vB (a0.Zone == (0 : Int)))]) (aN) <| iC h (fun h => ?_) (fun h => ?_)
 · exact Rg [.a] (sl 121 [(6,vB true)] []) (aN) <| hR <| Tr <| bQ _ (kB h)
 refine hK <| Tn ?_
 obtain ⟨k3,j2,j0,k2,q0,p1,i0,q1,h⟩ := bS4 h
 obtain ⟨z0,t1,h⟩ := bS h
 exact Rq followsP [.a,.a,(.c (vA encSObject k3)),(.c (vA encSObject j0)),(.v (vB (a0 == j0))),.a,.a,.a,.a,(.v (vB q0)),.a,.a,.a,.a,(.v (vB i0)),.a,.a,.a,.a,(.v (vB (a0.Counters == (⟨(0 : Int),(0 : Int),(0 : Int)⟩ : A3 (Int))))),(.v (vB z0)),.a] (sl 121 [(6,vB z0)] []) (aC (object_Ended_ok j2) <| aC (object_Calm_ok k2) <| aC (congrArg (fun z => V.c (.bool (z))) (eqT38 a0 j0)) <| aG ((a0 == j0) == true) <| aG ((a0 == j0) == true) <| aT (a0 == j0) <| aB p1 <| aG (q0 == true) <| aG (q0 == true) <| aT q0 <| aB q1 <| aG (i0 == true) <| aC (fun hg : (i0 == true) = true => aC (And.intro trivial okp36) <| aN) <| aC (fun hg : (i0 == true) = true => aC (gi (i0 == true)) <| aC (gi (i0 == true)) <| aC (congrArg (fun z => V.c (.bool (z))) (eqT36 a0.Counters (⟨(0 : Int),(0 : Int),(0 : Int)⟩ : A3 (Int)))) <| aN) <| aT i0 <| aB t1 <| aN) <| hR <| bQ _ (kB h)
/-- cmp.Compare[int] -/
def cmp_Compare_int (a0 : Int) (a1 : Int) : Option (Int) :=
 (cmp_isNaN_int a0).bind fun r1 =>
 (cmp_isNaN_int a1).bind fun r2 =>
 (if r1 = true then
  (if r2 = true then
   some (0 : Int)
  else
   some (-1 : Int))
 else
  (if r2 = true then
   some (1 : Int)
  else
   (if (decide (a0 < a1)) = true then
    some (-1 : Int)
   else
    (if (decide (a1 < a0)) = true then
     some (1 : Int)
    else
     some (0 : Int)))))
def cmp_Compare_int_C (a0 : Int) (a1 : Int) (r : Int) : Prop := PCall Tryz.prog I0 88 [vI a0, vI a1] (· = vI r)
theorem cmp_Compare_int_ok {a0 : Int} {a1 : Int} {r : Int} (h : cmp_Compare_int a0 a1 = some r) : cmp_Compare_int_C a0 a1 r := by
 refine PCall.bo I0_stable Tryz.func88 rfl Tryz.ntmps88 [.tmp 4] fun _ _ _ _ => ?_
 unfold cmp_Compare_int at h
 refine Gg [.a] (u [] []) (aN) ?_
 obtain ⟨r1,i0,h⟩ := bS h
 refine Gg [.a,(.c (vB r1)),.a] (u [] [(5,vB r1)]) (aC (cmp_isNaN_int_ok i0) <| aN) ?_
 obtain ⟨r2,j0,h⟩ := bS h
 refine Gg [.a,(.c (vB r2)),.a] (u [] [(6,vB r2)]) (aC (cmp_isNaN_int_ok j0) <| aN) <| hS <| Gg [.a] (u [5] [(11,vB r1)]) (aN) <| iC h (fun h => ?_) (fun h => ?_)
 · refine hS <| Rg [.a] (sl 20 [(12,vB r2)] []) (aN) <| iC h (fun h => ?_) (fun h => ?_)
   · exact Rg [.a] (sl 20 [(4,vI (0 : Int))] []) (aN) <| hR <| Tr <| Tr <| bQ _ (congrArg vI (sI h))
   exact hK <| Tn <| Rg [.a] (sl 20 [(4,vI (-1 : Int))] []) (aN) <| hR <| Tr <| bQ _ (congrArg vI (sI h))
 refine hK <| Tn <| hS <| Gg [.a] (u [6,11] [(13,vB r2)]) (aN) <| iC h (fun h => ?_) (fun h => ?_)
 · exact Rg [.a] (sl 20 [(4,vI (1 : Int))] []) (aN) <| hR <| Tr <| bQ _ (congrArg vI (sI h))
 refine hK <| Tn <| hS <| Gg (nA 3) (u [13] [(16,vB (decide (a0 < a1)))]) (aN) <| iC h (fun h => ?_) (fun h => ?_)
 · exact Rg [.a] (sl 20 [(4,vI (-1 : Int))] []) (aN) <| hR <| Tr <| bQ _ (congrArg vI (sI h))
 refine hK <| Tn <| hS <| Rg (nA 3) (sl 20 [(19,vB (decide (a1 < a0)))] []) (aN) <| iC h (fun h => ?_) (fun h => ?_)
 · exact Rg [.a] (sl 20 [(4,vI (1 : Int))] []) (aN) <| hR <| Tr <| bQ _ (congrArg vI (sI h))
 exact hK <| Tn <| Rg [.a] (sl 20 [(4,vI (0 : Int))] []) (aN) <| hR <| bQ _ (congrArg vI (sI h))
def state_numbers_J1 (a0 : SState) : Option (Bool) :=
 (state_in a0.Turn (0 : Int) (500 : Int)).bind fun r2 =>
 (gd ((!r2) == false) (state_in a0.Active (0 : Int) (wrap64 ((a0.Players.length : Int) - (1 : Int))))).bind fun r3 =>
 (some (if (!r2) = true then true else !r3)).bind fun b4 =>
 (gd (b4 == false) (state_in a0.Priority (0 : Int) (wrap64 ((a0.Players.length : Int) - (1 : Int))))).bind fun r5 =>
 (some (if b4 = true then true else !r5)).bind fun b6 =>
 (gd (b6 == false) (state_in a0.Step (0 : Int) (10 : Int))).bind fun r7 =>
 (some (if b6 = true then true else !r7)).bind fun b8 =>
 (gd (b8 == false) (state_in a0.Passes (0 : Int) (wrap64 ((wrap64 ((a0.Players.length : Int) - (1 : Int))) + (1 : Int))))).bind fun r9 =>
 (some (if b8 = true then true else !r9)).bind fun b10 =>
 (gd (b10 == false) (state_in a0.NextId (1 : Int) (1000000 : Int))).bind fun r11 =>
 (some (if b10 = true then true else !r11)).bind fun b12 =>
 (gd (b12 == false) (state_in a0.NextStamp (1 : Int) (1000000 : Int))).bind fun r13 =>
 (some (if b12 = true then true else !r13)).bind fun b14 =>
 (some (if b14 = true then true else decide ((500 : Int) < (a0.Extra.length : Int)))).bind fun b15 =>
 (if b15 = true then
  some false
 else
  (if (a0.Over == (1 : Int)) = true then
   (state_in a0.Winner (0 : Int) (wrap64 ((a0.Players.length : Int) - (1 : Int)))).bind fun r18 =>
   some r18
  else
   (state_in a0.Over (0 : Int) (2 : Int)).bind fun r19 =>
   (some (if r19 = true then a0.Winner == (-1 : Int) else false)).bind fun b20 =>
   some b20))
def state_numbers_B23 (a0 : SState) (vt13_22 : Int) : Option ((Int) ⊕ (Unit ⊕ Unit)) :=
 (if (decide (vt13_22 < (a0.Extra.length : Int))) = true then
  (idx a0.Extra vt13_22).bind fun e25 =>
  (state_in e25 (0 : Int) (wrap64 ((a0.Players.length : Int) - (1 : Int)))).bind fun r26 =>
  (if (!r26) = true then
   some (.inr (.inr ()))
  else
   some (.inl (wrap64 (vt13_22 + (1 : Int)))))
 else
  some (.inr (.inl ())))
/-- cardgame/state.numbers -/
def state_numbers (a0 : SState) : Option (Bool) :=
 (iter (fun (v : Int) => state_numbers_B23 a0 v) FU (0 : Int)).bind (Sum.elim (fun o0 => state_numbers_J1 a0) (fun o1 => some false))
def state_numbers_C (a0 : SState) (r : Bool) : Prop := PCall Tryz.prog I0 31 [vA encSState a0] (· = vB r)
theorem state_numbers_ok {a0 : SState} {r : Bool} (h : state_numbers a0 = some r) : state_numbers_C a0 r := by
 refine PCall.bo I0_stable Tryz.func31 rfl Tryz.ntmps31 [.tmp 2] fun _ _ _ _ => ?_
 unfold state_numbers at h
 refine Rg [.a,.a] (sl 87 [(1,vP [1] (0))] [bx [1] (encSState a0)]) (aN) <| Gg (nA 5) (u [] [(3,vI (wrap64 ((a0.Players.length : Int) - (1 : Int))))]) (aN) <| Gj (X := Unit) (fun v => (u [] [])) (fun v => state_numbers_J1 a0 = some r) ?_ ?_
 · refine Gg (nA 4) (u [] [(11,vL (eI .i64) a0.Extra),(12,vI (a0.Extra.length : Int)),(13,vI (0 : Int))]) (aN) <| hB ?_
   obtain ⟨y2,y0,h⟩ := bS h
   refine Gi (fun (v : Int) => (u [] [(13,vI v)])) y0 (wT) ?_
   rintro k0 d2 i0 q0
   replace i0 : state_numbers_B23 a0 k0 = some d2 := i0
   unfold state_numbers_B23 at i0
   refine Gg [.a] (u [] [(14,vB (decide (k0 < (a0.Extra.length : Int))))]) (aN) <| hS <| iC i0 (fun i0 => ?_) (fun i0 => ?_)
   · refine hK <| Tn <| hS <| hB ?_
     obtain ⟨p0,x0,i0⟩ := bS i0
     refine Gg [.a,(.v (vI p0)),.a] (u [14] [(5,vI p0)]) (aC (idx_b x0) <| aC (eld x0 (lenI .i64) 0 1 false (vI p0)) <| aC (Eq.refl (vI p0)) <| aN) ?_
     obtain ⟨j1,z1,i0⟩ := bS i0
     refine Gg [.a,.a,(.c (vB j1)),.a] (u [5] [(20,vB (!j1))]) (aC (state_in_ok z1) <| aN) <| iC i0 (fun i0 => ?_) (fun i0 => ?_)
     · refine Rg [.a] (sl 87 [(2,vB false)] []) (aN) <| hR <| qR <| Tr ?_
       obtain rfl := q0 _ (sI i0).symm
       replace h := sumR h
       exact Tr <| qR <| Tr <| bQ _ (kB h)
     refine hK <| qN <| Tn <| Ge [.a,.a] (u [] [(13,vI (wrap64 (k0 + (1 : Int)))),(21,vI (wrap64 (k0 + (1 : Int))))]) (aN) <| Tn ⟨(wrap64 (k0 + (1 : Int))),(sI i0).symm,wT⟩
   refine hE <| Te ?_
   obtain rfl := q0 _ (sI i0).symm
   replace h := sumL h
   refine Te <| qX <| Tn ⟨(),h,wT⟩
 rintro _ j0
 replace j0 : state_numbers_J1 a0 = some r := j0
 unfold state_numbers_J1 at j0
 refine hS ?_
 obtain ⟨r2,m2,r3,n2,b4,i2,r5,o2,j0⟩ := bS4 j0
 obtain ⟨b6,j2,r7,p2,b8,k2,r9,q2,j0⟩ := bS4 j0
 obtain ⟨n0,k1,t2,q1,o0,m1,x2,t1,j0⟩ := bS4 j0
 obtain ⟨m0,n1,z0,o1,j0⟩ := bS2 j0
 refine Gg [.a,.a,(.c (vB r2)),.a,.a,.a,.a,.a,(.c (vB r3)),.a,(.v (vB b4)),.a,.a,.a,.a,(.c (vB r5)),.a,(.v (vB b6)),.a,.a,.a,(.c (vB r7)),.a,(.v (vB b8)),.a,.a,.a,.a,.a,(.c (vB r9)),.a,(.v (vB n0)),.a,.a,.a,(.c (vB t2)),.a,(.v (vB o0)),.a,.a,.a,(.c (vB x2)),.a,(.v (vB m0)),.a,.a,.a,.a,.a,(.v (vB z0))] (u [] [(71,vB z0)]) (aC (state_in_ok m2) <| aG ((!r2) == false) <| aC (c2 n2 state_in_ok) <| aG ((!r2) == false) <| aF (!r2) <| aB i2 <| aG (b4 == false) <| aC (c2 o2 state_in_ok) <| aG (b4 == false) <| aF b4 <| aB j2 <| aG (b6 == false) <| aC (c1 p2 state_in_ok) <| aG (b6 == false) <| aF b6 <| aB k2 <| aG (b8 == false) <| aG (b8 == false) <| aC (c2 q2 state_in_ok) <| aG (b8 == false) <| aF b8 <| aB k1 <| aG (n0 == false) <| aC (c1 q1 state_in_ok) <| aG (n0 == false) <| aF n0 <| aB m1 <| aG (o0 == false) <| aC (c1 t1 state_in_ok) <| aG (o0 == false) <| aF o0 <| aB n1 <| aG (m0 == false) <| aG (m0 == false) <| aG (m0 == false) <| aF m0 <| aB o1 <| aN) <| iC j0 (fun j0 => ?_) (fun j0 => ?_)
 · exact Rg [.a] (sl 87 [(2,vB false)] []) (aN) <| hR <| Tr <| bQ _ (kB j0)
 refine hK <| Tn <| hS <| Gg (nA 3) (u [71] [(74,vB (a0.Over == (1 : Int)))]) (aN) <| iC j0 (fun j0 => ?_) (fun j0 => ?_)
 · obtain ⟨i1,x1,j0⟩ := bS j0
   exact Rg [.a,.a,.a,(.c (vB i1)),.a] (sl 87 [(2,vB i1)] []) (aC (state_in_ok x1) <| aN) <| hR <| Tr <| bQ _ (kB j0)
 refine hK <| Tn ?_
 obtain ⟨t0,y1,d1,p1,j0⟩ := bS2 j0
 exact Rg [.a,.a,(.c (vB t0)),.a,.a,.a,.a,(.v (vB d1)),.a] (sl 87 [(2,vB d1)] []) (aC (state_in_ok y1) <| aG (t0 == true) <| aG (t0 == true) <| aT t0 <| aB p1 <| aN) <| hR <| bQ _ (kB j0)
def mana_Colors_J5  (mask_t3_4 : Int) : Option (Int) :=
 some mask_t3_4
def mana_Colors_J14 (vt17_9 : Int) (mask_t3_13 : Int) : Option ((Int × Int) ⊕ (Int)) :=
 some (.inl (mask_t3_13, (wrap64 (vt17_9 + (1 : Int)))))
def mana_Colors_B11 (a0 : SCost) (mask_t3_8 : Int) (vt17_9 : Int) : Option ((Int × Int) ⊕ (Int)) :=
 (if (decide (vt17_9 < (5 : Int))) = true then
  (idx a0.Color.l vt17_9).bind fun e15 =>
  (if (decide ((0 : Int) < e15)) = true then
   (need (0 ≤ vt17_9)).bind fun u17 =>
   mana_Colors_J14 vt17_9 (bOr .i64 mask_t3_8 (wrap64 ((1 : Int) * 2 ^ (min (vt17_9).toNat (IntKind.i64).bits))))
  else
   mana_Colors_J14 vt17_9 mask_t3_8)
 else
  some (.inr mask_t3_8))
/-- cardgame/mana.Colors -/
def mana_Colors (a0 : SCost) : Option (Int) :=
 (mana_Is a0).bind fun r1 =>
 (some (if (!r1) = true then true else a0.Color == (⟨(0 : Int), (0 : Int), (0 : Int), (0 : Int), (0 : Int)⟩ : A5 (Int)))).bind fun b2 =>
 (if b2 = true then
  some (0 : Int)
 else
  (iter (fun (v : Int × Int) => mana_Colors_B11 a0 v.1 v.2) FU ((0 : Int), (0 : Int))).bind (fun o0 => mana_Colors_J5 o0))
def mana_Colors_C (a0 : SCost) (r : Int) : Prop := PCall Tryz.prog I0 182 [vA encSCost a0] (· = vI r)
theorem mana_Colors_ok {a0 : SCost} {r : Int} (h : mana_Colors a0 = some r) : mana_Colors_C a0 r := by
 refine PCall.bo I0_stable Tryz.func182 rfl Tryz.ntmps182 [.tmp 2] fun _ _ _ _ => ?_
 unfold mana_Colors at h
 refine Rg [.a,.a] (sl 29 [(1,vP [1] (0))] [bx [1] (encSCost a0)]) (aN) <| hS ?_
 obtain ⟨r1,j1,b2,i1,h⟩ := bS2 h
 refine Gg [.a,(.c (vB r1)),.a,.a,.a,.a,.a,(.v (vB (a0.Color == (⟨(0 : Int),(0 : Int),(0 : Int),(0 : Int),(0 : Int)⟩ : A5 (Int))))),(.v (vB b2))] (u [] [(14,vB b2)]) (aC (mana_Is_ok j1) <| aG ((!r1) == false) <| aC (fun hg : ((!r1) == false) = true => aC (And.intro trivial okp46) <| aN) <| aC (fun hg : ((!r1) == false) = true => aC (gi ((!r1) == false)) <| aC (gi ((!r1) == false)) <| aC (congrArg (fun z => V.c (.bool (z))) (eqT46 a0.Color (⟨(0 : Int),(0 : Int),(0 : Int),(0 : Int),(0 : Int)⟩ : A5 (Int)))) <| aN) <| aF (!r1) <| aB i1 <| aN) <| iC h (fun h => ?_) (fun h => ?_)
 · exact Rg [.a] (sl 29 [(2,vI (0 : Int))] []) (aN) <| hR <| Tr <| bQ _ (congrArg vI (sI h))
 refine hK <| Tn <| Gg [.a] (u [14] [(3,vI (0 : Int))]) (aN) <| Sj (X := Int) (fun v => (sl 29 [(3,vI v)] [])) (fun v => mana_Colors_J5 v = some r) ?_ ?_
 · refine Gg (nA 3) (uo [1] [(16,vA (eA5 (eI .i64)) a0.Color),(17,vI (0 : Int))] []) (aN) <| hB ?_
   obtain ⟨k1,y0,h⟩ := bS h
   refine Gi (fun (v : Int × Int) => (u [] [(3,vI v.1),(17,vI v.2)])) y0 (wT) ?_
   rintro ⟨k0,i0⟩ q0 j0 z0
   replace j0 : mana_Colors_B11 a0 k0 i0 = some q0 := j0
   unfold mana_Colors_B11 at j0
   refine Gg [.a] (u [] [(18,vB (decide (i0 < (5 : Int))))]) (aN) <| hS <| iC j0 (fun j0 => ?_) (fun j0 => ?_)
   · refine hK <| Tn <| Gj (X := Int) (fun v => (u [18] [(3,vI v)])) (fun v => mana_Colors_J14 i0 v = some q0) ?_ ?_
     · refine hB ?_
       obtain ⟨o0,x0,j0⟩ := bS j0
       refine Gg [.a,(.v (vI o0)),.a,.a] (u [18] [(4,vI i0),(5,vI o0)]) (aC (show (0 ≤ i0 ∧ i0 < ((5 : Nat) : Int)) ∧ (i0).toNat * 1 + 1 ≤ (eA5 (eI .i64) a0.Color).length ∧ toV false ((i0).toNat * 1) 1 (eA5 (eI .i64) a0.Color) = vI o0 from ⟨idx_b x0,arr_ld (e := eI .i64) (N := 1) (l := a0.Color.l) (base := 0) (pre := []) (post := []) (by kernel_rfl) rfl x0 (lenI .i64) (o := 0) (by simp) (by decide) (by decide) (by kernel_rfl)⟩) <| aC (Eq.refl (vI o0)) <| aN) <| Gg [.a,.a] (u [5] [(22,vB (decide ((0 : Int) < o0)))]) (aN) <| iC j0 (fun j0 => ?_) (fun j0 => ?_)
       · obtain ⟨m1,d1,j0⟩ := bS j0
         refine Re (nA 5) (sl 29 [(3,vI (bOr .i64 k0 (wrap64 ((1 : Int) * 2 ^ (min (i0).toNat (IntKind.i64).bits))))),(4,vI i0),(16,vA (eA5 (eI .i64)) a0.Color),(17,vI i0),(22,vB (decide ((0 : Int) < o0))),(23,vI k0),(24,vI i0),(25,vI (wrap64 ((1 : Int) * 2 ^ (min (i0).toNat (IntKind.i64).bits)))),(26,vI (bOr .i64 k0 (wrap64 ((1 : Int) * 2 ^ (min (i0).toNat (IntKind.i64).bits)))))] []) (aC (need_b d1) <| aN) <| qN <| Tn ⟨(bOr .i64 k0 (wrap64 ((1 : Int) * 2 ^ (min (i0).toNat (IntKind.i64).bits)))),j0,wT⟩
       refine hK <| qN <| Tn ⟨k0,j0,wT⟩
     rintro m0 p0
     replace p0 : mana_Colors_J14 i0 m0 = some q0 := p0
     unfold mana_Colors_J14 at p0
     refine Ge [.a,.a] (u [] [(17,vI (wrap64 (i0 + (1 : Int)))),(27,vI (wrap64 (i0 + (1 : Int))))]) (aN) <| Tn ⟨(m0,(wrap64 (i0 + (1 : Int)))),(sI p0).symm,wT⟩
   refine hE <| Te ?_
   obtain rfl := z0 _ (sI j0).symm
   refine Te <| qX <| Tn ⟨k0,h,wT⟩
 rintro n0 t0
 replace t0 : mana_Colors_J5 n0 = some r := t0
 unfold mana_Colors_J5 at t0
 exact Rg [.a,.a] (sl 29 [(2,vI n0)] []) (aN) <| hR <| bQ _ (congrArg vI (sI t0))
/-- slices.Contains[[]int,int] -/
def slices_Contains_int_int (a0 : List (Int)) (a1 : Int) : Option (Bool) :=
 (slices_Index_int_int a0 a1).bind fun r1 =>
 some (decide ((0 : Int) ≤ r1))
def slices_Contains_int_int_C (a0 : List (Int)) (a1 : Int) (r : Bool) : Prop := PCall Tryz.prog I0 20 [vL (eI .i64) a0, vI a1] (· = vB r)
theorem slices_Contains_int_int_ok {a0 : List (Int)} {a1 : Int} {r : Bool} (h : slices_Contains_int_int a0 a1 = some r) : slices_Contains_int_int_C a0 a1 r := by
 refine PCall.bo I0_stable Tryz.func20 rfl Tryz.ntmps20 [.tmp 4] fun _ _ _ _ => ?_
 unfold slices_Contains_int_int at h
 refine Gg [.a] (u [] []) (aN) ?_
 obtain ⟨r1,i0,h⟩ := bS h
 exact Rg [.a,.a,(.c (vI r1)),.a,.a] (sl 9 [(4,vB (decide ((0 : Int) ≤ r1)))] []) (aC (slices_Index_int_int_ok i0) <| aN) <| hR <| bQ _ (kB h)
def slices_EqualFunc_api_Player_api_Player_api_Player_api_Player_state_samePlayer_J2  : Option (Bool) :=
 some true
def slices_EqualFunc_api_Player_api_Player_api_Player_api_Player_state_samePlayer_B5 (a0 : List (SPlayer)) (a1 : List (SPlayer)) (vt17_4 : Int) : Option ((Int) ⊕ (Unit ⊕ Unit)) :=
 (if (decide (vt17_4 < (a0.length : Int))) = true then
  (idx a0 vt17_4).bind fun e7 =>
  (idx a1 vt17_4).bind fun e8 =>
  (some (if (e7.Life == e8.Life) = true then e7.Venom == e8.Venom else false)).bind fun b9 =>
  (some (if b9 = true then e7.Lands == e8.Lands else false)).bind fun b10 =>
  (some (if b10 = true then e7.Pool == e8.Pool else false)).bind fun b11 =>
  (some (if b11 = true then e7.Failed == e8.Failed else false)).bind fun b12 =>
  (some (if b12 = true then e7.Lost == e8.Lost else false)).bind fun b13 =>
  (gd (b13 == true) (slices_Equal_int_int e7.Library e8.Library)).bind fun r14 =>
  (some (if b13 = true then r14 else false)).bind fun b15 =>
  (gd (b15 == true) (slices_Equal_int_int e7.Hand e8.Hand)).bind fun r16 =>
  (some (if b15 = true then r16 else false)).bind fun b17 =>
  (gd (b17 == true) (slices_Equal_int_int e7.Graveyard e8.Graveyard)).bind fun r18 =>
  (some (if b17 = true then r18 else false)).bind fun b19 =>
  (if (!b19) = true then
   some (.inr (.inr ()))
  else
   some (.inl (wrap64 (vt17_4 + (1 : Int)))))
 else
  some (.inr (.inl ())))
/-- slices.EqualFunc[[]cardgame/api.Player,[]cardgame/api.Player,cardgame/api.Player,cardgame/api.Player] -/
def slices_EqualFunc_api_Player_api_Player_api_Player_api_Player_state_samePlayer (a0 : List (SPlayer)) (a1 : List (SPlayer)) : Option (Bool) :=
 (if ((a0.length : Int) != (a1.length : Int)) = true then
  some false
 else
  (iter (fun (v : Int) => slices_EqualFunc_api_Player_api_Player_api_Player_api_Player_state_samePlayer_B5 a0 a1 v) FU (0 : Int)).bind (Sum.elim (fun o0 => slices_EqualFunc_api_Player_api_Player_api_Player_api_Player_state_samePlayer_J2) (fun o1 => some false)))
def slices_EqualFunc_api_Player_api_Player_api_Player_api_Player_state_samePlayer_C (a0 : List (SPlayer)) (a1 : List (SPlayer)) (r : Bool) : Prop := PCall Tryz.prog I0 67 [vL encSPlayer a0, vL encSPlayer a1, .c (.fn 36)] (· = vB r)
theorem slices_EqualFunc_api_Player_api_Player_api_Player_api_Player_state_samePlayer_ok {a0 : List (SPlayer)} {a1 : List (SPlayer)} {r : Bool} (h : slices_EqualFunc_api_Player_api_Player_api_Player_api_Player_state_samePlayer a0 a1 = some r) : slices_EqualFunc_api_Player_api_Player_api_Player_api_Player_state_samePlayer_C a0 a1 r := by
 refine PCall.bo I0_stable Tryz.func67 rfl Tryz.ntmps67 [.tmp 6] fun _ _ _ _ => ?_
 unfold slices_EqualFunc_api_Player_api_Player_api_Player_api_Player_state_samePlayer at h
 refine Gg [.a] (u [] []) (aN) <| hS <| Gg (nA 5) (u [] [(14,vB ((a0.length : Int) != (a1.length : Int)))]) (aN) <| iC h (fun h => ?_) (fun h => ?_)
 · exact Rg [.a] (sl 32 [(6,vB false)] []) (aN) <| hR <| Tr <| bQ _ (kB h)
 refine hK <| Tn <| Sj (X := Unit) (fun v => (sl 32 [] [])) (fun v => slices_EqualFunc_api_Player_api_Player_api_Player_api_Player_state_samePlayer_J2 = some r) ?_ ?_
 · refine Gg (nA 3) (u [0,14] [(15,vL encSPlayer a0),(16,vI (a0.length : Int)),(17,vI (0 : Int))]) (aN) <| hB ?_
   obtain ⟨m2,q1,h⟩ := bS h
   refine Gi (fun (v : Int) => (u [] [(17,vI v)])) q1 (wT) ?_
   rintro j0 k2 i0 y0
   replace i0 : slices_EqualFunc_api_Player_api_Player_api_Player_api_Player_state_samePlayer_B5 a0 a1 j0 = some k2 := i0
   unfold slices_EqualFunc_api_Player_api_Player_api_Player_api_Player_state_samePlayer_B5 at i0
   refine Gg [.a] (u [] [(18,vB (decide (j0 < (a0.length : Int))))]) (aN) <| hS <| iC i0 (fun i0 => ?_) (fun i0 => ?_)
   · refine hK <| Tn <| hS <| hB ?_
     obtain ⟨e7,z0,i0⟩ := bS i0
     refine Gg [.a,.a,(.v (vA encSPlayer e7)),.a,.a,.a] (uo [18] [(7,vI j0),(8,vP [8] (0))] [.e (bx [8] (encSPlayer e7))]) (aC (idx_b z0) <| aC (eld z0 lenSPlayer 0 14 true (vA encSPlayer e7)) <| aC (Eq.refl (vA encSPlayer e7)) <| aN) ?_
     obtain ⟨e8,d1,i0⟩ := bS i0
     refine Gg [.a,.a,.a,(.v (vA encSPlayer e8)),.a,.a] (uo [7] [(9,vP [9] (0))] [.e (bx [9] (encSPlayer e8)),.k 0]) (aC (idx_b d1) <| aC (eld d1 lenSPlayer 0 14 true (vA encSPlayer e8)) <| aC (Eq.refl (vA encSPlayer e8)) <| aN) <| hS <| hO <| Rp 3 (nA 3) (sl 32 [(1,vL encSPlayer a1),(2,.c (.fn 36)),(8,vP [8] (0)),(9,vP [9] (0)),(15,vL encSPlayer a0),(16,vI (a0.length : Int)),(17,vI j0),(26,.c (.fn 36)),(27,vA encSPlayer e7),(28,vA encSPlayer e8)] [bx [9] (encSPlayer e8),bx [8] (encSPlayer e7)]) (aN) <| rI rfl rfl <| Ei 29 [vA encSPlayer e7,vA encSPlayer e8] [] Tryz.func36 Tryz.ntmps36 [.tmp 4] rfl rfl rfl rfl fun _ _ _ _ => Gg (nA 3) (uo [0,1] [(2,vP [2,29] (0)),(3,vP [3,29] (0))] [.e (bx [3,29] (encSPlayer e8)),.e (bx [2,29] (encSPlayer e7)),.k 0,.k 1]) (aN) ?_
     obtain ⟨b9,z1,k0,i1,m0,j1,n0,k1,i0⟩ := bS4 i0
     obtain ⟨o0,m1,d2,t1,p0,n1,i2,x1,i0⟩ := bS4 i0
     obtain ⟨q0,o1,j2,y1,t0,p1,i0⟩ := bS3 i0
     refine Gg [.a,.a,.a,.a,.a,.a,.a,.a,.a,.a,.a,(.v (vB b9)),.a,.a,.a,.a,.a,.a,(.v (vB k0)),.a,.a,.a,.a,.a,(.v (vB (e7.Pool == e8.Pool))),(.v (vB m0)),.a,.a,.a,.a,.a,.a,(.v (vB n0)),.a,.a,.a,.a,.a,.a,(.v (vB o0)),.a,.a,.a,.a,.a,(.c (vB d2)),(.v (vB p0)),.a,.a,.a,.a,.a,(.c (vB i2)),(.v (vB q0)),.a,.a,.a,.a,.a,(.c (vB j2)),(.v (vB t0)),.a] (uo [2,3] [(4,vB t0)] [.k 2,.k 3]) (aG ((e7.Life == e8.Life) == true) <| aG ((e7.Life == e8.Life) == true) <| aH ((e7.Life == e8.Life) == true) <| aT (e7.Life == e8.Life) <| aB z1 <| aG (b9 == true) <| aG (b9 == true) <| aH (b9 == true) <| aT b9 <| aB i1 <| aG (k0 == true) <| aG (k0 == true) <| aC (fun hg : (k0 == true) = true => aC (gi (k0 == true)) <| aC (gi (k0 == true)) <| aC (congrArg (fun z => V.c (.bool (z))) (eqT40 e7.Pool e8.Pool)) <| aN) <| aT k0 <| aB j1 <| aG (m0 == true) <| aG (m0 == true) <| aC (fun hg : (m0 == true) = true => aC (gi (m0 == true)) <| aC (gi (m0 == true)) <| aC isb4 <| aN) <| aT m0 <| aB k1 <| aG (n0 == true) <| aG (n0 == true) <| aC (fun hg : (n0 == true) = true => aC (gi (n0 == true)) <| aC (gi (n0 == true)) <| aC isb4 <| aN) <| aT n0 <| aB m1 <| aG (o0 == true) <| aG (o0 == true) <| aC (c2 t1 slices_Equal_int_int_ok) <| aT o0 <| aB n1 <| aG (p0 == true) <| aG (p0 == true) <| aC (c2 x1 slices_Equal_int_int_ok) <| aT p0 <| aB o1 <| aG (q0 == true) <| aG (q0 == true) <| aC (c2 y1 slices_Equal_int_int_ok) <| aT q0 <| aB p1 <| aN) <| hR <| nR (vB t0) <| Gw [.a] (u [] [(30,vB (!t0))]) (aN) <| Tn <| iC i0 (fun i0 => ?_) (fun i0 => ?_)
     · refine Rg [.a] (sl 32 [(6,vB false)] []) (aN) <| hR <| qR <| Tr ?_
       obtain rfl := y0 _ (sI i0).symm
       replace h := sumR h
       exact Tr <| qR <| Tr <| bQ _ (kB h)
     refine hK <| qN <| Tn <| Ge [.a,.a] (u [] [(17,vI (wrap64 (j0 + (1 : Int)))),(31,vI (wrap64 (j0 + (1 : Int))))]) (aN) <| Tn ⟨(wrap64 (j0 + (1 : Int))),(sI i0).symm,wT⟩
   refine hE <| Te ?_
   obtain rfl := y0 _ (sI i0).symm
   replace h := sumL h
   refine Te <| qX <| Tn ⟨(),h,wT⟩
 rintro _ x0
 replace x0 : slices_EqualFunc_api_Player_api_Player_api_Player_api_Player_state_samePlayer_J2 = some r := x0
 unfold slices_EqualFunc_api_Player_api_Player_api_Player_api_Player_state_samePlayer_J2 at x0
 exact Rg [.a] (sl 32 [(6,vB true)] []) (aN) <| hR <| bQ _ (kB x0)
/-- cardgame/state.each[cardgame/api.Object] -/
def state_each_api_Object_state_equal_api_Object (a0 : List (SObject)) (a1 : List (SObject)) : Option (Bool) :=
 (slices_EqualFunc_api_Object_api_Object_api_Object_api_Object_state_equal_api_Object a0 a1).bind fun r1 =>
 some r1
def state_each_api_Object_state_equal_api_Object_C (a0 : List (SObject)) (a1 : List (SObject)) (r : Bool) : Prop := PCall Tryz.prog I0 37 [vL encSObject a0, vL encSObject a1, .c (.fn 38)] (· = vB r)
theorem state_each_api_Object_state_equal_api_Object_ok {a0 : List (SObject)} {a1 : List (SObject)} {r : Bool} (h : state_each_api_Object_state_equal_api_Object a0 a1 = some r) : state_each_api_Object_state_equal_api_Object_C a0 a1 r := by
 refine PCall.bo I0_stable Tryz.func37 rfl Tryz.ntmps37 [.tmp 6] fun _ _ _ _ => ?_
 unfold state_each_api_Object_state_equal_api_Object at h
 refine Gg [.a] (u [] []) (aN) ?_
 obtain ⟨r1,i0,h⟩ := bS h
 exact Rg [.a,.a,.a,(.c (vB r1)),.a] (sl 11 [(6,vB r1)] []) (aC (slices_EqualFunc_api_Object_api_Object_api_Object_api_Object_state_equal_api_Object_ok i0) <| aN) <| hR <| bQ _ (kB h)
/-- cardgame/state.each[cardgame/api.Item] -/
def state_each_api_Item_state_sameItem (a0 : List (SItem)) (a1 : List (SItem)) : Option (Bool) :=
 (slices_EqualFunc_api_Item_api_Item_api_Item_api_Item_state_sameItem a0 a1).bind fun r1 =>
 some r1
def state_each_api_Item_state_sameItem_C (a0 : List (SItem)) (a1 : List (SItem)) (r : Bool) : Prop := PCall Tryz.prog I0 39 [vL encSItem a0, vL encSItem a1, .c (.fn 40)] (· = vB r)
theorem state_each_api_Item_state_sameItem_ok {a0 : List (SItem)} {a1 : List (SItem)} {r : Bool} (h : state_each_api_Item_state_sameItem a0 a1 = some r) : state_each_api_Item_state_sameItem_C a0 a1 r := by
 refine PCall.bo I0_stable Tryz.func39 rfl Tryz.ntmps39 [.tmp 6] fun _ _ _ _ => ?_
 unfold state_each_api_Item_state_sameItem at h
 refine Gg [.a] (u [] []) (aN) ?_
 obtain ⟨r1,i0,h⟩ := bS h
 exact Rg [.a,.a,.a,(.c (vB r1)),.a] (sl 11 [(6,vB r1)] []) (aC (slices_EqualFunc_api_Item_api_Item_api_Item_api_Item_state_sameItem_ok i0) <| aN) <| hR <| bQ _ (kB h)
/-- cardgame/state.each[cardgame/api.Waiting] -/
def state_each_api_Waiting_state_sameWaiting (a0 : List (SWaiting)) (a1 : List (SWaiting)) : Option (Bool) :=
 (slices_EqualFunc_api_Waiting_api_Waiting_api_Waiting_api_Waiting_state_sameWaiting a0 a1).bind fun r1 =>
 some r1
def state_each_api_Waiting_state_sameWaiting_C (a0 : List (SWaiting)) (a1 : List (SWaiting)) (r : Bool) : Prop := PCall Tryz.prog I0 41 [vL encSWaiting a0, vL encSWaiting a1, .c (.fn 42)] (· = vB r)
theorem state_each_api_Waiting_state_sameWaiting_ok {a0 : List (SWaiting)} {a1 : List (SWaiting)} {r : Bool} (h : state_each_api_Waiting_state_sameWaiting a0 a1 = some r) : state_each_api_Waiting_state_sameWaiting_C a0 a1 r := by
 refine PCall.bo I0_stable Tryz.func41 rfl Tryz.ntmps41 [.tmp 6] fun _ _ _ _ => ?_
 unfold state_each_api_Waiting_state_sameWaiting at h
 refine Gg [.a] (u [] []) (aN) ?_
 obtain ⟨r1,i0,h⟩ := bS h
 exact Rg [.a,.a,.a,(.c (vB r1)),.a] (sl 11 [(6,vB r1)] []) (aC (slices_EqualFunc_api_Waiting_api_Waiting_api_Waiting_api_Waiting_state_sameWaiting_ok i0) <| aN) <| hR <| bQ _ (kB h)
/-- cardgame/state.each[cardgame/api.Mod] -/
def state_each_api_Mod_state_equal_api_Mod (a0 : List (SMod)) (a1 : List (SMod)) : Option (Bool) :=
 (slices_EqualFunc_api_Mod_api_Mod_api_Mod_api_Mod_state_equal_api_Mod a0 a1).bind fun r1 =>
 some r1
def state_each_api_Mod_state_equal_api_Mod_C (a0 : List (SMod)) (a1 : List (SMod)) (r : Bool) : Prop := PCall Tryz.prog I0 74 [vL encSMod a0, vL encSMod a1, .c (.fn 75)] (· = vB r)
theorem state_each_api_Mod_state_equal_api_Mod_ok {a0 : List (SMod)} {a1 : List (SMod)} {r : Bool} (h : state_each_api_Mod_state_equal_api_Mod a0 a1 = some r) : state_each_api_Mod_state_equal_api_Mod_C a0 a1 r := by
 refine PCall.bo I0_stable Tryz.func74 rfl Tryz.ntmps74 [.tmp 6] fun _ _ _ _ => ?_
 unfold state_each_api_Mod_state_equal_api_Mod at h
 refine Gg [.a] (u [] []) (aN) ?_
 obtain ⟨r1,i0,h⟩ := bS h
 exact Rg [.a,.a,.a,(.c (vB r1)),.a] (sl 11 [(6,vB r1)] []) (aC (slices_EqualFunc_api_Mod_api_Mod_api_Mod_api_Mod_state_equal_api_Mod_ok i0) <| aN) <| hR <| bQ _ (kB h)
end Go.PL
