/- Functions of the program, as partial functions in Lean, with proofs. -/
import Derived.Test.YtcmdlelhdimnfaaGreatDoorPlAcB
import Derived.Test.YtcmdlelhdimnfaaGreatDoorPlAcF0
import Derived.Test.YtcmdlelhdimnfaaGreatDoorPlAcF1
namespace Go.PL
open Go Go.RowKit Go.Proofs
set_option maxRecDepth 100000
set_option linter.all false
set_option maxHeartbeats 4000000
attribute [local irreducible] Holds thenQ blockQ
def state_objects_J1 (a1 : SState) : Option (Bool) :=
 some (decide ((a1.Objects.length : Int) ≤ (2048 : Int)))
def state_objects_B6 (a0 : List (SCard)) (a1 : SState) (last_t5_4 : Int) (vt11_5 : Int) : Option ((Int × Int) ⊕ (Unit ⊕ Unit)) :=
 (if (decide (vt11_5 < (a1.Objects.length : Int))) = true then
  (idx a1.Objects vt11_5).bind fun e8 =>
  (some (if (decide (e8.Id ≤ last_t5_4)) = true then true else decide (a1.NextId ≤ e8.Id))).bind fun b9 =>
  (some (if b9 = true then true else decide (a1.NextStamp ≤ e8.Stamp))).bind fun b10 =>
  (gd (b10 == false) (object_Is e8 (a0.length : Int) (a1.Players.length : Int))).bind fun r11 =>
  (some (if b10 = true then true else !r11)).bind fun b12 =>
  (if b12 = true then
   some (.inr (.inr ()))
  else
   some (.inl (e8.Id, (wrap64 (vt11_5 + (1 : Int))))))
 else
  some (.inr (.inl ())))
/-- cardgame/state.objects -/
def state_objects (a0 : List (SCard)) (a1 : SState) : Option (Bool) :=
 (iter (fun (v : Int × Int) => state_objects_B6 a0 a1 v.1 v.2) FU ((0 : Int), (0 : Int))).bind (Sum.elim (fun o0 => state_objects_J1 a1) (fun o1 => some false))
def state_objects_C (a0 : List (SCard)) (a1 : SState) (r : Bool) : Prop := PCall Tryz.prog I0 27 [vL encSCard a0, vA encSState a1] (· = vB r)
theorem state_objects_ok {a0 : List (SCard)} {a1 : SState} {r : Bool} (h : state_objects a0 a1 = some r) : state_objects_C a0 a1 r := by
 refine PCall.bo I0_stable Tryz.func27 rfl Tryz.ntmps27 [.tmp 4] fun _ _ _ _ => ?_
 unfold state_objects at h
 refine Gg [.a,.a] (uo [1] [(3,vP [3] (0))] [.e (bx [3] (encSState a1))]) (aN) <| Gg [.a] (u [] [(5,vI (0 : Int))]) (aN) <| Gj (X := Unit) (fun v => (u [0,5] [])) (fun v => state_objects_J1 a1 = some r) ?_ ?_
 · refine Gg (nA 4) (u [] [(9,vL encSObject a1.Objects),(10,vI (a1.Objects.length : Int)),(11,vI (0 : Int))]) (aN) <| hB ?_
   obtain ⟨k1,y0,h⟩ := bS h
   refine Gi (fun (v : Int × Int) => (u [] [(5,vI v.1),(11,vI v.2)])) y0 (wT) ?_
   rintro ⟨j0,k0⟩ j1 i0 p0
   replace i0 : state_objects_B6 a0 a1 j0 k0 = some j1 := i0
   unfold state_objects_B6 at i0
   refine Gg [.a] (u [] [(12,vB (decide (k0 < (a1.Objects.length : Int))))]) (aN) <| hS <| iC i0 (fun i0 => ?_) (fun i0 => ?_)
   · refine hK <| Tn <| hS <| hB ?_
     obtain ⟨e8,q0,i0⟩ := bS i0
     refine Gg [.a,(.v (vA encSObject e8)),.a,.a] (uo [12] [(7,vP [7] (0))] [.e (bx [7] (encSObject e8)),.k 0]) (aC (idx_b q0) <| aC (eld q0 lenSObject 0 19 true (vA encSObject e8)) <| aC (Eq.refl (vA encSObject e8)) <| aN) <| hS ?_
     obtain ⟨b9,d1,m0,t0,i1,z0,n0,x0,i0⟩ := bS4 i0
     refine Gg [.a,.a,.a,.a,.a,.a,.a,.a,.a,.a,(.v (vB b9)),.a,.a,.a,.a,.a,.a,(.v (vB m0)),.a,.a,.a,.a,.a,.a,.a,(.c (vB i1)),.a,(.v (vB n0))] (u [5] [(42,vB n0)]) (aG ((decide (e8.Id ≤ j0)) == false) <| aG ((decide (e8.Id ≤ j0)) == false) <| aH ((decide (e8.Id ≤ j0)) == false) <| aF (decide (e8.Id ≤ j0)) <| aB d1 <| aG (b9 == false) <| aG (b9 == false) <| aH (b9 == false) <| aF b9 <| aB t0 <| aG (m0 == false) <| aG (m0 == false) <| aG (m0 == false) <| aC (c3 z0 object_Is_ok) <| aG (m0 == false) <| aF m0 <| aB x0 <| aN) <| iC i0 (fun i0 => ?_) (fun i0 => ?_)
     · refine Rg [.a] (sl 50 [(4,vB false)] []) (aN) <| hR <| Tr <| qR <| Tr ?_
       obtain rfl := p0 _ (sI i0).symm
       replace h := sumR h
       exact Tr <| qR <| Tr <| bQ _ (kB h)
     refine hK <| Tn <| Re (nA 3) (sl 50 [(0,vL encSCard a0),(3,vP [3] (0)),(5,vI e8.Id),(7,vP [7] (0)),(9,vL encSObject a1.Objects),(10,vI (a1.Objects.length : Int)),(11,vI k0),(42,vB n0),(43,vP [7] (0)),(44,vI e8.Id)] [bx [7] (encSObject e8),bx [3] (encSState a1)]) (aN) <| qN <| Tn <| Re [.a,.a] (sl 50 [(0,vL encSCard a0),(3,vP [3] (0)),(5,vI e8.Id),(7,vP [7] (0)),(9,vL encSObject a1.Objects),(10,vI (a1.Objects.length : Int)),(11,vI (wrap64 (k0 + (1 : Int)))),(42,vB n0),(43,vP [7] (0)),(44,vI e8.Id),(45,vI (wrap64 (k0 + (1 : Int))))] [bx [7] (encSObject e8),bx [3] (encSState a1)]) (aN) <| Tn ⟨(e8.Id,(wrap64 (k0 + (1 : Int)))),(sI i0).symm,wT⟩
   refine hE <| Te ?_
   obtain rfl := p0 _ (sI i0).symm
   replace h := sumL h
   refine Te <| qX <| Tn ⟨(),h,wT⟩
 rintro _ o0
 replace o0 : state_objects_J1 a1 = some r := o0
 unfold state_objects_J1 at o0
 exact Rg (nA 5) (sl 50 [(4,vB (decide ((a1.Objects.length : Int) ≤ (2048 : Int))))] []) (aN) <| hR <| bQ _ (kB o0)
def slices_BinarySearchFunc_api_Object_api_Object_int_state_zonefind_1_J5 (a0 : List (SObject)) (i_t9_1 : Int) (q4 : Int) : Option (Int × Bool) :=
 (some (if (decide (i_t9_1 < (a0.length : Int))) = true then q4 == (0 : Int) else false)).bind fun b6 =>
 some (i_t9_1, b6)
def slices_BinarySearchFunc_api_Object_api_Object_int_state_zonefind_1_J2 (a0 : List (SObject)) (a1 : Int) (i_t9_1 : Int) : Option (Int × Bool) :=
 (gd ((decide (i_t9_1 < (a0.length : Int))) == true) (idx a0 i_t9_1)).bind fun e3 =>
 (if ((decide (i_t9_1 < (a0.length : Int))) == true) = true then
  (cmp_Compare_int e3.Id a1).bind fun r7 =>
  slices_BinarySearchFunc_api_Object_api_Object_int_state_zonefind_1_J5 a0 i_t9_1 r7
 else
  slices_BinarySearchFunc_api_Object_api_Object_int_state_zonefind_1_J5 a0 i_t9_1 (0 : Int))
def slices_BinarySearchFunc_api_Object_api_Object_int_state_zonefind_1_B13 (a0 : List (SObject)) (a1 : Int) (i_t9_10 : Int) (j_t10_11 : Int) : Option ((Int × Int) ⊕ (Int)) :=
 (if (decide (i_t9_10 < j_t10_11)) = true then
  (idx a0 (wrap64 (Int.fdiv (IntKind.u64.wrap (wrap64 (i_t9_10 + j_t10_11))) (2 ^ (min ((1 : Int)).toNat (IntKind.u64).bits))))).bind fun e15 =>
  (cmp_Compare_int e15.Id a1).bind fun r16 =>
  (if (decide (r16 < (0 : Int))) = true then
   some (.inl ((wrap64 ((wrap64 (Int.fdiv (IntKind.u64.wrap (wrap64 (i_t9_10 + j_t10_11))) (2 ^ (min ((1 : Int)).toNat (IntKind.u64).bits)))) + (1 : Int))), j_t10_11))
  else
   some (.inl (i_t9_10, (wrap64 (Int.fdiv (IntKind.u64.wrap (wrap64 (i_t9_10 + j_t10_11))) (2 ^ (min ((1 : Int)).toNat (IntKind.u64).bits)))))))
 else
  some (.inr i_t9_10))
/-- slices.BinarySearchFunc[[]cardgame/api.Object,cardgame/api.Object,int] -/
def slices_BinarySearchFunc_api_Object_api_Object_int_state_zonefind_1 (a0 : List (SObject)) (a1 : Int) : Option (Int × Bool) :=
 (iter (fun (v : Int × Int) => slices_BinarySearchFunc_api_Object_api_Object_int_state_zonefind_1_B13 a0 a1 v.1 v.2) FU ((0 : Int), (a0.length : Int))).bind (fun o0 => slices_BinarySearchFunc_api_Object_api_Object_int_state_zonefind_1_J2 a0 a1 o0)
def slices_BinarySearchFunc_api_Object_api_Object_int_state_zonefind_1_C (a0 : List (SObject)) (a1 : Int) (r : Int × Bool) : Prop := PCall Tryz.prog I0 86 [vL encSObject a0, vI a1, .c (.fn 87)] (· = .tup [vI r.1, vB r.2])
theorem slices_BinarySearchFunc_api_Object_api_Object_int_state_zonefind_1_ok {a0 : List (SObject)} {a1 : Int} {r : Int × Bool} (h : slices_BinarySearchFunc_api_Object_api_Object_int_state_zonefind_1 a0 a1 = some r) : slices_BinarySearchFunc_api_Object_api_Object_int_state_zonefind_1_C a0 a1 r := by
 refine PCall.bo I0_stable Tryz.func86 rfl Tryz.ntmps86 [.tmp 6, .tmp 7] fun _ _ _ _ => ?_
 unfold slices_BinarySearchFunc_api_Object_api_Object_int_state_zonefind_1 at h
 refine Gg [.a,.a] (u [] []) (aN) <| Gg (nA 3) (u [] [(8,vI (a0.length : Int))]) (aN) <| Gg (nA 3) (u [] [(9,vI (0 : Int)),(10,vI (a0.length : Int))]) (aN) <| Gj (X := Int) (fun v => (u [10] [(9,vI v)])) (fun v => slices_BinarySearchFunc_api_Object_api_Object_int_state_zonefind_1_J2 a0 a1 v = some r) ?_ ?_
 · refine hB ?_
   obtain ⟨n1,y0,h⟩ := bS h
   refine Gi (fun (v : Int × Int) => (u [] [(9,vI v.1),(10,vI v.2)])) y0 (wT) ?_
   rintro ⟨k0,j0⟩ j1 m0 z0
   replace m0 : slices_BinarySearchFunc_api_Object_api_Object_int_state_zonefind_1_B13 a0 a1 k0 j0 = some j1 := m0
   unfold slices_BinarySearchFunc_api_Object_api_Object_int_state_zonefind_1_B13 at m0
   refine hS <| Gg (nA 3) (u [] [(17,vB (decide (k0 < j0)))]) (aN) <| iC m0 (fun m0 => ?_) (fun m0 => ?_)
   · refine hK <| Tn <| hB <| Gg (nA 7) (u [17] [(11,vI (wrap64 (Int.fdiv (IntKind.u64.wrap (wrap64 (k0 + j0))) (2 ^ (min ((1 : Int)).toNat (IntKind.u64).bits)))))]) (aC (show 0 ≤ (1 : Int) from (by decide)) <| aN) <| hS <| hO ?_
     obtain ⟨p0,x0,m0⟩ := bS m0
     refine Gp 6 [.a,.a,.a,.a,(.v (vA encSObject p0)),.a] (u [] [(24,.c (.fn 87)),(25,vL encSObject a0),(26,vI (wrap64 (Int.fdiv (IntKind.u64.wrap (wrap64 (k0 + j0))) (2 ^ (min ((1 : Int)).toNat (IntKind.u64).bits))))),(27,vX encSObject a0 ((wrap64 (Int.fdiv (IntKind.u64.wrap (wrap64 (k0 + j0))) (2 ^ (min ((1 : Int)).toNat (IntKind.u64).bits)))).toNat * 19)),(28,vA encSObject p0),(29,vI a1)]) (aC (idx_b x0) <| aC (eld x0 lenSObject 0 19 true (vA encSObject p0)) <| aC (Eq.refl (vA encSObject p0)) <| aN) <| rI rfl rfl <| Ei 30 [vA encSObject p0,vI a1] [] Tryz.func87 Tryz.ntmps87 [.tmp 4] rfl rfl rfl rfl fun _ _ _ _ => Rg [.a,.a] (sg 9 [(1,vI a1),(2,vP [2,30] (0))] [bx [2,30] (encSObject p0)] 49 [(0,vL encSObject a0),(1,vI a1),(2,.c (.fn 87)),(8,vI (a0.length : Int)),(9,vI k0),(10,vI j0),(11,vI (wrap64 (Int.fdiv (IntKind.u64.wrap (wrap64 (k0 + j0))) (2 ^ (min ((1 : Int)).toNat (IntKind.u64).bits))))),(24,.c (.fn 87)),(25,vL encSObject a0),(26,vI (wrap64 (Int.fdiv (IntKind.u64.wrap (wrap64 (k0 + j0))) (2 ^ (min ((1 : Int)).toNat (IntKind.u64).bits))))),(27,vX encSObject a0 ((wrap64 (Int.fdiv (IntKind.u64.wrap (wrap64 (k0 + j0))) (2 ^ (min ((1 : Int)).toNat (IntKind.u64).bits)))).toNat * 19)),(28,vA encSObject p0),(29,vI a1)] [30]) (aN) ?_
     obtain ⟨t0,i1,m0⟩ := bS m0
     refine Gg [.a,.a,.a,(.c (vI t0)),.a] (uo [1,2] [(4,vI t0)] []) (aC (cmp_Compare_int_ok i1) <| aN) <| hR <| nR (vI t0) <| Gw [.a] (u [] [(31,vB (decide (t0 < (0 : Int))))]) (aN) <| Tn <| iC m0 (fun m0 => ?_) (fun m0 => ?_)
     · refine Ge (nA 3) (u [] [(9,vI (wrap64 ((wrap64 (Int.fdiv (IntKind.u64.wrap (wrap64 (k0 + j0))) (2 ^ (min ((1 : Int)).toNat (IntKind.u64).bits)))) + (1 : Int)))),(32,vI (wrap64 (Int.fdiv (IntKind.u64.wrap (wrap64 (k0 + j0))) (2 ^ (min ((1 : Int)).toNat (IntKind.u64).bits))))),(33,vI (wrap64 ((wrap64 (Int.fdiv (IntKind.u64.wrap (wrap64 (k0 + j0))) (2 ^ (min ((1 : Int)).toNat (IntKind.u64).bits)))) + (1 : Int))))]) (aN) <| qN <| Tn ⟨((wrap64 ((wrap64 (Int.fdiv (IntKind.u64.wrap (wrap64 (k0 + j0))) (2 ^ (min ((1 : Int)).toNat (IntKind.u64).bits)))) + (1 : Int))),j0),(sI m0).symm,wT⟩
     refine Ge [.a,.a] (u [] [(10,vI (wrap64 (Int.fdiv (IntKind.u64.wrap (wrap64 (k0 + j0))) (2 ^ (min ((1 : Int)).toNat (IntKind.u64).bits))))),(34,vI (wrap64 (Int.fdiv (IntKind.u64.wrap (wrap64 (k0 + j0))) (2 ^ (min ((1 : Int)).toNat (IntKind.u64).bits)))))]) (aN) <| qN <| Tn ⟨(k0,(wrap64 (Int.fdiv (IntKind.u64.wrap (wrap64 (k0 + j0))) (2 ^ (min ((1 : Int)).toNat (IntKind.u64).bits))))),(sI m0).symm,wT⟩
   refine hE <| Te ?_
   obtain rfl := z0 _ (sI m0).symm
   refine Te <| qX <| Tn ⟨k0,h,wT⟩
 rintro i0 n0
 replace n0 : slices_BinarySearchFunc_api_Object_api_Object_int_state_zonefind_1_J2 a0 a1 i0 = some r := n0
 unfold slices_BinarySearchFunc_api_Object_api_Object_int_state_zonefind_1_J2 at n0
 refine hS <| hO ?_
 obtain ⟨e3,d1,n0⟩ := bS n0
 refine Gp 11 [.a,.a,.a,.a,.a,.a,.a,.a,.a,(.v (vA encSObject e3)),.a] (u [] [(35,vI i0),(36,vI i0),(37,vI (a0.length : Int)),(38,vB (decide (i0 < (a0.length : Int)))),(39,vB (decide (i0 < (a0.length : Int)))),(40,.g ((decide (i0 < (a0.length : Int))) == true) (.c (.fn 87))),(41,.g ((decide (i0 < (a0.length : Int))) == true) (vL encSObject a0)),(42,.g ((decide (i0 < (a0.length : Int))) == true) (vI i0)),(43,.g ((decide (i0 < (a0.length : Int))) == true) (vX encSObject a0 ((i0).toNat * 19))),(44,.g ((decide (i0 < (a0.length : Int))) == true) (vA encSObject e3)),(45,.g ((decide (i0 < (a0.length : Int))) == true) (vI a1))]) (aC (fun hg : ((decide (i0 < (a0.length : Int))) == true) = true => aC (gi ((decide (i0 < (a0.length : Int))) == true)) <| aC (gi ((decide (i0 < (a0.length : Int))) == true)) <| aC (gidx_b d1 hg).1 <| aN) <| aC (fun hg : ((decide (i0 < (a0.length : Int))) == true) = true => aC (gi ((decide (i0 < (a0.length : Int))) == true)) <| aC (eld (gd_t d1 hg) lenSObject 0 19 true (vA encSObject e3)) <| aC (Eq.refl (vA encSObject e3)) <| aN) <| aN) <| Ng (X := Int) (g := ((decide (i0 < (a0.length : Int))) == true)) (fun v => (u [0,1,2,8,9,36,37,38,40,41,42,43,44,45] [(46,.g ((decide (i0 < (a0.length : Int))) == true) (vI v))])) (fun v => slices_BinarySearchFunc_api_Object_api_Object_int_state_zonefind_1_J5 a0 i0 v = some r) 46 rfl rfl rfl (fun o0 => ?_) (fun o0 => ?_) ?_
 · replace n0 := iT n0 o0
   refine Esc.ung (x := .c (.fn 87)) 40 o0 <| Esc.ung (x := vA encSObject e3) 44 o0 <| Esc.ung (x := vI a1) 45 o0 <| Ei 46 [vA encSObject e3,vI a1] [] Tryz.func87 Tryz.ntmps87 [.tmp 4] rfl rfl rfl rfl fun _ _ _ _ => Rg [.a,.a] (sg 9 [(1,vI a1),(2,vP [2,46] (0))] [bx [2,46] (encSObject e3)] 49 [(0,vL encSObject a0),(1,vI a1),(2,.c (.fn 87)),(8,vI (a0.length : Int)),(9,vI i0),(35,vI i0),(36,vI i0),(37,vI (a0.length : Int)),(38,vB (decide (i0 < (a0.length : Int)))),(39,vB (decide (i0 < (a0.length : Int)))),(40,.c (.fn 87)),(41,.g ((decide (i0 < (a0.length : Int))) == true) (vL encSObject a0)),(42,.g ((decide (i0 < (a0.length : Int))) == true) (vI i0)),(43,.g ((decide (i0 < (a0.length : Int))) == true) (vX encSObject a0 ((i0).toNat * 19))),(44,vA encSObject e3),(45,vI a1)] [46]) (aN) ?_
   obtain ⟨r7,m1,n0⟩ := bS n0
   refine Gg [.a,.a,.a,(.c (vI r7)),.a] (uo [1,2] [(4,vI r7)] []) (aC (cmp_Compare_int_ok m1) <| aN) <| hR <| nR (vI r7) ⟨r7,n0,lT⟩
 · replace n0 := iF n0 o0
   exact ⟨(0 : Int),vI (0 : Int),n0,lT⟩
 rintro q4 q0
 replace q0 : slices_BinarySearchFunc_api_Object_api_Object_int_state_zonefind_1_J5 a0 i0 q4 = some r := q0
 unfold slices_BinarySearchFunc_api_Object_api_Object_int_state_zonefind_1_J5 at q0
 obtain ⟨b6,k1,q0⟩ := bS q0
 exact Gw [.a,(.v (vB b6)),.a,.a] (u [] [(6,vI i0),(7,vB b6),(47,.g ((decide (i0 < (a0.length : Int))) == true) (vB (q4 == (0 : Int)))),(48,vB b6)]) (aG ((decide (i0 < (a0.length : Int))) == true) <| aT (decide (i0 < (a0.length : Int))) <| aB k1 <| aN) <| Tn <| hR <| bQ (.tup [vI i0,vB b6]) (congrArg (fun (q : Int × Bool) => (.tup [vI q.1,vB q.2] : V)) (sI q0))
def base_Printed_J3 (a0 : SCard) (r1 : Int) (r2 : (List (List UInt8))) : Option (STraits) :=
 some (⟨a0.Name, a0.Cost, bOr .i64 r1 a0.Color, { a0.Line with Subs := r2 }, a0.Power, a0.Tough, a0.Keys, ([] : List (SAbility)), (0 : Int)⟩ : STraits)
def base_Printed_B4 (a0 : SCard) : Option ((Unit) ⊕ (Unit)) :=
 (if (decide ((0 : Int) < (a0.Abilities.length : Int))) = true then
  (idx a0.Abilities (0 : Int)).bind fun e6 =>
  none
 else
  some (.inr ()))
/-- cardgame/base.Printed -/
def base_Printed (a0 : SCard) : Option (STraits) :=
 (mana_Colors a0.Cost).bind fun r1 =>
 (slices_Clone_string_string a0.Line.Subs).bind fun r2 =>
 (iter (fun (v : Unit) => base_Printed_B4 a0) FU ()).bind (fun o0 => base_Printed_J3 a0 r1 r2)
def base_Printed_C (a0 : SCard) (r : STraits) : Prop := PCall Tryz.prog I0 142 [vA encSCard a0] (· = vA encSTraits r)
theorem base_Printed_ok {a0 : SCard} {r : STraits} (h : base_Printed a0 = some r) : base_Printed_C a0 r := by
 refine PCall.bo I0_stable Tryz.func142 rfl Tryz.ntmps142 [.cell 2 111] fun _ _ _ _ => ?_
 unfold base_Printed at h
 refine Rg [.a,.a] (sl 47 [(1,vP [1] (0)),(2,vP [2] (0))] [bx [2] [.str ([]),.int .i64 (0 : Int),.int .i64 (0 : Int),.int .i64 (((⟨(0 : Int),(0 : Int),(0 : Int),(0 : Int),(0 : Int)⟩ : A5 (Int))).x0),.int .i64 (((⟨(0 : Int),(0 : Int),(0 : Int),(0 : Int),(0 : Int)⟩ : A5 (Int))).x1),.int .i64 (((⟨(0 : Int),(0 : Int),(0 : Int),(0 : Int),(0 : Int)⟩ : A5 (Int))).x2),.int .i64 (((⟨(0 : Int),(0 : Int),(0 : Int),(0 : Int),(0 : Int)⟩ : A5 (Int))).x3),.int .i64 (((⟨(0 : Int),(0 : Int),(0 : Int),(0 : Int),(0 : Int)⟩ : A5 (Int))).x4),.int .i64 (0 : Int),.int .i64 (0 : Int),.int .i64 (0 : Int),.nils,.int .i64 (0 : Int),.int .i64 (0 : Int),.int .i64 (0 : Int),.nils,.int .i64 (0 : Int)],bx [1] (encSCard a0)]) (aN) <| hS ?_
 obtain ⟨r1,o0,h⟩ := bS h
 refine Holds.regS followsP [[],[0],[],[2],[],[4],[4,5],[],[7],[4,5,6,7,8],[],[10],[],[12],[],[14],[],[16],[0,1,2,3,4,5,6,7,8,9,10,11,12,13,14,15,16,17],[],[0,1,2,3,4,5,6,7,8,9,10,11,12,13,14,15,16,17,18,19]] [19,20] [[false,false],[true,false],[true,true]] [.a,.a,.a,.a,.a,.a,(.c (vI r1)),.a,.a,.a,.a,.a,.a,.a,.a,.a,.a,.a,.a,.a,.a] [[3],[2],[1]] ⟨slD 47 0 [(1,[],vP [1] (0)),(2,[],vP [2] (0)),(3,[(19,vP [3] (0))],.undef),(6,[(0,vP [1] (0))],.undef),(7,[(1,vS a0.Name)],.undef),(8,[(2,vP [1] (2))],.undef),(9,[(3,vA encSCost a0.Cost)],.undef),(10,[(4,vP [1] (2))],.undef),(11,[(5,vA encSCost a0.Cost)],.undef),(12,[(6,vI r1)],.undef),(13,[(7,vP [1] (9))],.undef),(14,[(8,vI a0.Color)],.undef),(15,[(9,vI (bOr .i64 r1 a0.Color))],.undef),(16,[(10,vP [1] (10))],.undef),(17,[(11,vA encSLine a0.Line)],.undef),(18,[(12,vP [1] (13))],.undef),(19,[(13,vI a0.Power)],.undef),(20,[(14,vP [1] (14))],.undef),(21,[(15,vI a0.Tough)],.undef),(22,[(16,vP [1] (15))],.undef),(23,[(17,vI a0.Keys)],.undef),(24,[(18,.agg [.str a0.Name,.int .i64 ((a0.Cost).Generic),.int .i64 ((a0.Cost).X),.int .i64 (((a0.Cost).Color).x0),.int .i64 (((a0.Cost).Color).x1),.int .i64 (((a0.Cost).Color).x2),.int .i64 (((a0.Cost).Color).x3),.int .i64 (((a0.Cost).Color).x4),.int .i64 (bOr .i64 r1 a0.Color),.int .i64 ((a0.Line).Super),.int .i64 ((a0.Line).Types),.sl ((a0.Line).Subs).length (((a0.Line).Subs).flatMap (eS)),.int .i64 a0.Power,.int .i64 a0.Tough,.int .i64 a0.Keys,.nils,.int .i64 (0 : Int)])],.undef)],[([(19,bx [3] [.str ([]),.int .i64 (0 : Int),.int .i64 (0 : Int),.int .i64 (((⟨(0 : Int),(0 : Int),(0 : Int),(0 : Int),(0 : Int)⟩ : A5 (Int))).x0),.int .i64 (((⟨(0 : Int),(0 : Int),(0 : Int),(0 : Int),(0 : Int)⟩ : A5 (Int))).x1),.int .i64 (((⟨(0 : Int),(0 : Int),(0 : Int),(0 : Int),(0 : Int)⟩ : A5 (Int))).x2),.int .i64 (((⟨(0 : Int),(0 : Int),(0 : Int),(0 : Int),(0 : Int)⟩ : A5 (Int))).x3),.int .i64 (((⟨(0 : Int),(0 : Int),(0 : Int),(0 : Int),(0 : Int)⟩ : A5 (Int))).x4),.int .i64 (0 : Int),.int .i64 (0 : Int),.int .i64 (0 : Int),.nils,.int .i64 (0 : Int),.int .i64 (0 : Int),.int .i64 (0 : Int),.nils,.int .i64 (0 : Int)]),(20,bx [3] [.str a0.Name,.int .i64 ((a0.Cost).Generic),.int .i64 ((a0.Cost).X),.int .i64 (((a0.Cost).Color).x0),.int .i64 (((a0.Cost).Color).x1),.int .i64 (((a0.Cost).Color).x2),.int .i64 (((a0.Cost).Color).x3),.int .i64 (((a0.Cost).Color).x4),.int .i64 (bOr .i64 r1 a0.Color),.int .i64 ((a0.Line).Super),.int .i64 ((a0.Line).Types),.sl ((a0.Line).Subs).length (((a0.Line).Subs).flatMap (eS)),.int .i64 a0.Power,.int .i64 a0.Tough,.int .i64 a0.Keys,.nils,.int .i64 (0 : Int)])],none),([],some (bx [2] [.str ([]),.int .i64 (0 : Int),.int .i64 (0 : Int),.int .i64 (((⟨(0 : Int),(0 : Int),(0 : Int),(0 : Int),(0 : Int)⟩ : A5 (Int))).x0),.int .i64 (((⟨(0 : Int),(0 : Int),(0 : Int),(0 : Int),(0 : Int)⟩ : A5 (Int))).x1),.int .i64 (((⟨(0 : Int),(0 : Int),(0 : Int),(0 : Int),(0 : Int)⟩ : A5 (Int))).x2),.int .i64 (((⟨(0 : Int),(0 : Int),(0 : Int),(0 : Int),(0 : Int)⟩ : A5 (Int))).x3),.int .i64 (((⟨(0 : Int),(0 : Int),(0 : Int),(0 : Int),(0 : Int)⟩ : A5 (Int))).x4),.int .i64 (0 : Int),.int .i64 (0 : Int),.int .i64 (0 : Int),.nils,.int .i64 (0 : Int),.int .i64 (0 : Int),.int .i64 (0 : Int),.nils,.int .i64 (0 : Int)])),([],some (bx [1] (encSCard a0)))],[],[]⟩ _ (bC (aN) <| bC (aN) <| bC (aN) <| bC (aN) <| bC (aN) <| bC (aN) <| bC (aC (mana_Colors_ok o0) <| aN) <| bC (aN) <| bC (aN) <| bC (aN) <| bC (aN) <| bC (aN) <| bC (aN) <| bC (aN) <| bC (aN) <| bC (aN) <| bC (aN) <| bC (aN) <| bC (aC (And.intro (show True ∧ (True ∧ (True ∧ (True ∧ (True ∧ (True ∧ (True ∧ True)))))) from ⟨trivial,⟨trivial,⟨trivial,⟨trivial,⟨trivial,⟨trivial,⟨trivial,trivial⟩⟩⟩⟩⟩⟩⟩) okp111) <| aN) <| bC (aN) <| bC (aN) <| bN) <| Tn <| Gs (u [6,7,8,9,10,11,12,13,14,15,16,17,18,19,20,21,22,23,24] []) ?_
 obtain ⟨r2,p0,h⟩ := bS h
 refine Gg [.a,.a,.a,(.c (vL eS r2)),.a,.a,.a] (uo [] [] [.s 0 [(9,.int .i64 (({ a0.Line with Subs := r2 }).Super)),(10,.int .i64 (({ a0.Line with Subs := r2 }).Types)),(11,.sl (({ a0.Line with Subs := r2 }).Subs).length ((({ a0.Line with Subs := r2 }).Subs).flatMap (eS)))],.k 1,.k 2]) (aC (slices_Clone_string_string_ok p0) <| aN) <| Gj (X := Unit) (fun v => (uo [1] [] [.k 0,.k 1])) (fun v => base_Printed_J3 a0 r1 r2 = some r) ?_ ?_
 · refine Gg (nA 4) (uo [1] [(32,vL encSAbility a0.Abilities),(33,vI (a0.Abilities.length : Int)),(34,vI (0 : Int))] [.k 0,.k 1]) (aN) <| hB ?_
   obtain ⟨t0,m0,h⟩ := bS h
   refine Gi (fun (v : Unit) => (u [] [])) m0 (wT) ?_
   rintro _ q0 i0 n0
   replace i0 : base_Printed_B4 a0 = some q0 := i0
   unfold base_Printed_B4 at i0
   refine Gg [.a] (u [] [(35,vB (decide ((0 : Int) < (a0.Abilities.length : Int))))]) (aN) <| hS <| iC i0 (fun i0 => ?_) (fun i0 => ?_)
   · refine hK <| Tn <| hS <| hB ?_
     obtain ⟨e6,k0,i0⟩ := bS i0
     refine Gg [.a,(.v (vA encSAbility e6)),.a,.a] (uo [35] [(5,vP [5] (0))] [.e (bx [5] (encSAbility e6)),.k 0,.k 1]) (aC (idx_b k0) <| aC (eld k0 lenSAbility 0 72 true (vA encSAbility e6)) <| aC (Eq.refl (vA encSAbility e6)) <| aN) ?_
     cases i0
   refine hE <| Te ?_
   obtain rfl := n0 _ (sI i0).symm
   refine Te <| qX <| Tn ⟨(),h,wT⟩
 rintro _ j0
 replace j0 : base_Printed_J3 a0 r1 r2 = some r := j0
 unfold base_Printed_J3 at j0
 exact Gg [.a,.a] (uo [3] [] [.e (bx [2] [.str a0.Name,.int .i64 ((a0.Cost).Generic),.int .i64 ((a0.Cost).X),.int .i64 (((a0.Cost).Color).x0),.int .i64 (((a0.Cost).Color).x1),.int .i64 (((a0.Cost).Color).x2),.int .i64 (((a0.Cost).Color).x3),.int .i64 (((a0.Cost).Color).x4),.int .i64 (bOr .i64 r1 a0.Color),.int .i64 (({ a0.Line with Subs := r2 }).Super),.int .i64 (({ a0.Line with Subs := r2 }).Types),.sl (({ a0.Line with Subs := r2 }).Subs).length ((({ a0.Line with Subs := r2 }).Subs).flatMap (eS)),.int .i64 a0.Power,.int .i64 a0.Tough,.int .i64 a0.Keys,.nils,.int .i64 (0 : Int)])]) (aN) <| hR <| bE (.agg [.str a0.Name,.int .i64 ((a0.Cost).Generic),.int .i64 ((a0.Cost).X),.int .i64 (((a0.Cost).Color).x0),.int .i64 (((a0.Cost).Color).x1),.int .i64 (((a0.Cost).Color).x2),.int .i64 (((a0.Cost).Color).x3),.int .i64 (((a0.Cost).Color).x4),.int .i64 (bOr .i64 r1 a0.Color),.int .i64 (({ a0.Line with Subs := r2 }).Super),.int .i64 (({ a0.Line with Subs := r2 }).Types),.sl (({ a0.Line with Subs := r2 }).Subs).length ((({ a0.Line with Subs := r2 }).Subs).flatMap (eS)),.int .i64 a0.Power,.int .i64 a0.Tough,.int .i64 a0.Keys,.nils,.int .i64 (0 : Int)]) (.agg (encSTraits (⟨a0.Name,a0.Cost,bOr .i64 r1 a0.Color,{ a0.Line with Subs := r2 },a0.Power,a0.Tough,a0.Keys,([] : List (SAbility)),(0 : Int)⟩ : STraits))) (congrArg (vA encSTraits) (sI j0))
/-- cardgame/state.each[cardgame/api.Player] -/
def state_each_api_Player_state_samePlayer (a0 : List (SPlayer)) (a1 : List (SPlayer)) : Option (Bool) :=
 (slices_EqualFunc_api_Player_api_Player_api_Player_api_Player_state_samePlayer a0 a1).bind fun r1 =>
 some r1
def state_each_api_Player_state_samePlayer_C (a0 : List (SPlayer)) (a1 : List (SPlayer)) (r : Bool) : Prop := PCall Tryz.prog I0 35 [vL encSPlayer a0, vL encSPlayer a1, .c (.fn 36)] (· = vB r)
theorem state_each_api_Player_state_samePlayer_ok {a0 : List (SPlayer)} {a1 : List (SPlayer)} {r : Bool} (h : state_each_api_Player_state_samePlayer a0 a1 = some r) : state_each_api_Player_state_samePlayer_C a0 a1 r := by
 refine PCall.bo I0_stable Tryz.func35 rfl Tryz.ntmps35 [.tmp 6] fun _ _ _ _ => ?_
 unfold state_each_api_Player_state_samePlayer at h
 refine Gg [.a] (u [] []) (aN) ?_
 obtain ⟨r1,i0,h⟩ := bS h
 exact Rg [.a,.a,.a,(.c (vB r1)),.a] (sl 11 [(6,vB r1)] []) (aC (slices_EqualFunc_api_Player_api_Player_api_Player_api_Player_state_samePlayer_ok i0) <| aN) <| hR <| bQ _ (kB h)
def slices_EqualFunc_api_Cont_api_Cont_api_Cont_api_Cont_state_sameCont_J2  : Option (Bool) :=
 some true
def slices_EqualFunc_api_Cont_api_Cont_api_Cont_api_Cont_state_sameCont_B5 (a0 : List (SCont)) (a1 : List (SCont)) (vt17_4 : Int) : Option ((Int) ⊕ (Unit ⊕ Unit)) :=
 (if (decide (vt17_4 < (a0.length : Int))) = true then
  (idx a0 vt17_4).bind fun e7 =>
  (idx a1 vt17_4).bind fun e8 =>
  (some (if (e7.Stamp == e8.Stamp) = true then e7.Control == e8.Control else false)).bind fun b9 =>
  (some (if b9 = true then e7.Source == e8.Source else false)).bind fun b10 =>
  (some (if b10 = true then e7.Until == e8.Until else false)).bind fun b11 =>
  (gd (b11 == true) (slices_Equal_int_int e7.Objects e8.Objects)).bind fun r12 =>
  (some (if b11 = true then r12 else false)).bind fun b13 =>
  (gd (b13 == true) (state_each_api_Mod_state_equal_api_Mod e7.Mods e8.Mods)).bind fun r14 =>
  (some (if b13 = true then r14 else false)).bind fun b15 =>
  (if (!b15) = true then
   some (.inr (.inr ()))
  else
   some (.inl (wrap64 (vt17_4 + (1 : Int)))))
 else
  some (.inr (.inl ())))
/-- slices.EqualFunc[[]cardgame/api.Cont,[]cardgame/api.Cont,cardgame/api.Cont,cardgame/api.Cont] -/
def slices_EqualFunc_api_Cont_api_Cont_api_Cont_api_Cont_state_sameCont (a0 : List (SCont)) (a1 : List (SCont)) : Option (Bool) :=
 (if ((a0.length : Int) != (a1.length : Int)) = true then
  some false
 else
  (iter (fun (v : Int) => slices_EqualFunc_api_Cont_api_Cont_api_Cont_api_Cont_state_sameCont_B5 a0 a1 v) FU (0 : Int)).bind (Sum.elim (fun o0 => slices_EqualFunc_api_Cont_api_Cont_api_Cont_api_Cont_state_sameCont_J2) (fun o1 => some false)))
def slices_EqualFunc_api_Cont_api_Cont_api_Cont_api_Cont_state_sameCont_C (a0 : List (SCont)) (a1 : List (SCont)) (r : Bool) : Prop := PCall Tryz.prog I0 73 [vL encSCont a0, vL encSCont a1, .c (.fn 44)] (· = vB r)
theorem slices_EqualFunc_api_Cont_api_Cont_api_Cont_api_Cont_state_sameCont_ok {a0 : List (SCont)} {a1 : List (SCont)} {r : Bool} (h : slices_EqualFunc_api_Cont_api_Cont_api_Cont_api_Cont_state_sameCont a0 a1 = some r) : slices_EqualFunc_api_Cont_api_Cont_api_Cont_api_Cont_state_sameCont_C a0 a1 r := by
 refine PCall.bo I0_stable Tryz.func73 rfl Tryz.ntmps73 [.tmp 6] fun _ _ _ _ => ?_
 unfold slices_EqualFunc_api_Cont_api_Cont_api_Cont_api_Cont_state_sameCont at h
 refine Gg [.a] (u [] []) (aN) <| hS <| Gg (nA 5) (u [] [(14,vB ((a0.length : Int) != (a1.length : Int)))]) (aN) <| iC h (fun h => ?_) (fun h => ?_)
 · exact Rg [.a] (sl 32 [(6,vB false)] []) (aN) <| hR <| Tr <| bQ _ (kB h)
 refine hK <| Tn <| Sj (X := Unit) (fun v => (sl 32 [] [])) (fun v => slices_EqualFunc_api_Cont_api_Cont_api_Cont_api_Cont_state_sameCont_J2 = some r) ?_ ?_
 · refine Gg (nA 3) (u [0,14] [(15,vL encSCont a0),(16,vI (a0.length : Int)),(17,vI (0 : Int))]) (aN) <| hB ?_
   obtain ⟨t1,j1,h⟩ := bS h
   refine Gi (fun (v : Int) => (u [] [(17,vI v)])) j1 (wT) ?_
   rintro j0 q1 i0 q0
   replace i0 : slices_EqualFunc_api_Cont_api_Cont_api_Cont_api_Cont_state_sameCont_B5 a0 a1 j0 = some q1 := i0
   unfold slices_EqualFunc_api_Cont_api_Cont_api_Cont_api_Cont_state_sameCont_B5 at i0
   refine Gg [.a] (u [] [(18,vB (decide (j0 < (a0.length : Int))))]) (aN) <| hS <| iC i0 (fun i0 => ?_) (fun i0 => ?_)
   · refine hK <| Tn <| hS <| hB ?_
     obtain ⟨e7,t0,i0⟩ := bS i0
     refine Gg [.a,.a,(.v (vA encSCont e7)),.a,.a,.a] (uo [18] [(7,vI j0),(8,vP [8] (0))] [.e (bx [8] (encSCont e7))]) (aC (idx_b t0) <| aC (eld t0 lenSCont 0 6 true (vA encSCont e7)) <| aC (Eq.refl (vA encSCont e7)) <| aN) ?_
     obtain ⟨e8,x0,i0⟩ := bS i0
     refine Gg [.a,.a,.a,(.v (vA encSCont e8)),.a,.a] (uo [7] [(9,vP [9] (0))] [.e (bx [9] (encSCont e8)),.k 0]) (aC (idx_b x0) <| aC (eld x0 lenSCont 0 6 true (vA encSCont e8)) <| aC (Eq.refl (vA encSCont e8)) <| aN) <| hS <| hO <| Rp 3 (nA 3) (sl 32 [(1,vL encSCont a1),(2,.c (.fn 44)),(8,vP [8] (0)),(9,vP [9] (0)),(15,vL encSCont a0),(16,vI (a0.length : Int)),(17,vI j0),(26,.c (.fn 44)),(27,vA encSCont e7),(28,vA encSCont e8)] [bx [9] (encSCont e8),bx [8] (encSCont e7)]) (aN) <| rI rfl rfl <| Ei 29 [vA encSCont e7,vA encSCont e8] [] Tryz.func44 Tryz.ntmps44 [.tmp 4] rfl rfl rfl rfl fun _ _ _ _ => Gg (nA 3) (uo [0,1] [(2,vP [2,29] (0)),(3,vP [3,29] (0))] [.e (bx [3,29] (encSCont e8)),.e (bx [2,29] (encSCont e7)),.k 0,.k 1]) (aN) ?_
     obtain ⟨b9,n1,k0,y0,m0,z0,o1,k1,i0⟩ := bS4 i0
     obtain ⟨n0,d1,p1,m1,o0,i1,i0⟩ := bS3 i0
     refine Gg [.a,.a,.a,.a,.a,.a,.a,.a,.a,.a,.a,(.v (vB b9)),.a,.a,.a,.a,.a,.a,(.v (vB k0)),.a,.a,.a,.a,.a,.a,(.v (vB m0)),.a,.a,.a,.a,.a,(.c (vB o1)),(.v (vB n0)),.a,.a,.a,.a,.a,(.c (vB p1)),(.v (vB o0)),.a] (uo [2,3] [(4,vB o0)] [.k 2,.k 3]) (aG ((e7.Stamp == e8.Stamp) == true) <| aG ((e7.Stamp == e8.Stamp) == true) <| aH ((e7.Stamp == e8.Stamp) == true) <| aT (e7.Stamp == e8.Stamp) <| aB n1 <| aG (b9 == true) <| aG (b9 == true) <| aH (b9 == true) <| aT b9 <| aB y0 <| aG (k0 == true) <| aG (k0 == true) <| aH (k0 == true) <| aT k0 <| aB z0 <| aG (m0 == true) <| aG (m0 == true) <| aC (c2 k1 slices_Equal_int_int_ok) <| aT m0 <| aB d1 <| aG (n0 == true) <| aG (n0 == true) <| aC (c2 m1 state_each_api_Mod_state_equal_api_Mod_ok) <| aT n0 <| aB i1 <| aN) <| hR <| nR (vB o0) <| Gw [.a] (u [] [(30,vB (!o0))]) (aN) <| Tn <| iC i0 (fun i0 => ?_) (fun i0 => ?_)
     · refine Rg [.a] (sl 32 [(6,vB false)] []) (aN) <| hR <| qR <| Tr ?_
       obtain rfl := q0 _ (sI i0).symm
       replace h := sumR h
       exact Tr <| qR <| Tr <| bQ _ (kB h)
     refine hK <| qN <| Tn <| Ge [.a,.a] (u [] [(17,vI (wrap64 (j0 + (1 : Int)))),(31,vI (wrap64 (j0 + (1 : Int))))]) (aN) <| Tn ⟨(wrap64 (j0 + (1 : Int))),(sI i0).symm,wT⟩
   refine hE <| Te ?_
   obtain rfl := q0 _ (sI i0).symm
   replace h := sumL h
   refine Te <| qX <| Tn ⟨(),h,wT⟩
 rintro _ p0
 replace p0 : slices_EqualFunc_api_Cont_api_Cont_api_Cont_api_Cont_state_sameCont_J2 = some r := p0
 unfold slices_EqualFunc_api_Cont_api_Cont_api_Cont_api_Cont_state_sameCont_J2 at p0
 exact Rg [.a] (sl 32 [(6,vB true)] []) (aN) <| hR <| bQ _ (kB p0)
end Go.PL
