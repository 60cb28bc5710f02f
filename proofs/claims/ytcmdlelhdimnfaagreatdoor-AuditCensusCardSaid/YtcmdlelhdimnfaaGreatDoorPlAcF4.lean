/- Functions of the program, as partial functions in Lean, with proofs. -/
import Derived.Test.YtcmdlelhdimnfaaGreatDoorPlAcB
import Derived.Test.YtcmdlelhdimnfaaGreatDoorPlAcF0
import Derived.Test.YtcmdlelhdimnfaaGreatDoorPlAcF1
import Derived.Test.YtcmdlelhdimnfaaGreatDoorPlAcF2
import Derived.Test.YtcmdlelhdimnfaaGreatDoorPlAcF3
namespace Go.PL
open Go Go.RowKit Go.Proofs
set_option maxRecDepth 100000
set_option linter.all false
set_option maxHeartbeats 4000000
attribute [local irreducible] Holds thenQ blockQ
def state_places_J13  : Option (Bool) :=
 some true
def state_places_B16 (a0 : SState) (l11_11 : List (Int × Int)) (vt78_15 : Int) : Option ((Int) ⊕ (Unit ⊕ Unit)) :=
 (if (decide (vt78_15 < (a0.Objects.length : Int))) = true then
  (idx a0.Objects vt78_15).bind fun e18 =>
  (if ((mGet l11_11 e18.Id) != (1 : Int)) = true then
   some (.inr (.inr ()))
  else
   some (.inl (wrap64 (vt78_15 + (1 : Int)))))
 else
  some (.inr (.inl ())))
def state_places_J12 (a0 : SState) (l11_11 : List (Int × Int)) : Option (Bool) :=
 (iter (fun (v : Int) => state_places_B16 a0 l11_11 v) FU (0 : Int)).bind (Sum.elim (fun o0 => state_places_J13) (fun o1 => some false))
def state_places_J31 (vt59_22 : Int) (e27 : SItem) (l11_29 : List (Int × Int)) (q30 : Bool) : Option ((Int × (List (Int × Int))) ⊕ ((List (Int × Int)) ⊕ Unit)) :=
 (some (if (e27.Kind == (1 : Int)) = true then !q30 else false)).bind fun b32 =>
 (if b32 = true then
  some (.inr (.inr ()))
 else
  some (.inl ((wrap64 (vt59_22 + (1 : Int))), l11_29)))
def state_places_J35 (vt59_22 : Int) (e27 : SItem) (l11_34 : List (Int × Int)) : Option ((Int × (List (Int × Int))) ⊕ ((List (Int × Int)) ⊕ Unit)) :=
 state_places_J31 vt59_22 e27 l11_34 true
def state_places_B42 (a0 : SState) (e27 : SItem) (vt15_38 : Int) (l11_39 : List (Int × Int)) : Option ((Int × (List (Int × Int))) ⊕ ((List (Int × Int)) ⊕ (List (Int × Int)))) :=
 (if (decide (vt15_38 < (([e27.Id] : List (Int)).length : Int))) = true then
  (idx ([e27.Id] : List (Int)) vt15_38).bind fun e44 =>
  (state_zonefind a0 e44).bind fun r45 =>
  (some (if (!r45.2) = true then true else r45.1.Zone != (5 : Int))).bind fun b46 =>
  (some (if (decide ((0 : Int) ≤ (-1 : Int))) = true then r45.1.Owner != (-1 : Int) else false)).bind fun b47 =>
  (some (if b46 = true then true else b47)).bind fun b48 =>
  (if b48 = true then
   some (.inr (.inr l11_39))
  else
   some (.inl ((wrap64 (vt15_38 + (1 : Int))), (mSet l11_39 e44 (wrap64 ((mGet l11_39 e44) + (1 : Int)))))))
 else
  some (.inr (.inl l11_39)))
def state_places_B25 (a0 : SState) (vt59_22 : Int) (l11_23 : List (Int × Int)) : Option ((Int × (List (Int × Int))) ⊕ ((List (Int × Int)) ⊕ Unit)) :=
 (if (decide (vt59_22 < (a0.Stack.length : Int))) = true then
  (idx a0.Stack vt59_22).bind fun e27 =>
  (if ((e27.Kind == (1 : Int)) == true) = true then
   (iter (fun (v : Int × (List (Int × Int))) => state_places_B42 a0 e27 v.1 v.2) FU ((0 : Int), l11_23)).bind (Sum.elim (fun o0 => state_places_J35 vt59_22 e27 o0) (fun o1 => state_places_J31 vt59_22 e27 o1 false))
  else
   state_places_J31 vt59_22 e27 l11_23 false)
 else
  some (.inr (.inl l11_23)))
def state_places_J10 (a0 : SState) (l11_9 : List (Int × Int)) : Option (Bool) :=
 (iter (fun (v : Int × (List (Int × Int))) => state_places_B25 a0 v.1 v.2) FU ((0 : Int), l11_9)).bind (Sum.elim (fun o0 => state_places_J12 a0 o0) (fun o1 => some false))
def state_places_J67 (vt28_52 : Int) (b64 : Bool) (l11_65 : List (Int × Int)) (q66 : Bool) : Option ((Int × (List (Int × Int))) ⊕ ((List (Int × Int)) ⊕ Unit)) :=
 (some (if b64 = true then true else !q66)).bind fun b68 =>
 (if b68 = true then
  some (.inr (.inr ()))
 else
  some (.inl ((wrap64 (vt28_52 + (1 : Int))), l11_65)))
def state_places_J71 (vt28_52 : Int) (b64 : Bool) (l11_70 : List (Int × Int)) : Option ((Int × (List (Int × Int))) ⊕ ((List (Int × Int)) ⊕ Unit)) :=
 state_places_J67 vt28_52 b64 l11_70 true
def state_places_B78 (a0 : SState) (vt28_52 : Int) (e57 : SPlayer) (vt15_74 : Int) (l11_75 : List (Int × Int)) : Option ((Int × (List (Int × Int))) ⊕ ((List (Int × Int)) ⊕ (List (Int × Int)))) :=
 (if (decide (vt15_74 < (e57.Graveyard.length : Int))) = true then
  (idx e57.Graveyard vt15_74).bind fun e80 =>
  (state_zonefind a0 e80).bind fun r81 =>
  (some (if (!r81.2) = true then true else r81.1.Zone != (3 : Int))).bind fun b82 =>
  (some (if (decide ((0 : Int) ≤ vt28_52)) = true then r81.1.Owner != vt28_52 else false)).bind fun b83 =>
  (some (if b82 = true then true else b83)).bind fun b84 =>
  (if b84 = true then
   some (.inr (.inr l11_75))
  else
   some (.inl ((wrap64 (vt15_74 + (1 : Int))), (mSet l11_75 e80 (wrap64 ((mGet l11_75 e80) + (1 : Int)))))))
 else
  some (.inr (.inl l11_75)))
def state_places_J63 (a0 : SState) (vt28_52 : Int) (e57 : SPlayer) (vt37_58 : Bool) (l11_61 : List (Int × Int)) (q62 : Bool) : Option ((Int × (List (Int × Int))) ⊕ ((List (Int × Int)) ⊕ Unit)) :=
 (some (if (!vt37_58) = true then true else !q62)).bind fun b64 =>
 (if (b64 == false) = true then
  (iter (fun (v : Int × (List (Int × Int))) => state_places_B78 a0 vt28_52 e57 v.1 v.2) FU ((0 : Int), l11_61)).bind (Sum.elim (fun o0 => state_places_J71 vt28_52 b64 o0) (fun o1 => state_places_J67 vt28_52 b64 o1 false))
 else
  state_places_J67 vt28_52 b64 l11_61 false)
def state_places_J87 (a0 : SState) (vt28_52 : Int) (e57 : SPlayer) (vt37_58 : Bool) (l11_86 : List (Int × Int)) : Option ((Int × (List (Int × Int))) ⊕ ((List (Int × Int)) ⊕ Unit)) :=
 state_places_J63 a0 vt28_52 e57 vt37_58 l11_86 true
def state_places_B94 (a0 : SState) (vt28_52 : Int) (e57 : SPlayer) (vt15_90 : Int) (l11_91 : List (Int × Int)) : Option ((Int × (List (Int × Int))) ⊕ ((List (Int × Int)) ⊕ (List (Int × Int)))) :=
 (if (decide (vt15_90 < (e57.Hand.length : Int))) = true then
  (idx e57.Hand vt15_90).bind fun e96 =>
  (state_zonefind a0 e96).bind fun r97 =>
  (some (if (!r97.2) = true then true else r97.1.Zone != (1 : Int))).bind fun b98 =>
  (some (if (decide ((0 : Int) ≤ vt28_52)) = true then r97.1.Owner != vt28_52 else false)).bind fun b99 =>
  (some (if b98 = true then true else b99)).bind fun b100 =>
  (if b100 = true then
   some (.inr (.inr l11_91))
  else
   some (.inl ((wrap64 (vt15_90 + (1 : Int))), (mSet l11_91 e96 (wrap64 ((mGet l11_91 e96) + (1 : Int)))))))
 else
  some (.inr (.inl l11_91)))
def state_places_J60 (a0 : SState) (vt28_52 : Int) (e57 : SPlayer) (vt37_58 : Bool) (l11_59 : List (Int × Int)) : Option ((Int × (List (Int × Int))) ⊕ ((List (Int × Int)) ⊕ Unit)) :=
 (if ((!vt37_58) == false) = true then
  (iter (fun (v : Int × (List (Int × Int))) => state_places_B94 a0 vt28_52 e57 v.1 v.2) FU ((0 : Int), l11_59)).bind (Sum.elim (fun o0 => state_places_J87 a0 vt28_52 e57 vt37_58 o0) (fun o1 => state_places_J63 a0 vt28_52 e57 vt37_58 o1 false))
 else
  state_places_J63 a0 vt28_52 e57 vt37_58 l11_59 false)
def state_places_J103 (a0 : SState) (vt28_52 : Int) (e57 : SPlayer) (l11_102 : List (Int × Int)) : Option ((Int × (List (Int × Int))) ⊕ ((List (Int × Int)) ⊕ Unit)) :=
 state_places_J60 a0 vt28_52 e57 true l11_102
def state_places_B110 (a0 : SState) (vt28_52 : Int) (e57 : SPlayer) (vt15_106 : Int) (l11_107 : List (Int × Int)) : Option ((Int × (List (Int × Int))) ⊕ ((List (Int × Int)) ⊕ (List (Int × Int)))) :=
 (if (decide (vt15_106 < (e57.Library.length : Int))) = true then
  (idx e57.Library vt15_106).bind fun e112 =>
  (state_zonefind a0 e112).bind fun r113 =>
  (some (if (!r113.2) = true then true else r113.1.Zone != (2 : Int))).bind fun b114 =>
  (some (if (decide ((0 : Int) ≤ vt28_52)) = true then r113.1.Owner != vt28_52 else false)).bind fun b115 =>
  (some (if b114 = true then true else b115)).bind fun b116 =>
  (if b116 = true then
   some (.inr (.inr l11_107))
  else
   some (.inl ((wrap64 (vt15_106 + (1 : Int))), (mSet l11_107 e112 (wrap64 ((mGet l11_107 e112) + (1 : Int)))))))
 else
  some (.inr (.inl l11_107)))
def state_places_B55 (a0 : SState) (vt28_52 : Int) (l11_53 : List (Int × Int)) : Option ((Int × (List (Int × Int))) ⊕ ((List (Int × Int)) ⊕ Unit)) :=
 (if (decide (vt28_52 < (a0.Players.length : Int))) = true then
  (idx a0.Players vt28_52).bind fun e57 =>
  (iter (fun (v : Int × (List (Int × Int))) => state_places_B110 a0 vt28_52 e57 v.1 v.2) FU ((0 : Int), l11_53)).bind (Sum.elim (fun o0 => state_places_J103 a0 vt28_52 e57 o0) (fun o1 => state_places_J60 a0 vt28_52 e57 false o1))
 else
  some (.inr (.inl l11_53)))
def state_places_J6 (a0 : SState) (vt16_1 : Bool) (l11_4 : List (Int × Int)) (q5 : Bool) : Option (Bool) :=
 (some (if (!vt16_1) = true then true else !q5)).bind fun b7 =>
 (if b7 = true then
  some false
 else
  (iter (fun (v : Int × (List (Int × Int))) => state_places_B55 a0 v.1 v.2) FU ((0 : Int), l11_4)).bind (Sum.elim (fun o0 => state_places_J10 a0 o0) (fun o1 => some false)))
def state_places_J119 (a0 : SState) (vt16_1 : Bool) (l11_118 : List (Int × Int)) : Option (Bool) :=
 state_places_J6 a0 vt16_1 l11_118 true
def state_places_B126 (a0 : SState) (vt15_122 : Int) (l11_123 : List (Int × Int)) : Option ((Int × (List (Int × Int))) ⊕ ((List (Int × Int)) ⊕ (List (Int × Int)))) :=
 (if (decide (vt15_122 < (a0.Exile.length : Int))) = true then
  (idx a0.Exile vt15_122).bind fun e128 =>
  (state_zonefind a0 e128).bind fun r129 =>
  (some (if (!r129.2) = true then true else r129.1.Zone != (4 : Int))).bind fun b130 =>
  (some (if (decide ((0 : Int) ≤ (-1 : Int))) = true then r129.1.Owner != (-1 : Int) else false)).bind fun b131 =>
  (some (if b130 = true then true else b131)).bind fun b132 =>
  (if b132 = true then
   some (.inr (.inr l11_123))
  else
   some (.inl ((wrap64 (vt15_122 + (1 : Int))), (mSet l11_123 e128 (wrap64 ((mGet l11_123 e128) + (1 : Int)))))))
 else
  some (.inr (.inl l11_123)))
def state_places_J3 (a0 : SState) (vt16_1 : Bool) (l11_2 : List (Int × Int)) : Option (Bool) :=
 (if ((!vt16_1) == false) = true then
  (iter (fun (v : Int × (List (Int × Int))) => state_places_B126 a0 v.1 v.2) FU ((0 : Int), l11_2)).bind (Sum.elim (fun o0 => state_places_J119 a0 vt16_1 o0) (fun o1 => state_places_J6 a0 vt16_1 o1 false))
 else
  state_places_J6 a0 vt16_1 l11_2 false)
def state_places_J135 (a0 : SState) (l11_134 : List (Int × Int)) : Option (Bool) :=
 state_places_J3 a0 true l11_134
def state_places_B142 (a0 : SState) (vt15_138 : Int) (l11_139 : List (Int × Int)) : Option ((Int × (List (Int × Int))) ⊕ ((List (Int × Int)) ⊕ (List (Int × Int)))) :=
 (if (decide (vt15_138 < (a0.Battlefield.length : Int))) = true then
  (idx a0.Battlefield vt15_138).bind fun e144 =>
  (state_zonefind a0 e144).bind fun r145 =>
  (some (if (!r145.2) = true then true else r145.1.Zone != (0 : Int))).bind fun b146 =>
  (some (if (decide ((0 : Int) ≤ (-1 : Int))) = true then r145.1.Owner != (-1 : Int) else false)).bind fun b147 =>
  (some (if b146 = true then true else b147)).bind fun b148 =>
  (if b148 = true then
   some (.inr (.inr l11_139))
  else
   some (.inl ((wrap64 (vt15_138 + (1 : Int))), (mSet l11_139 e144 (wrap64 ((mGet l11_139 e144) + (1 : Int)))))))
 else
  some (.inr (.inl l11_139)))
/-- cardgame/state.places -/
def state_places (a0 : SState) : Option (Bool) :=
 (iter (fun (v : Int × (List (Int × Int))) => state_places_B142 a0 v.1 v.2) FU ((0 : Int), ([] : List (Int × Int)))).bind (Sum.elim (fun o0 => state_places_J135 a0 o0) (fun o1 => state_places_J3 a0 false o1))
def state_places_C (a0 : SState) (r : Bool) : Prop := PCall Tryz.prog I0 28 [vA encSState a0] (· = vB r)
theorem state_places_ok {a0 : SState} {r : Bool} (h : state_places a0 = some r) : state_places_C a0 r := by
 refine PCall.bo I0_stable Tryz.func28 rfl Tryz.ntmps28 [.tmp 2] fun _ _ _ _ => ?_
 unfold state_places at h
 refine Rg [.a,.a] (sl 88 [(1,vP [1] (0))] [bx [1] (encSState a0)]) (aN) <| hS <| hO <| Gp 0 [] (u [] []) (aN) <| Run.inl rfl rfl (Esc.mkMap 11 rfl rfl ?_)
 refine Gw [.a,.a] (uo [] [(3,vP [3] (0))] [.e (bx [3] [.mref [11]]),.k 0,.k 1]) (aN) <| Tn <| Gg [.a,.a] (u [11] [(4,.c (.clo 59 [.ptr [1] (0),.ptr [3] (0)]))]) (aC (show True ∧ (True ∧ True) from ⟨trivial,⟨trivial,trivial⟩⟩) <| aN) <| hS <| hS <| hO <| Gp 3 (nA 3) (u [] [(13,.c (.clo 59 [.ptr [1] (0),.ptr [3] (0)])),(14,vP [1] (2)),(15,vL (eI .i64) a0.Battlefield)]) (aN) <| Nj (X := Bool × (List (Int × Int))) (fun v => (uo [13,14,15] [(16,vB v.1)] [.k 0,.e (⟨[11],none,[.mp v.2],false⟩),.k 2])) (fun v => state_places_J3 a0 v.1 v.2 = some r) rfl rfl ?_ ?_
 · refine Ei 16 [vI (0 : Int),vI (-1 : Int),vL (eI .i64) a0.Battlefield] [.ptr [1] (0),.ptr [3] (0)] Tryz.func59 Tryz.ntmps59 [.tmp 8] rfl rfl rfl rfl fun _ _ _ _ => Gg [.a] (u [] []) (aN) <| Sj (X := (List (Int × Int))) (fun v => (sg 48 [] [bx [3] [.mref [11]],⟨[11],none,[.mp v],false⟩,bx [1] (encSState a0)] 88 [(1,vP [1] (0)),(3,vP [3] (0)),(4,.c (.clo 59 [.ptr [1] (0),.ptr [3] (0)])),(13,.c (.clo 59 [.ptr [1] (0),.ptr [3] (0)])),(14,vP [1] (2)),(15,vL (eI .i64) a0.Battlefield)] [16])) (fun v => state_places_J135 a0 v = some r) ?_ ?_
   · refine Rg (nA 3) (sg 48 [(0,vI (0 : Int)),(1,vI (-1 : Int)),(3,vP [1] (0)),(4,vP [3] (0)),(13,vL (eI .i64) a0.Battlefield),(14,vI (a0.Battlefield.length : Int)),(15,vI (0 : Int))] [bx [3] [.mref [11]],⟨[11],none,[.mp ([] : List (Int × Int))],false⟩,bx [1] (encSState a0)] 88 [(1,vP [1] (0)),(3,vP [3] (0)),(4,.c (.clo 59 [.ptr [1] (0),.ptr [3] (0)])),(13,.c (.clo 59 [.ptr [1] (0),.ptr [3] (0)])),(14,vP [1] (2)),(15,vL (eI .i64) a0.Battlefield)] [16]) (aN) <| hB ?_
     obtain ⟨m12,t8,h⟩ := bS h
     refine Gi (fun (v : Int × (List (Int × Int))) => (uo [] [(15,vI v.1)] [.k 0,.e (⟨[11],none,[.mp v.2],false⟩),.k 2])) t8 (wT) ?_
     rintro ⟨m2,y0⟩ o10 t0 k6
     replace t0 : state_places_B142 a0 m2 y0 = some o10 := t0
     unfold state_places_B142 at t0
     refine Gg [.a] (u [] [(16,vB (decide (m2 < (a0.Battlefield.length : Int))))]) (aN) <| hS <| iC t0 (fun t0 => ?_) (fun t0 => ?_)
     · refine hK <| Tn <| hS <| hB ?_
       obtain ⟨p1,k7,t0⟩ := bS t0
       refine Gg [.a,(.v (vI p1)),.a] (u [16] [(10,vI p1)]) (aC (idx_b k7) <| aC (eld k7 (lenI .i64) 0 1 false (vI p1)) <| aC (Eq.refl (vI p1)) <| aN) ?_
       obtain ⟨k4,j10,t0⟩ := bS t0
       refine Gg [.a,.a,(.c (.tup [vA encSObject k4.1,vB k4.2])),.a,.a,.a,.a,.a,.a] (uo [] [(11,vP [11,16] (0)),(12,vB k4.2)] [.e (bx [11,16] (encSObject k4.1)),.k 0,.k 1,.k 2]) (aC (state_zonefind_ok j10) <| aC (show True ∧ 0 < [V.undef,V.undef].length from ⟨trivial,(by decide)⟩) <| aC (show True ∧ 1 < [V.undef,V.undef].length from ⟨trivial,(by decide)⟩) <| aN) <| hS ?_
       obtain ⟨t3,m9,t10,n9,d7,o9,t0⟩ := bS3 t0
       refine Gg [.a,.a,.a,.a,.a,.a,.a,(.v (vB t3)),.a,.a,.a,.a,.a,.a,.a,.a,(.v (vB t10)),(.v (vB d7))] (uo [11,12] [(42,vB d7)] [.k 1,.k 2,.k 3]) (aG ((!k4.2) == false) <| aH ((!k4.2) == false) <| aF (!k4.2) <| aB m9 <| aG (t3 == false) <| aG (t3 == false) <| aG ((t3 == false) && ((decide ((0 : Int) ≤ (-1 : Int))) == true)) <| aH ((t3 == false) && ((decide ((0 : Int) ≤ (-1 : Int))) == true)) <| aC (fun hg : (t3 == false) = true => aC (gi (t3 == false)) <| aC (fun q : (decide ((0 : Int) ≤ (-1 : Int))) = true => (gA hg (gT q))) <| aB n9 <| aN) <| aF t3 <| aB o9 <| aN) <| iC t0 (fun t0 => ?_) (fun t0 => ?_)
       · refine Gg [.a] (u [0,1,3,4,10,13,14,15,42] [(8,vB false)]) (aN) <| hR <| Tr <| qR <| Tr ?_
         obtain rfl := k6 _ (sI t0).symm
         replace h := sumR h
         refine Tr <| qR <| Tr <| nR (vB false) ⟨(false,y0),h,lT⟩
       refine hK <| Tn <| hO <| Gp 2 [.a,.a] (u [] [(43,.c (.mref [11])),(44,vI p1)]) (aN) <| Run.inl rfl rfl (Esc.mapGet (id := [11]) (kv := y0) (n := p1) rfl ?_)
       refine Gp 1 [.a] (u [] [(46,vI (wrap64 ((mGet y0 p1) + (1 : Int))))]) (aN) <| Run.inl rfl rfl (Esc.mapSet (id := [11]) (kv := y0) (n := p1) (z := (wrap64 ((mGet y0 p1) + (1 : Int)))) rfl rfl ?_)
       refine Rw [] (sg 48 [(0,vI (0 : Int)),(1,vI (-1 : Int)),(3,vP [1] (0)),(4,vP [3] (0)),(10,vI p1),(13,vL (eI .i64) a0.Battlefield),(14,vI (a0.Battlefield.length : Int)),(15,vI m2),(42,vB d7),(43,.c (.mref [11])),(44,vI p1),(45,vI (mGet y0 p1)),(46,vI (wrap64 ((mGet y0 p1) + (1 : Int))))] [bx [3] [.mref [11]],⟨[11],none,[.mp (mSet y0 p1 (wrap64 ((mGet y0 p1) + (1 : Int))))],false⟩,bx [1] (encSState a0)] 88 [(1,vP [1] (0)),(3,vP [3] (0)),(4,.c (.clo 59 [.ptr [1] (0),.ptr [3] (0)])),(13,.c (.clo 59 [.ptr [1] (0),.ptr [3] (0)])),(14,vP [1] (2)),(15,vL (eI .i64) a0.Battlefield)] [16]) (aN) <| qN <| Tn <| Ge [.a,.a] (u [] [(15,vI (wrap64 (m2 + (1 : Int)))),(47,vI (wrap64 (m2 + (1 : Int))))]) (aN) <| Tn ⟨((wrap64 (m2 + (1 : Int))),(mSet y0 p1 (wrap64 ((mGet y0 p1) + (1 : Int))))),(sI t0).symm,wT⟩
     refine hE <| Te ?_
     obtain rfl := k6 _ (sI t0).symm
     replace h := sumL h
     refine Te <| qX <| Tn ⟨y0,h,wT⟩
   rintro p5 x4
   replace x4 : state_places_J135 a0 p5 = some r := x4
   unfold state_places_J135 at x4
   refine Gg [.a] (u [] [(8,vB true)]) (aN) <| hR <| nR (vB true) ⟨(true,p5),x4,lT⟩
 rintro ⟨m0,d6⟩ p2
 replace p2 : state_places_J3 a0 m0 d6 = some r := p2
 unfold state_places_J3 at p2
 refine Gp 5 (nA 5) (u [] [(17,vB (!m0)),(18,vB (!m0)),(19,.g ((!m0) == false) (.c (.clo 59 [.ptr [1] (0),.ptr [3] (0)]))),(20,.g ((!m0) == false) (vP [1] (3))),(21,.g ((!m0) == false) (vL (eI .i64) a0.Exile))]) (aG ((!m0) == false) <| aN) <| Ng (X := (List (Int × Int)) × Bool) (g := ((!m0) == false)) (fun v => (uo [16,17,19,20,21] [(22,.g ((!m0) == false) (vB v.2))] [.k 0,.e (⟨[11],none,[.mp v.1],false⟩),.k 2])) (fun v => state_places_J6 a0 m0 v.1 v.2 = some r) 22 rfl rfl rfl (fun y4 => ?_) (fun y4 => ?_) ?_
 · replace p2 := iT p2 y4
   refine Esc.ung (x := .c (.clo 59 [.ptr [1] (0),.ptr [3] (0)])) 19 y4 <| Esc.ung (x := vL (eI .i64) a0.Exile) 21 y4 <| Ei 22 [vI (4 : Int),vI (-1 : Int),vL (eI .i64) a0.Exile] [.ptr [1] (0),.ptr [3] (0)] Tryz.func59 Tryz.ntmps59 [.tmp 8] rfl rfl rfl rfl fun _ _ _ _ => Rg [.a] (sg 48 [(0,vI (4 : Int)),(1,vI (-1 : Int)),(2,vL (eI .i64) a0.Exile),(3,vP [1] (0)),(4,vP [3] (0))] [bx [3] [.mref [11]],⟨[11],none,[.mp d6],false⟩,bx [1] (encSState a0)] 88 [(1,vP [1] (0)),(3,vP [3] (0)),(4,.c (.clo 59 [.ptr [1] (0),.ptr [3] (0)])),(16,vB m0),(17,vB (!m0)),(18,vB (!m0)),(19,.c (.clo 59 [.ptr [1] (0),.ptr [3] (0)])),(20,.g ((!m0) == false) (vP [1] (3))),(21,vL (eI .i64) a0.Exile)] [22]) (aN) <| Gj (X := (List (Int × Int))) (fun v => (uo [0,1,2,3,4] [] [.k 0,.e (⟨[11],none,[.mp v],false⟩),.k 2])) (fun v => state_places_J119 a0 m0 v = some r) ?_ ?_
   · refine Gg (nA 3) (u [2] [(13,vL (eI .i64) a0.Exile),(14,vI (a0.Exile.length : Int)),(15,vI (0 : Int))]) (aN) <| hB ?_
     obtain ⟨k12,q8,p2⟩ := bS p2
     refine Gi (fun (v : Int × (List (Int × Int))) => (uo [] [(15,vI v.1)] [.k 0,.e (⟨[11],none,[.mp v.2],false⟩),.k 2])) q8 (wT) ?_
     rintro ⟨k2,m1⟩ n10 q0 j6
     replace q0 : state_places_B126 a0 k2 m1 = some n10 := q0
     unfold state_places_B126 at q0
     refine Gg [.a] (u [] [(16,vB (decide (k2 < (a0.Exile.length : Int))))]) (aN) <| hS <| iC q0 (fun q0 => ?_) (fun q0 => ?_)
     · refine hK <| Tn <| hS <| hB ?_
       obtain ⟨i2,j7,q0⟩ := bS q0
       refine Gg [.a,(.v (vI i2)),.a] (u [16] [(10,vI i2)]) (aC (idx_b j7) <| aC (eld j7 (lenI .i64) 0 1 false (vI i2)) <| aC (Eq.refl (vI i2)) <| aN) ?_
       obtain ⟨j4,i10,q0⟩ := bS q0
       refine Gg [.a,.a,(.c (.tup [vA encSObject j4.1,vB j4.2])),.a,.a,.a,.a,.a,.a] (uo [] [(11,vP [11,22] (0)),(12,vB j4.2)] [.e (bx [11,22] (encSObject j4.1)),.k 0,.k 1,.k 2]) (aC (state_zonefind_ok i10) <| aC (show True ∧ 0 < [V.undef,V.undef].length from ⟨trivial,(by decide)⟩) <| aC (show True ∧ 1 < [V.undef,V.undef].length from ⟨trivial,(by decide)⟩) <| aN) <| hS ?_
       obtain ⟨q3,i9,q10,j9,z6,k9,q0⟩ := bS3 q0
       refine Gg [.a,.a,.a,.a,.a,.a,.a,(.v (vB q3)),.a,.a,.a,.a,.a,.a,.a,.a,(.v (vB q10)),(.v (vB z6))] (uo [11,12] [(42,vB z6)] [.k 1,.k 2,.k 3]) (aG ((!j4.2) == false) <| aH ((!j4.2) == false) <| aF (!j4.2) <| aB i9 <| aG (q3 == false) <| aG (q3 == false) <| aG ((q3 == false) && ((decide ((0 : Int) ≤ (-1 : Int))) == true)) <| aH ((q3 == false) && ((decide ((0 : Int) ≤ (-1 : Int))) == true)) <| aC (fun hg : (q3 == false) = true => aC (gi (q3 == false)) <| aC (fun q : (decide ((0 : Int) ≤ (-1 : Int))) = true => (gA hg (gT q))) <| aB j9 <| aN) <| aF q3 <| aB k9 <| aN) <| iC q0 (fun q0 => ?_) (fun q0 => ?_)
       · refine Gg [.a] (u [0,1,3,4,10,13,14,15,42] [(8,vB false)]) (aN) <| hR <| Tr <| qR <| Tr ?_
         obtain rfl := j6 _ (sI q0).symm
         replace p2 := sumR p2
         refine Tr <| qR <| Tr <| nR (vB false) ⟨(m1,false),p2,lT⟩
       refine hK <| Tn <| hO <| Gp 2 [.a,.a] (u [] [(43,.c (.mref [11])),(44,vI i2)]) (aN) <| Run.inl rfl rfl (Esc.mapGet (id := [11]) (kv := m1) (n := i2) rfl ?_)
       refine Rp 1 [.a] (sg 48 [(0,vI (4 : Int)),(1,vI (-1 : Int)),(3,vP [1] (0)),(4,vP [3] (0)),(10,vI i2),(13,vL (eI .i64) a0.Exile),(14,vI (a0.Exile.length : Int)),(15,vI k2),(42,vB z6),(43,.c (.mref [11])),(44,vI i2),(45,vI (mGet m1 i2)),(46,vI (wrap64 ((mGet m1 i2) + (1 : Int))))] [bx [3] [.mref [11]],⟨[11],none,[.mp m1],false⟩,bx [1] (encSState a0)] 88 [(1,vP [1] (0)),(3,vP [3] (0)),(4,.c (.clo 59 [.ptr [1] (0),.ptr [3] (0)])),(16,vB m0),(17,vB (!m0)),(18,vB (!m0)),(19,.c (.clo 59 [.ptr [1] (0),.ptr [3] (0)])),(20,.g ((!m0) == false) (vP [1] (3))),(21,vL (eI .i64) a0.Exile)] [22]) (aN) <| Run.inl rfl rfl (Esc.mapSet (id := [11]) (kv := m1) (n := i2) (z := (wrap64 ((mGet m1 i2) + (1 : Int)))) rfl rfl ?_)
       refine Gw [] (u [] []) (aN) <| qN <| Tn <| Ge [.a,.a] (u [] [(15,vI (wrap64 (k2 + (1 : Int)))),(47,vI (wrap64 (k2 + (1 : Int))))]) (aN) <| Tn ⟨((wrap64 (k2 + (1 : Int))),(mSet m1 i2 (wrap64 ((mGet m1 i2) + (1 : Int))))),(sI q0).symm,wT⟩
     refine hE <| Te ?_
     obtain rfl := j6 _ (sI q0).symm
     replace p2 := sumL p2
     refine Te <| qX <| Tn ⟨m1,p2,wT⟩
   rintro o5 t4
   replace t4 : state_places_J119 a0 m0 o5 = some r := t4
   unfold state_places_J119 at t4
   refine Gg [.a] (u [] [(8,vB true)]) (aN) <| hR <| nR (vB true) ⟨(o5,true),t4,lT⟩
 · replace p2 := iF p2 y4
   exact ⟨(d6,false),vB false,p2,lT⟩
 rintro ⟨x7,q5⟩ o2
 replace o2 : state_places_J6 a0 m0 x7 q5 = some r := o2
 unfold state_places_J6 at o2
 obtain ⟨b7,hb7,o2⟩ := bS o2
 refine Rw [.a,(.v (vB b7))] (sl 88 [(1,vP [1] (0)),(3,vP [3] (0)),(4,.c (.clo 59 [.ptr [1] (0),.ptr [3] (0)])),(18,vB (!m0)),(22,.g ((!m0) == false) (vB q5)),(23,.g ((!m0) == false) (vB (!q5))),(24,vB b7)] [bx [3] [.mref [11]],⟨[11],none,[.mp x7],false⟩,bx [1] (encSState a0)]) (aG ((!m0) == false) <| aF (!m0) <| aB hb7 <| aN) <| Tn <| iC o2 (fun o2 => ?_) (fun o2 => ?_)
 · exact Rg [.a] (sl 88 [(2,vB false)] []) (aN) <| hR <| Tr <| bQ _ (kB o2)
 refine hK <| Tn <| Gj (X := (List (Int × Int))) (fun v => (uo [18,22,23,24] [] [.k 0,.e (⟨[11],none,[.mp v],false⟩),.k 2])) (fun v => state_places_J10 a0 v = some r) ?_ ?_
 · refine Gg (nA 4) (u [18,22,23,24] [(26,vL encSPlayer a0.Players),(27,vI (a0.Players.length : Int)),(28,vI (0 : Int))]) (aN) <| hB ?_
   obtain ⟨q12,x9,o2⟩ := bS o2
   refine Gi (fun (v : Int × (List (Int × Int))) => (uo [] [(28,vI v.1)] [.k 0,.e (⟨[11],none,[.mp v.2],false⟩),.k 2])) x9 (wT) ?_
   rintro ⟨i0,z4⟩ n2 j1 p7
   replace j1 : state_places_B55 a0 i0 z4 = some n2 := j1
   unfold state_places_B55 at j1
   refine Gg [.a] (u [] [(29,vB (decide (i0 < (a0.Players.length : Int))))]) (aN) <| hS <| iC j1 (fun j1 => ?_) (fun j1 => ?_)
   · refine hK <| Tn <| hS <| hB ?_
     obtain ⟨n0,k8,j1⟩ := bS j1
     refine Gg [.a,.a,(.v (vA encSPlayer n0)),.a,.a,.a] (uo [29] [(5,vI i0),(6,vP [6] (0))] [.e (bx [6] (encSPlayer n0)),.k 0,.k 1,.k 2]) (aC (idx_b k8) <| aC (eld k8 lenSPlayer 0 14 true (vA encSPlayer n0)) <| aC (Eq.refl (vA encSPlayer n0)) <| aN) <| hS <| hO <| Gp 4 (nA 4) (u [] [(33,.c (.clo 59 [.ptr [1] (0),.ptr [3] (0)])),(34,vI i0),(35,vP [6] (11)),(36,vL (eI .i64) n0.Library)]) (aN) <| Nj (X := Bool × (List (Int × Int))) (fun v => (uo [33,34,35,36] [(37,vB v.1)] [.k 0,.k 1,.e (⟨[11],none,[.mp v.2],false⟩),.k 3])) (fun v => state_places_J60 a0 i0 n0 v.1 v.2 = some n2) rfl rfl ?_ ?_
     · refine Ei 37 [vI (2 : Int),vI i0,vL (eI .i64) n0.Library] [.ptr [1] (0),.ptr [3] (0)] Tryz.func59 Tryz.ntmps59 [.tmp 8] rfl rfl rfl rfl fun _ _ _ _ => Rg [.a] (sg 48 [(0,vI (2 : Int)),(1,vI i0),(2,vL (eI .i64) n0.Library),(3,vP [1] (0)),(4,vP [3] (0))] [bx [6] (encSPlayer n0),bx [3] [.mref [11]],⟨[11],none,[.mp z4],false⟩,bx [1] (encSState a0)] 88 [(1,vP [1] (0)),(3,vP [3] (0)),(4,.c (.clo 59 [.ptr [1] (0),.ptr [3] (0)])),(5,vI i0),(6,vP [6] (0)),(26,vL encSPlayer a0.Players),(27,vI (a0.Players.length : Int)),(28,vI i0),(33,.c (.clo 59 [.ptr [1] (0),.ptr [3] (0)])),(34,vI i0),(35,vP [6] (11)),(36,vL (eI .i64) n0.Library)] [37]) (aN) <| Gj (X := (List (Int × Int))) (fun v => (uo [0,1,2,3,4] [] [.k 0,.k 1,.e (⟨[11],none,[.mp v],false⟩),.k 3])) (fun v => state_places_J103 a0 i0 n0 v = some n2) ?_ ?_
       · refine Gg (nA 3) (u [2] [(13,vL (eI .i64) n0.Library),(14,vI (n0.Library.length : Int)),(15,vI (0 : Int))]) (aN) <| hB ?_
         obtain ⟨j12,p8,j1⟩ := bS j1
         refine Gi (fun (v : Int × (List (Int × Int))) => (uo [] [(15,vI v.1)] [.k 0,.k 1,.e (⟨[11],none,[.mp v.2],false⟩),.k 3])) p8 (wT) ?_
         rintro ⟨j2,k1⟩ m10 p0 i6
         replace p0 : state_places_B110 a0 i0 n0 j2 k1 = some m10 := p0
         unfold state_places_B110 at p0
         refine Gg [.a] (u [] [(16,vB (decide (j2 < (n0.Library.length : Int))))]) (aN) <| hS <| iC p0 (fun p0 => ?_) (fun p0 => ?_)
         · refine hK <| Tn <| hS <| hB ?_
           obtain ⟨d2,i7,p0⟩ := bS p0
           refine Gg [.a,(.v (vI d2)),.a] (u [16] [(10,vI d2)]) (aC (idx_b i7) <| aC (eld i7 (lenI .i64) 0 1 false (vI d2)) <| aC (Eq.refl (vI d2)) <| aN) ?_
           obtain ⟨i4,d10,p0⟩ := bS p0
           refine Gg [.a,.a,(.c (.tup [vA encSObject i4.1,vB i4.2])),.a,.a,.a,.a,.a,.a] (uo [] [(11,vP [11,37] (0)),(12,vB i4.2)] [.e (bx [11,37] (encSObject i4.1)),.k 0,.k 1,.k 2,.k 3]) (aC (state_zonefind_ok d10) <| aC (show True ∧ 0 < [V.undef,V.undef].length from ⟨trivial,(by decide)⟩) <| aC (show True ∧ 1 < [V.undef,V.undef].length from ⟨trivial,(by decide)⟩) <| aN) <| hS ?_
           obtain ⟨p3,y8,p10,z8,y6,d9,p0⟩ := bS3 p0
           refine Gg [.a,.a,.a,.a,.a,.a,.a,(.v (vB p3)),.a,.a,.a,.a,.a,.a,.a,.a,(.v (vB p10)),(.v (vB y6))] (uo [11,12] [(42,vB y6)] [.k 1,.k 2,.k 3,.k 4]) (aG ((!i4.2) == false) <| aH ((!i4.2) == false) <| aF (!i4.2) <| aB y8 <| aG (p3 == false) <| aG (p3 == false) <| aG ((p3 == false) && ((decide ((0 : Int) ≤ i0)) == true)) <| aH ((p3 == false) && ((decide ((0 : Int) ≤ i0)) == true)) <| aC (fun hg : (p3 == false) = true => aC (gi (p3 == false)) <| aC (fun q : (decide ((0 : Int) ≤ i0)) = true => (gA hg (gT q))) <| aB z8 <| aN) <| aF p3 <| aB d9 <| aN) <| iC p0 (fun p0 => ?_) (fun p0 => ?_)
           · refine Gg [.a] (u [0,1,3,4,10,13,14,15,42] [(8,vB false)]) (aN) <| hR <| Tr <| qR <| Tr ?_
             obtain rfl := i6 _ (sI p0).symm
             replace j1 := sumR j1
             refine Tr <| qR <| Tr <| nR (vB false) ⟨(false,k1),j1,lT⟩
           refine hK <| Tn <| hO <| Gp 2 [.a,.a] (u [] [(43,.c (.mref [11])),(44,vI d2)]) (aN) <| Run.inl rfl rfl (Esc.mapGet (id := [11]) (kv := k1) (n := d2) rfl ?_)
           refine Rp 1 [.a] (sg 48 [(0,vI (2 : Int)),(1,vI i0),(3,vP [1] (0)),(4,vP [3] (0)),(10,vI d2),(13,vL (eI .i64) n0.Library),(14,vI (n0.Library.length : Int)),(15,vI j2),(42,vB y6),(43,.c (.mref [11])),(44,vI d2),(45,vI (mGet k1 d2)),(46,vI (wrap64 ((mGet k1 d2) + (1 : Int))))] [bx [6] (encSPlayer n0),bx [3] [.mref [11]],⟨[11],none,[.mp k1],false⟩,bx [1] (encSState a0)] 88 [(1,vP [1] (0)),(3,vP [3] (0)),(4,.c (.clo 59 [.ptr [1] (0),.ptr [3] (0)])),(5,vI i0),(6,vP [6] (0)),(26,vL encSPlayer a0.Players),(27,vI (a0.Players.length : Int)),(28,vI i0),(33,.c (.clo 59 [.ptr [1] (0),.ptr [3] (0)])),(34,vI i0),(35,vP [6] (11)),(36,vL (eI .i64) n0.Library)] [37]) (aN) <| Run.inl rfl rfl (Esc.mapSet (id := [11]) (kv := k1) (n := d2) (z := (wrap64 ((mGet k1 d2) + (1 : Int)))) rfl rfl ?_)
           refine Gw [] (u [] []) (aN) <| qN <| Tn <| Ge [.a,.a] (u [] [(15,vI (wrap64 (j2 + (1 : Int)))),(47,vI (wrap64 (j2 + (1 : Int))))]) (aN) <| Tn ⟨((wrap64 (j2 + (1 : Int))),(mSet k1 d2 (wrap64 ((mGet k1 d2) + (1 : Int))))),(sI p0).symm,wT⟩
         refine hE <| Te ?_
         obtain rfl := i6 _ (sI p0).symm
         replace j1 := sumL j1
         refine Te <| qX <| Tn ⟨k1,j1,wT⟩
       rintro n5 q4
       replace q4 : state_places_J103 a0 i0 n0 n5 = some n2 := q4
       unfold state_places_J103 at q4
       refine Gg [.a] (u [] [(8,vB true)]) (aN) <| hR <| nR (vB true) ⟨(true,n5),q4,lT⟩
     rintro ⟨j0,d5⟩ x1
     replace x1 : state_places_J60 a0 i0 n0 j0 d5 = some n2 := x1
     unfold state_places_J60 at x1
     refine Gp 6 (nA 6) (u [] [(38,vB (!j0)),(39,vB (!j0)),(40,.g ((!j0) == false) (.c (.clo 59 [.ptr [1] (0),.ptr [3] (0)]))),(41,.g ((!j0) == false) (vI i0)),(42,.g ((!j0) == false) (vP [6] (12))),(43,.g ((!j0) == false) (vL (eI .i64) n0.Hand))]) (aG ((!j0) == false) <| aN) <| Run.inlgJ (X := (List (Int × Int)) × Bool) (g := ((!j0) == false)) (fun v => (sl 88 [(1,vP [1] (0)),(3,vP [3] (0)),(4,.c (.clo 59 [.ptr [1] (0),.ptr [3] (0)])),(5,vI i0),(6,vP [6] (0)),(26,vL encSPlayer a0.Players),(27,vI (a0.Players.length : Int)),(28,vI i0),(39,vB (!j0)),(44,.g ((!j0) == false) (vB v.2))] [bx [6] (encSPlayer n0),bx [3] [.mref [11]],⟨[11],none,[.mp v.1],false⟩,bx [1] (encSState a0)])) (fun v => state_places_J63 a0 i0 n0 j0 v.1 v.2 = some n2) 44 rfl rfl rfl (fun y3 => ?_) (fun y3 => ?_) ?_
     · replace x1 := iT x1 y3
       refine Esc.ung (x := .c (.clo 59 [.ptr [1] (0),.ptr [3] (0)])) 40 y3 <| Esc.ung (x := vI i0) 41 y3 <| Esc.ung (x := vL (eI .i64) n0.Hand) 43 y3 <| Ei 44 [vI (1 : Int),vI i0,vL (eI .i64) n0.Hand] [.ptr [1] (0),.ptr [3] (0)] Tryz.func59 Tryz.ntmps59 [.tmp 8] rfl rfl rfl rfl fun _ _ _ _ => Rg [.a] (sg 48 [(0,vI (1 : Int)),(1,vI i0),(2,vL (eI .i64) n0.Hand),(3,vP [1] (0)),(4,vP [3] (0))] [bx [6] (encSPlayer n0),bx [3] [.mref [11]],⟨[11],none,[.mp d5],false⟩,bx [1] (encSState a0)] 88 [(1,vP [1] (0)),(3,vP [3] (0)),(4,.c (.clo 59 [.ptr [1] (0),.ptr [3] (0)])),(5,vI i0),(6,vP [6] (0)),(26,vL encSPlayer a0.Players),(27,vI (a0.Players.length : Int)),(28,vI i0),(37,vB j0),(38,vB (!j0)),(39,vB (!j0)),(40,.c (.clo 59 [.ptr [1] (0),.ptr [3] (0)])),(41,vI i0),(42,.g ((!j0) == false) (vP [6] (12))),(43,vL (eI .i64) n0.Hand)] [44]) (aN) <| Gj (X := (List (Int × Int))) (fun v => (uo [0,1,2,3,4] [] [.k 0,.k 1,.e (⟨[11],none,[.mp v],false⟩),.k 3])) (fun v => state_places_J87 a0 i0 n0 j0 v = some n2) ?_ ?_
       · refine Gg (nA 3) (u [2] [(13,vL (eI .i64) n0.Hand),(14,vI (n0.Hand.length : Int)),(15,vI (0 : Int))]) (aN) <| hB ?_
         obtain ⟨x12,z9,x1⟩ := bS x1
         refine Gi (fun (v : Int × (List (Int × Int))) => (uo [] [(15,vI v.1)] [.k 0,.k 1,.e (⟨[11],none,[.mp v.2],false⟩),.k 3])) z9 (wT) ?_
         rintro ⟨x2,t1⟩ i12 i1 t7
         replace i1 : state_places_B94 a0 i0 n0 x2 t1 = some i12 := i1
         unfold state_places_B94 at i1
         refine Gg [.a] (u [] [(16,vB (decide (x2 < (n0.Hand.length : Int))))]) (aN) <| hS <| iC i1 (fun i1 => ?_) (fun i1 => ?_)
         · refine hK <| Tn <| hS <| hB ?_
           obtain ⟨j3,n8,i1⟩ := bS i1
           refine Gg [.a,(.v (vI j3)),.a] (u [16] [(10,vI j3)]) (aC (idx_b n8) <| aC (eld n8 (lenI .i64) 0 1 false (vI j3)) <| aC (Eq.refl (vI j3)) <| aN) ?_
           obtain ⟨k5,x11,i1⟩ := bS i1
           refine Gg [.a,.a,(.c (.tup [vA encSObject k5.1,vB k5.2])),.a,.a,.a,.a,.a,.a] (uo [] [(11,vP [11,44] (0)),(12,vB k5.2)] [.e (bx [11,44] (encSObject k5.1)),.k 0,.k 1,.k 2,.k 3]) (aC (state_zonefind_ok x11) <| aC (show True ∧ 0 < [V.undef,V.undef].length from ⟨trivial,(by decide)⟩) <| aC (show True ∧ 1 < [V.undef,V.undef].length from ⟨trivial,(by decide)⟩) <| aN) <| hS ?_
           obtain ⟨p4,o11,b99,p11,x6,x8,i1⟩ := bS3 i1
           refine Gg [.a,.a,.a,.a,.a,.a,.a,(.v (vB p4)),.a,.a,.a,.a,.a,.a,.a,.a,(.v (vB b99)),(.v (vB x6))] (uo [11,12] [(42,vB x6)] [.k 1,.k 2,.k 3,.k 4]) (aG ((!k5.2) == false) <| aH ((!k5.2) == false) <| aF (!k5.2) <| aB o11 <| aG (p4 == false) <| aG (p4 == false) <| aG ((p4 == false) && ((decide ((0 : Int) ≤ i0)) == true)) <| aH ((p4 == false) && ((decide ((0 : Int) ≤ i0)) == true)) <| aC (fun hg : (p4 == false) = true => aC (gi (p4 == false)) <| aC (fun q : (decide ((0 : Int) ≤ i0)) = true => (gA hg (gT q))) <| aB p11 <| aN) <| aF p4 <| aB x8 <| aN) <| iC i1 (fun i1 => ?_) (fun i1 => ?_)
           · refine Gg [.a] (u [0,1,3,4,10,13,14,15,42] [(8,vB false)]) (aN) <| hR <| Tr <| qR <| Tr ?_
             obtain rfl := t7 _ (sI i1).symm
             replace x1 := sumR x1
             refine Tr <| qR <| Tr <| nR (vB false) ⟨(t1,false),x1,lT⟩
           refine hK <| Tn <| hO <| Gp 2 [.a,.a] (u [] [(43,.c (.mref [11])),(44,vI j3)]) (aN) <| Run.inl rfl rfl (Esc.mapGet (id := [11]) (kv := t1) (n := j3) rfl ?_)
           refine Rp 1 [.a] (sg 48 [(0,vI (1 : Int)),(1,vI i0),(3,vP [1] (0)),(4,vP [3] (0)),(10,vI j3),(13,vL (eI .i64) n0.Hand),(14,vI (n0.Hand.length : Int)),(15,vI x2),(42,vB x6),(43,.c (.mref [11])),(44,vI j3),(45,vI (mGet t1 j3)),(46,vI (wrap64 ((mGet t1 j3) + (1 : Int))))] [bx [6] (encSPlayer n0),bx [3] [.mref [11]],⟨[11],none,[.mp t1],false⟩,bx [1] (encSState a0)] 88 [(1,vP [1] (0)),(3,vP [3] (0)),(4,.c (.clo 59 [.ptr [1] (0),.ptr [3] (0)])),(5,vI i0),(6,vP [6] (0)),(26,vL encSPlayer a0.Players),(27,vI (a0.Players.length : Int)),(28,vI i0),(37,vB j0),(38,vB (!j0)),(39,vB (!j0)),(40,.c (.clo 59 [.ptr [1] (0),.ptr [3] (0)])),(41,vI i0),(42,.g ((!j0) == false) (vP [6] (12))),(43,vL (eI .i64) n0.Hand)] [44]) (aN) <| Run.inl rfl rfl (Esc.mapSet (id := [11]) (kv := t1) (n := j3) (z := (wrap64 ((mGet t1 j3) + (1 : Int)))) rfl rfl ?_)
           refine Gw [] (u [] []) (aN) <| qN <| Tn <| Ge [.a,.a] (u [] [(15,vI (wrap64 (x2 + (1 : Int)))),(47,vI (wrap64 (x2 + (1 : Int))))]) (aN) <| Tn ⟨((wrap64 (x2 + (1 : Int))),(mSet t1 j3 (wrap64 ((mGet t1 j3) + (1 : Int))))),(sI i1).symm,wT⟩
         refine hE <| Te ?_
         obtain rfl := t7 _ (sI i1).symm
         replace x1 := sumL x1
         refine Te <| qX <| Tn ⟨t1,x1,wT⟩
       rintro t6 z5
       replace z5 : state_places_J87 a0 i0 n0 j0 t6 = some n2 := z5
       unfold state_places_J87 at z5
       refine Gg [.a] (u [] [(8,vB true)]) (aN) <| hR <| nR (vB true) ⟨(t6,true),z5,lT⟩
     · replace x1 := iF x1 y3
       exact ⟨(d5,false),vB false,x1,lT⟩
     rintro ⟨o6,y7⟩ n1
     replace n1 : state_places_J63 a0 i0 n0 j0 o6 y7 = some n2 := n1
     unfold state_places_J63 at n1
     obtain ⟨z1,i11,n1⟩ := bS n1
     refine Gp 7 [.a,(.v (vB z1)),.a,.a,.a,.a,.a] (u [] [(45,.g ((!j0) == false) (vB (!y7))),(46,vB z1),(47,vB z1),(48,.g (z1 == false) (.c (.clo 59 [.ptr [1] (0),.ptr [3] (0)]))),(49,.g (z1 == false) (vI i0)),(50,.g (z1 == false) (vP [6] (13))),(51,.g (z1 == false) (vL (eI .i64) n0.Graveyard))]) (aG ((!j0) == false) <| aF (!j0) <| aB i11 <| aG (z1 == false) <| aN) <| Ng (X := (List (Int × Int)) × Bool) (g := (z1 == false)) (fun v => (uo [5,6,39,44,45,46,48,49,50,51] [(52,.g (z1 == false) (vB v.2))] [.k 1,.e (⟨[11],none,[.mp v.1],false⟩),.k 3])) (fun v => state_places_J67 i0 z1 v.1 v.2 = some n2) 52 rfl rfl rfl (fun z3 => ?_) (fun z3 => ?_) ?_
     · replace n1 := iT n1 z3
       refine Esc.ung (x := .c (.clo 59 [.ptr [1] (0),.ptr [3] (0)])) 48 z3 <| Esc.ung (x := vI i0) 49 z3 <| Esc.ung (x := vL (eI .i64) n0.Graveyard) 51 z3 <| Ei 52 [vI (3 : Int),vI i0,vL (eI .i64) n0.Graveyard] [.ptr [1] (0),.ptr [3] (0)] Tryz.func59 Tryz.ntmps59 [.tmp 8] rfl rfl rfl rfl fun _ _ _ _ => Gg [.a] (u [] []) (aN) <| Gj (X := (List (Int × Int))) (fun v => (uo [0,1,2,3,4] [] [.k 0,.k 1,.e (⟨[11],none,[.mp v],false⟩),.k 3])) (fun v => state_places_J71 i0 z1 v = some n2) ?_ ?_
       · refine Gg (nA 3) (u [2] [(13,vL (eI .i64) n0.Graveyard),(14,vI (n0.Graveyard.length : Int)),(15,vI (0 : Int))]) (aN) <| hB ?_
         obtain ⟨t12,y9,n1⟩ := bS n1
         refine Gi (fun (v : Int × (List (Int × Int))) => (uo [] [(15,vI v.1)] [.k 0,.k 1,.e (⟨[11],none,[.mp v.2],false⟩),.k 3])) y9 (wT) ?_
         rintro ⟨t2,y1⟩ d12 d1 q7
         replace d1 : state_places_B78 a0 i0 n0 t2 y1 = some d12 := d1
         unfold state_places_B78 at d1
         refine Gg [.a] (u [] [(16,vB (decide (t2 < (n0.Graveyard.length : Int))))]) (aN) <| hS <| iC d1 (fun d1 => ?_) (fun d1 => ?_)
         · refine hK <| Tn <| hS <| hB ?_
           obtain ⟨x3,m8,d1⟩ := bS d1
           refine Rg [.a,(.v (vI x3)),.a] (sg 48 [(0,vI (3 : Int)),(1,vI i0),(3,vP [1] (0)),(4,vP [3] (0)),(10,vI x3),(13,vL (eI .i64) n0.Graveyard),(14,vI (n0.Graveyard.length : Int)),(15,vI t2)] [bx [6] (encSPlayer n0),bx [3] [.mref [11]],⟨[11],none,[.mp y1],false⟩,bx [1] (encSState a0)] 88 [(1,vP [1] (0)),(3,vP [3] (0)),(4,.c (.clo 59 [.ptr [1] (0),.ptr [3] (0)])),(5,vI i0),(6,vP [6] (0)),(26,vL encSPlayer a0.Players),(27,vI (a0.Players.length : Int)),(28,vI i0),(39,vB (!j0)),(44,.g ((!j0) == false) (vB y7)),(45,.g ((!j0) == false) (vB (!y7))),(46,vB z1),(47,vB z1),(48,.c (.clo 59 [.ptr [1] (0),.ptr [3] (0)])),(49,vI i0),(50,.g (z1 == false) (vP [6] (13))),(51,vL (eI .i64) n0.Graveyard)] [52]) (aC (idx_b m8) <| aC (eld m8 (lenI .i64) 0 1 false (vI x3)) <| aC (Eq.refl (vI x3)) <| aN) ?_
           obtain ⟨j5,t11,d1⟩ := bS d1
           refine Gg [.a,.a,(.c (.tup [vA encSObject j5.1,vB j5.2])),.a,.a,.a,.a,.a,.a] (uo [] [(11,vP [11,52] (0)),(12,vB j5.2)] [.e (bx [11,52] (encSObject j5.1)),.k 0,.k 1,.k 2,.k 3]) (aC (state_zonefind_ok t11) <| aC (show True ∧ 0 < [V.undef,V.undef].length from ⟨trivial,(by decide)⟩) <| aC (show True ∧ 1 < [V.undef,V.undef].length from ⟨trivial,(by decide)⟩) <| aN) <| hS ?_
           obtain ⟨o4,k11,b83,m11,b84,n11,d1⟩ := bS3 d1
           refine Gg [.a,.a,.a,.a,.a,.a,.a,(.v (vB o4)),.a,.a,.a,.a,.a,.a,.a,.a,(.v (vB b83)),(.v (vB b84))] (uo [11,12] [(42,vB b84)] [.k 1,.k 2,.k 3,.k 4]) (aG ((!j5.2) == false) <| aH ((!j5.2) == false) <| aF (!j5.2) <| aB k11 <| aG (o4 == false) <| aG (o4 == false) <| aG ((o4 == false) && ((decide ((0 : Int) ≤ i0)) == true)) <| aH ((o4 == false) && ((decide ((0 : Int) ≤ i0)) == true)) <| aC (fun hg : (o4 == false) = true => aC (gi (o4 == false)) <| aC (fun q : (decide ((0 : Int) ≤ i0)) = true => (gA hg (gT q))) <| aB m11 <| aN) <| aF o4 <| aB n11 <| aN) <| iC d1 (fun d1 => ?_) (fun d1 => ?_)
           · refine Gg [.a] (u [0,1,3,4,10,13,14,15,42] [(8,vB false)]) (aN) <| hR <| Tr <| qR <| Tr ?_
             obtain rfl := q7 _ (sI d1).symm
             replace n1 := sumR n1
             refine Tr <| qR <| Tr <| nR (vB false) ⟨(y1,false),n1,lT⟩
           refine hK <| Tn <| hO <| Gp 2 [.a,.a] (u [] [(43,.c (.mref [11])),(44,vI x3)]) (aN) <| Run.inl rfl rfl (Esc.mapGet (id := [11]) (kv := y1) (n := x3) rfl ?_)
           refine Gp 1 [.a] (u [] [(46,vI (wrap64 ((mGet y1 x3) + (1 : Int))))]) (aN) <| Run.inl rfl rfl (Esc.mapSet (id := [11]) (kv := y1) (n := x3) (z := (wrap64 ((mGet y1 x3) + (1 : Int)))) rfl rfl ?_)
           refine Gw [] (u [] []) (aN) <| qN <| Tn <| Ge [.a,.a] (u [] [(15,vI (wrap64 (t2 + (1 : Int)))),(47,vI (wrap64 (t2 + (1 : Int))))]) (aN) <| Tn ⟨((wrap64 (t2 + (1 : Int))),(mSet y1 x3 (wrap64 ((mGet y1 x3) + (1 : Int))))),(sI d1).symm,wT⟩
         refine hE <| Te ?_
         obtain rfl := q7 _ (sI d1).symm
         replace n1 := sumL n1
         refine Te <| qX <| Tn ⟨y1,n1,wT⟩
       rintro q6 y5
       replace y5 : state_places_J71 i0 z1 q6 = some n2 := y5
       unfold state_places_J71 at y5
       refine Gg [.a] (u [] [(8,vB true)]) (aN) <| hR <| nR (vB true) ⟨(q6,true),y5,lT⟩
     · replace n1 := iF n1 z3
       exact ⟨(o6,false),vB false,n1,lT⟩
     rintro ⟨p6,q66⟩ m3
     replace m3 : state_places_J67 i0 z1 p6 q66 = some n2 := m3
     unfold state_places_J67 at m3
     obtain ⟨b68,j11,m3⟩ := bS m3
     refine Gw [.a,(.v (vB b68))] (u [] [(53,.g (z1 == false) (vB (!q66))),(54,vB b68)]) (aG (z1 == false) <| aF z1 <| aB j11 <| aN) <| Tn <| iC m3 (fun m3 => ?_) (fun m3 => ?_)
     · refine Rg [.a] (sl 88 [(2,vB false)] []) (aN) <| hR <| qR <| Tr ?_
       obtain rfl := p7 _ (sI m3).symm
       replace o2 := sumR o2
       exact Tr <| qR <| Tr <| bQ _ (kB o2)
     refine hK <| qN <| Tn <| Ge [.a,.a] (u [] [(28,vI (wrap64 (i0 + (1 : Int)))),(55,vI (wrap64 (i0 + (1 : Int))))]) (aN) <| Tn ⟨((wrap64 (i0 + (1 : Int))),p6),(sI m3).symm,wT⟩
   refine hE <| Te ?_
   obtain rfl := p7 _ (sI j1).symm
   replace o2 := sumL o2
   refine Te <| qX <| Tn ⟨z4,o2,wT⟩
 rintro k10 z2
 replace z2 : state_places_J10 a0 k10 = some r := z2
 unfold state_places_J10 at z2
 refine Gj (X := (List (Int × Int))) (fun v => (uo [4] [] [.k 0,.e (⟨[11],none,[.mp v],false⟩),.k 2])) (fun v => state_places_J12 a0 v = some r) ?_ ?_
 · refine Gg (nA 4) (u [] [(57,vL encSItem a0.Stack),(58,vI (a0.Stack.length : Int)),(59,vI (0 : Int))]) (aN) <| hB ?_
   obtain ⟨o12,q9,z2⟩ := bS z2
   refine Gi (fun (v : Int × (List (Int × Int))) => (uo [] [(59,vI v.1)] [.k 0,.e (⟨[11],none,[.mp v.2],false⟩),.k 2])) q9 (wT) ?_
   rintro ⟨x0,o3⟩ m5 o0 n7
   replace o0 : state_places_B25 a0 x0 o3 = some m5 := o0
   unfold state_places_B25 at o0
   refine Gg [.a] (u [] [(60,vB (decide (x0 < (a0.Stack.length : Int))))]) (aN) <| hS <| iC o0 (fun o0 => ?_) (fun o0 => ?_)
   · refine hK <| Tn <| hS <| hB ?_
     obtain ⟨k0,i8,o0⟩ := bS o0
     refine Gg [.a,(.v (vA encSItem k0)),.a,.a] (uo [60] [(8,vP [8] (0))] [.e (bx [8] (encSItem k0)),.k 0,.k 1,.k 2]) (aC (idx_b i8) <| aC (eld i8 lenSItem 0 94 true (vA encSItem k0)) <| aC (Eq.refl (vA encSItem k0)) <| aN) <| hS <| hO <| Gp 7 (nA 7) (u [] [(63,vP [8] (1)),(64,vI k0.Kind),(65,vB (k0.Kind == (1 : Int))),(66,vB (k0.Kind == (1 : Int))),(67,.g ((k0.Kind == (1 : Int)) == true) (.c (.clo 59 [.ptr [1] (0),.ptr [3] (0)]))),(68,.g ((k0.Kind == (1 : Int)) == true) (vP [8] (0))),(69,.g ((k0.Kind == (1 : Int)) == true) (vI k0.Id))]) (aG ((k0.Kind == (1 : Int)) == true) <| aN) <| Run.inlgJ (X := Unit) (g := ((k0.Kind == (1 : Int)) == true)) (fun _ => (sl 88 [(1,vP [1] (0)),(3,vP [3] (0)),(4,.c (.clo 59 [.ptr [1] (0),.ptr [3] (0)])),(8,vP [8] (0)),(57,vL encSItem a0.Stack),(58,vI (a0.Stack.length : Int)),(59,vI x0),(63,vP [8] (1)),(64,vI k0.Kind),(65,vB (k0.Kind == (1 : Int))),(66,vB (k0.Kind == (1 : Int))),(67,.g ((k0.Kind == (1 : Int)) == true) (.c (.clo 59 [.ptr [1] (0),.ptr [3] (0)]))),(68,.g ((k0.Kind == (1 : Int)) == true) (vP [8] (0))),(70,.g ((k0.Kind == (1 : Int)) == true) (vL (eI .i64) ([k0.Id] : List (Int))))] [bx [8] (encSItem k0),bx [3] [.mref [11]],⟨[11],none,[.mp o3],false⟩,bx [1] (encSState a0)])) (fun _ => True) 70 rfl rfl rfl (fun o8 => ?_) (fun o8 => ⟨(),vL (eI .i64) ([k0.Id] : List (Int)),trivial,lT⟩) ?_
     · skip
       exact Esc.ung (x := vI k0.Id) 69 o8 <| Esc.frz [70] (s := .a) (l := []) (st1 := (sl 88 [(1,vP [1] (0)),(3,vP [3] (0)),(4,.c (.clo 59 [.ptr [1] (0),.ptr [3] (0)])),(8,vP [8] (0)),(57,vL encSItem a0.Stack),(58,vI (a0.Stack.length : Int)),(59,vI x0),(63,vP [8] (1)),(64,vI k0.Kind),(65,vB (k0.Kind == (1 : Int))),(66,vB (k0.Kind == (1 : Int))),(67,.g ((k0.Kind == (1 : Int)) == true) (.c (.clo 59 [.ptr [1] (0),.ptr [3] (0)]))),(68,.g ((k0.Kind == (1 : Int)) == true) (vP [8] (0))),(69,vI k0.Id),(70,vO [70])] [rw_ [70] 3 1 (eI .i64) ([k0.Id] : List (Int)),bx [8] (encSItem k0),bx [3] [.mref [11]],⟨[11],none,[.mp o3],false⟩,bx [1] (encSState a0)])) aN ⟨(),trivial,lT⟩
     rintro _ _
     refine Gp 0 [] (u [] []) (aN) <| Run.inlgJ (X := (List (Int × Int)) × Bool) (g := ((k0.Kind == (1 : Int)) == true)) (fun v => (sl 88 [(1,vP [1] (0)),(3,vP [3] (0)),(4,.c (.clo 59 [.ptr [1] (0),.ptr [3] (0)])),(57,vL encSItem a0.Stack),(58,vI (a0.Stack.length : Int)),(59,vI x0),(66,vB (k0.Kind == (1 : Int))),(71,.g ((k0.Kind == (1 : Int)) == true) (vB v.2))] [bx [3] [.mref [11]],⟨[11],none,[.mp v.1],false⟩,bx [1] (encSState a0)])) (fun v => state_places_J31 x0 k0 v.1 v.2 = some m5) 71 rfl rfl rfl (fun m4 => ?_) (fun m4 => ?_) ?_
     · replace o0 := iT o0 m4
       refine Esc.ung (x := .c (.clo 59 [.ptr [1] (0),.ptr [3] (0)])) 67 m4 <| Esc.ung (x := vL (eI .i64) ([k0.Id] : List (Int))) 70 m4 <| Ei 71 [vI (5 : Int),vI (-1 : Int),vL (eI .i64) ([k0.Id] : List (Int))] [.ptr [1] (0),.ptr [3] (0)] Tryz.func59 Tryz.ntmps59 [.tmp 8] rfl rfl rfl rfl fun _ _ _ _ => Rg [.a] (sg 48 [(0,vI (5 : Int)),(1,vI (-1 : Int)),(2,vL (eI .i64) ([k0.Id] : List (Int))),(3,vP [1] (0)),(4,vP [3] (0))] [bx [8] (encSItem k0),bx [3] [.mref [11]],⟨[11],none,[.mp o3],false⟩,bx [1] (encSState a0)] 88 [(1,vP [1] (0)),(3,vP [3] (0)),(4,.c (.clo 59 [.ptr [1] (0),.ptr [3] (0)])),(8,vP [8] (0)),(57,vL encSItem a0.Stack),(58,vI (a0.Stack.length : Int)),(59,vI x0),(63,vP [8] (1)),(64,vI k0.Kind),(65,vB (k0.Kind == (1 : Int))),(66,vB (k0.Kind == (1 : Int))),(67,.c (.clo 59 [.ptr [1] (0),.ptr [3] (0)])),(68,.g ((k0.Kind == (1 : Int)) == true) (vP [8] (0))),(70,vL (eI .i64) ([k0.Id] : List (Int)))] [71]) (aN) <| Gj (X := (List (Int × Int))) (fun v => (uo [0,1,2,3,4] [] [.k 0,.k 1,.e (⟨[11],none,[.mp v],false⟩),.k 3])) (fun v => state_places_J35 x0 k0 v = some m5) ?_ ?_
       · refine Gg (nA 3) (u [2] [(13,vL (eI .i64) ([k0.Id] : List (Int))),(14,vI (([k0.Id] : List (Int)).length : Int)),(15,vI (0 : Int))]) (aN) <| hB ?_
         obtain ⟨p12,t9,o0⟩ := bS o0
         refine Gi (fun (v : Int × (List (Int × Int))) => (uo [] [(15,vI v.1)] [.k 0,.k 1,.e (⟨[11],none,[.mp v.2],false⟩),.k 3])) t9 (wT) ?_
         rintro ⟨q2,q1⟩ z11 z0 o7
         replace z0 : state_places_B42 a0 k0 q2 q1 = some z11 := z0
         unfold state_places_B42 at z0
         refine Gg [.a] (u [] [(16,vB (decide (q2 < (([k0.Id] : List (Int)).length : Int))))]) (aN) <| hS <| iC z0 (fun z0 => ?_) (fun z0 => ?_)
         · refine hK <| Tn <| hS <| hB ?_
           obtain ⟨i3,j8,z0⟩ := bS z0
           refine Gg [.a,(.v (vI i3)),.a] (u [16] [(10,vI i3)]) (aC (idx_b j8) <| aC (eld j8 (lenI .i64) 0 1 false (vI i3)) <| aC (Eq.refl (vI i3)) <| aN) ?_
           obtain ⟨i5,q11,z0⟩ := bS z0
           refine Gg [.a,.a,(.c (.tup [vA encSObject i5.1,vB i5.2])),.a,.a,.a,.a,.a,.a] (uo [] [(11,vP [11,71] (0)),(12,vB i5.2)] [.e (bx [11,71] (encSObject i5.1)),.k 0,.k 1,.k 2,.k 3]) (aC (state_zonefind_ok q11) <| aC (show True ∧ 0 < [V.undef,V.undef].length from ⟨trivial,(by decide)⟩) <| aC (show True ∧ 1 < [V.undef,V.undef].length from ⟨trivial,(by decide)⟩) <| aN) <| hS ?_
           obtain ⟨n4,y10,b47,z10,z7,d11,z0⟩ := bS3 z0
           refine Gg [.a,.a,.a,.a,.a,.a,.a,(.v (vB n4)),.a,.a,.a,.a,.a,.a,.a,.a,(.v (vB b47)),(.v (vB z7))] (uo [11,12] [(42,vB z7)] [.k 1,.k 2,.k 3,.k 4]) (aG ((!i5.2) == false) <| aH ((!i5.2) == false) <| aF (!i5.2) <| aB y10 <| aG (n4 == false) <| aG (n4 == false) <| aG ((n4 == false) && ((decide ((0 : Int) ≤ (-1 : Int))) == true)) <| aH ((n4 == false) && ((decide ((0 : Int) ≤ (-1 : Int))) == true)) <| aC (fun hg : (n4 == false) = true => aC (gi (n4 == false)) <| aC (fun q : (decide ((0 : Int) ≤ (-1 : Int))) = true => (gA hg (gT q))) <| aB z10 <| aN) <| aF n4 <| aB d11 <| aN) <| iC z0 (fun z0 => ?_) (fun z0 => ?_)
           · refine Gg [.a] (u [0,1,3,4,10,13,14,15,42] [(8,vB false)]) (aN) <| hR <| Tr <| qR <| Tr ?_
             obtain rfl := o7 _ (sI z0).symm
             replace o0 := sumR o0
             refine Tr <| qR <| Tr <| nR (vB false) ⟨(q1,false),o0,lT⟩
           refine hK <| Tn <| hO <| Gp 2 [.a,.a] (u [] [(43,.c (.mref [11])),(44,vI i3)]) (aN) <| Run.inl rfl rfl (Esc.mapGet (id := [11]) (kv := q1) (n := i3) rfl ?_)
           refine Rp 1 [.a] (sg 48 [(0,vI (5 : Int)),(1,vI (-1 : Int)),(3,vP [1] (0)),(4,vP [3] (0)),(10,vI i3),(13,vL (eI .i64) ([k0.Id] : List (Int))),(14,vI (([k0.Id] : List (Int)).length : Int)),(15,vI q2),(42,vB z7),(43,.c (.mref [11])),(44,vI i3),(45,vI (mGet q1 i3)),(46,vI (wrap64 ((mGet q1 i3) + (1 : Int))))] [bx [8] (encSItem k0),bx [3] [.mref [11]],⟨[11],none,[.mp q1],false⟩,bx [1] (encSState a0)] 88 [(1,vP [1] (0)),(3,vP [3] (0)),(4,.c (.clo 59 [.ptr [1] (0),.ptr [3] (0)])),(8,vP [8] (0)),(57,vL encSItem a0.Stack),(58,vI (a0.Stack.length : Int)),(59,vI x0),(63,vP [8] (1)),(64,vI k0.Kind),(65,vB (k0.Kind == (1 : Int))),(66,vB (k0.Kind == (1 : Int))),(67,.c (.clo 59 [.ptr [1] (0),.ptr [3] (0)])),(68,.g ((k0.Kind == (1 : Int)) == true) (vP [8] (0))),(70,vL (eI .i64) ([k0.Id] : List (Int)))] [71]) (aN) <| Run.inl rfl rfl (Esc.mapSet (id := [11]) (kv := q1) (n := i3) (z := (wrap64 ((mGet q1 i3) + (1 : Int)))) rfl rfl ?_)
           refine Gw [] (u [] []) (aN) <| qN <| Tn <| Ge [.a,.a] (u [] [(15,vI (wrap64 (q2 + (1 : Int)))),(47,vI (wrap64 (q2 + (1 : Int))))]) (aN) <| Tn ⟨((wrap64 (q2 + (1 : Int))),(mSet q1 i3 (wrap64 ((mGet q1 i3) + (1 : Int))))),(sI z0).symm,wT⟩
         refine hE <| Te ?_
         obtain rfl := o7 _ (sI z0).symm
         replace o0 := sumL o0
         refine Te <| qX <| Tn ⟨q1,o0,wT⟩
       rintro n6 x5
       replace x5 : state_places_J35 x0 k0 n6 = some m5 := x5
       unfold state_places_J35 at x5
       refine Gg [.a] (u [] [(8,vB true)]) (aN) <| hR <| nR (vB true) ⟨(n6,true),x5,lT⟩
     · replace o0 := iF o0 m4
       exact ⟨(o3,false),vB false,o0,lT⟩
     rintro ⟨m6,q30⟩ k3
     replace k3 : state_places_J31 x0 k0 m6 q30 = some m5 := k3
     unfold state_places_J31 at k3
     obtain ⟨b32,x10,k3⟩ := bS k3
     refine Gw [.a,(.v (vB b32))] (u [] [(72,.g ((k0.Kind == (1 : Int)) == true) (vB (!q30))),(73,vB b32)]) (aG ((k0.Kind == (1 : Int)) == true) <| aT (k0.Kind == (1 : Int)) <| aB x10 <| aN) <| Tn <| iC k3 (fun k3 => ?_) (fun k3 => ?_)
     · refine Rg [.a] (sl 88 [(2,vB false)] []) (aN) <| hR <| qR <| Tr ?_
       obtain rfl := n7 _ (sI k3).symm
       replace z2 := sumR z2
       exact Tr <| qR <| Tr <| bQ _ (kB z2)
     refine hK <| qN <| Tn <| Ge [.a,.a] (u [] [(59,vI (wrap64 (x0 + (1 : Int)))),(74,vI (wrap64 (x0 + (1 : Int))))]) (aN) <| Tn ⟨((wrap64 (x0 + (1 : Int))),m6),(sI k3).symm,wT⟩
   refine hE <| Te ?_
   obtain rfl := n7 _ (sI o0).symm
   replace z2 := sumL z2
   refine Te <| qX <| Tn ⟨o3,z2,wT⟩
 rintro n3 d3
 replace d3 : state_places_J12 a0 n3 = some r := d3
 unfold state_places_J12 at d3
 refine Sj (X := Unit) (fun v => (sl 88 [] [])) (fun v => state_places_J13 = some r) ?_ ?_
 · refine Gg (nA 4) (uo [1] [(76,vL encSObject a0.Objects),(77,vI (a0.Objects.length : Int)),(78,vI (0 : Int))] [.k 0,.k 1]) (aN) <| hB ?_
   obtain ⟨n12,p9,d3⟩ := bS d3
   refine Gi (fun (v : Int) => (u [] [(78,vI v)])) p9 (wT) ?_
   rintro y2 y11 o1 m7
   replace o1 : state_places_B16 a0 n3 y2 = some y11 := o1
   unfold state_places_B16 at o1
   refine Gg [.a] (u [] [(79,vB (decide (y2 < (a0.Objects.length : Int))))]) (aN) <| hS <| iC o1 (fun o1 => ?_) (fun o1 => ?_)
   · refine hK <| Tn <| hS <| hB ?_
     obtain ⟨d4,d8,o1⟩ := bS o1
     refine Gg [.a,(.v (vA encSObject d4)),.a,.a] (uo [79] [(10,vP [10] (0))] [.e (bx [10] (encSObject d4)),.k 0,.k 1]) (aC (idx_b d8) <| aC (eld d8 lenSObject 0 19 true (vA encSObject d4)) <| aC (Eq.refl (vA encSObject d4)) <| aN) <| hS <| hO <| Gp 3 (nA 3) (u [] [(82,.c (.mref [11])),(83,vP [10] (0)),(84,vI d4.Id)]) (aN) <| Run.inl rfl rfl (Esc.mapGet (id := [11]) (kv := n3) (n := d4.Id) rfl ?_)
     refine Rw [.a] (sl 88 [(3,vP [3] (0)),(10,vP [10] (0)),(76,vL encSObject a0.Objects),(77,vI (a0.Objects.length : Int)),(78,vI y2),(82,.c (.mref [11])),(83,vP [10] (0)),(84,vI d4.Id),(85,vI (mGet n3 d4.Id)),(86,vB ((mGet n3 d4.Id) != (1 : Int)))] [bx [10] (encSObject d4),bx [3] [.mref [11]],⟨[11],none,[.mp n3],false⟩]) (aN) <| Tn <| iC o1 (fun o1 => ?_) (fun o1 => ?_)
     · refine Rg [.a] (sl 88 [(2,vB false)] []) (aN) <| hR <| qR <| Tr ?_
       obtain rfl := m7 _ (sI o1).symm
       replace d3 := sumR d3
       exact Tr <| qR <| Tr <| bQ _ (kB d3)
     refine hK <| qN <| Tn <| Ge [.a,.a] (u [] [(78,vI (wrap64 (y2 + (1 : Int)))),(87,vI (wrap64 (y2 + (1 : Int))))]) (aN) <| Tn ⟨(wrap64 (y2 + (1 : Int))),(sI o1).symm,wT⟩
   refine hE <| Te ?_
   obtain rfl := m7 _ (sI o1).symm
   replace d3 := sumL d3
   refine Te <| qX <| Tn ⟨(),d3,wT⟩
 rintro _ t5
 replace t5 : state_places_J13 = some r := t5
 unfold state_places_J13 at t5
 exact Rg [.a] (sl 88 [(2,vB true)] []) (aN) <| hR <| bQ _ (kB t5)
def state_items_J1 (a0 : SState) : Option (Bool) :=
 some (decide ((a0.Stack.length : Int) ≤ (64 : Int)))
def state_items_B2 (a0 : SState) : Option ((Unit) ⊕ (Unit)) :=
 (if (decide ((0 : Int) < (a0.Stack.length : Int))) = true then
  (idx a0.Stack (0 : Int)).bind fun e4 =>
  (state_zonefind a0 e4.Id).bind fun r5 =>
  none
 else
  some (.inr ()))
/-- cardgame/state.items -/
def state_items (a0 : SState) : Option (Bool) :=
 (iter (fun (v : Unit) => state_items_B2 a0) FU ()).bind (fun o0 => state_items_J1 a0)
def state_items_C (a0 : SState) (r : Bool) : Prop := PCall Tryz.prog I0 29 [vA encSState a0] (· = vB r)
theorem state_items_ok {a0 : SState} {r : Bool} (h : state_items a0 = some r) : state_items_C a0 r := by
 refine PCall.bo I0_stable Tryz.func29 rfl Tryz.ntmps29 [.tmp 2] fun _ _ _ _ => ?_
 unfold state_items at h
 refine Rg [.a,.a] (sl 95 [(1,vP [1] (0))] [bx [1] (encSState a0)]) (aN) <| hS <| hO <| Gp 0 [] (u [] []) (aN) <| Run.inl rfl rfl (Esc.mkMap 9 rfl rfl ?_)
 refine Gw [.a] (u [] [(3,.c (.mref [9]))]) (aN) <| Tn <| Gj (X := Unit) (fun v => (uo [3,9] [] [.k 1])) (fun v => state_items_J1 a0 = some r) ?_ ?_
 · refine Gg (nA 4) (u [9] [(11,vL encSItem a0.Stack),(12,vI (a0.Stack.length : Int)),(13,vI (0 : Int))]) (aN) <| hB ?_
   obtain ⟨q0,m0,h⟩ := bS h
   refine Gi (fun (v : Unit) => (u [] [])) m0 (wT) ?_
   rintro _ p0 i0 n0
   replace i0 : state_items_B2 a0 = some p0 := i0
   unfold state_items_B2 at i0
   refine Gg [.a] (u [] [(14,vB (decide ((0 : Int) < (a0.Stack.length : Int))))]) (aN) <| hS <| iC i0 (fun i0 => ?_) (fun i0 => ?_)
   · refine hK <| Tn <| hS <| hB ?_
     obtain ⟨e4,k0,i0⟩ := bS i0
     refine Gg [.a,(.v (vA encSItem e4)),.a,.a] (uo [14] [(5,vP [5] (0))] [.e (bx [5] (encSItem e4)),.k 0,.k 1]) (aC (idx_b k0) <| aC (eld k0 lenSItem 0 94 true (vA encSItem e4)) <| aC (Eq.refl (vA encSItem e4)) <| aN) <| hS <| hO <| Gp 3 (nA 3) (u [] [(17,.c (.mref [9])),(18,vP [5] (0)),(19,vI e4.Id)]) (aN) <| Run.inl rfl rfl (Esc.mapGet (id := [9]) (kv := ([] : List (Int × Int))) (n := e4.Id) rfl ?_)
     refine Rp 1 [.a] (sl 95 [(1,vP [1] (0)),(3,.c (.mref [9])),(5,vP [5] (0)),(11,vL encSItem a0.Stack),(12,vI (a0.Stack.length : Int)),(13,vI (0 : Int)),(17,.c (.mref [9])),(18,vP [5] (0)),(19,vI e4.Id),(20,vI (mGet ([] : List (Int × Int)) e4.Id)),(21,vI (wrap64 ((mGet ([] : List (Int × Int)) e4.Id) + (1 : Int))))] [bx [5] (encSItem e4),⟨[9],none,[.mp ([] : List (Int × Int))],false⟩,bx [1] (encSState a0)]) (aN) <| Run.inl rfl rfl (Esc.mapSet (id := [9]) (kv := ([] : List (Int × Int))) (n := e4.Id) (z := (wrap64 ((mGet ([] : List (Int × Int)) e4.Id) + (1 : Int)))) rfl rfl ?_)
     refine Gw [] (u [] []) (aN) <| Tn ?_
     obtain ⟨r5,o0,i0⟩ := bS i0
     refine Gg [.a,.a,.a,(.c (.tup [vA encSObject r5.1,vB r5.2])),.a,.a,.a,.a,.a,.a] (u [17,18,19,20,21] [(7,vB r5.2)]) (aC (state_zonefind_ok o0) <| aC (show True ∧ 0 < [V.undef,V.undef].length from ⟨trivial,(by decide)⟩) <| aC (show True ∧ 1 < [V.undef,V.undef].length from ⟨trivial,(by decide)⟩) <| aN) ?_
     cases i0
   refine hE <| Te ?_
   obtain rfl := n0 _ (sI i0).symm
   refine Te <| qX <| Tn ⟨(),h,wT⟩
 rintro _ j0
 replace j0 : state_items_J1 a0 = some r := j0
 unfold state_items_J1 at j0
 exact Rg (nA 5) (sl 95 [(2,vB (decide ((a0.Stack.length : Int) ≤ (64 : Int))))] []) (aN) <| hR <| bQ _ (kB j0)
def layer_Forces_J4  (l5_3 : List (SForce)) : Option ((List (SForce))) :=
 some l5_3
def layer_Forces_B10 (a1 : SState) (vt56_7 : Int) (l5_8 : List (SForce)) : Option ((Int × (List (SForce))) ⊕ ((List (SForce)))) :=
 (if (decide (vt56_7 < (a1.Conts.length : Int))) = true then
  (idx a1.Conts vt56_7).bind fun e12 =>
  (slices_Clone_int_int e12.Objects).bind fun r13 =>
  (slices_Clone_api_Mod_api_Mod e12.Mods).bind fun r14 =>
  (app 224 l5_8 ([(⟨e12.Source, (-1 : Int), e12.Control, e12.Stamp, true, r13, (⟨(0 : Int), (0 : Int), (0 : Int), (0 : Int), (0 : Int), (0 : Int), (0 : Int), [], (0 : Int), (0 : Int), (⟨(0 : Int), (0 : Int)⟩ : SBound), (⟨(0 : Int), (0 : Int)⟩ : SBound), (⟨(0 : Int), (0 : Int)⟩ : SBound)⟩ : SFilter), r14⟩ : SForce)] : List (SForce))).bind fun l15 =>
  some (.inl ((wrap64 (vt56_7 + (1 : Int))), l15))
 else
  some (.inr l5_8))
def layer_Forces_J2 (a1 : SState) (l5_1 : List (SForce)) : Option ((List (SForce))) :=
 (iter (fun (v : Int × (List (SForce))) => layer_Forces_B10 a1 v.1 v.2) FU ((0 : Int), l5_1)).bind (fun o0 => layer_Forces_J4 o0)
def layer_Forces_J24 (vt15_18 : Int) (l5_23 : List (SForce)) : Option ((Int × (List (SForce))) ⊕ ((List (SForce)))) :=
 some (.inl ((wrap64 (vt15_18 + (1 : Int))), l5_23))
def layer_Forces_J36 (vt27_30 : Int) (l5_35 : List (SForce)) : Option ((Int × (List (SForce))) ⊕ ((List (SForce)))) :=
 some (.inl ((wrap64 (vt27_30 + (1 : Int))), l5_35))
def layer_Forces_B33 (e25 : SObject) (r27 : STraits) (vt27_30 : Int) (l5_31 : List (SForce)) : Option ((Int × (List (SForce))) ⊕ ((List (SForce)))) :=
 (if (decide (vt27_30 < (r27.Abilities.length : Int))) = true then
  (idx r27.Abilities vt27_30).bind fun e37 =>
  (if (e37.Kind == (1 : Int)) = true then
   (slices_Clone_api_Mod_api_Mod e37.Mods).bind fun r39 =>
   (app 224 l5_31 ([(⟨e25.Id, vt27_30, e25.Control, e25.Stamp, false, ([] : List (Int)), e37.Filter, r39⟩ : SForce)] : List (SForce))).bind fun l40 =>
   layer_Forces_J36 vt27_30 l40
  else
   layer_Forces_J36 vt27_30 l5_31)
 else
  some (.inr l5_31))
def layer_Forces_B21 (a0 : List (SCard)) (a1 : SState) (vt15_18 : Int) (l5_19 : List (SForce)) : Option ((Int × (List (SForce))) ⊕ ((List (SForce)))) :=
 (if (decide (vt15_18 < (a1.Objects.length : Int))) = true then
  (idx a1.Objects vt15_18).bind fun e25 =>
  (if (e25.Zone != (0 : Int)) = true then
   layer_Forces_J24 vt15_18 l5_19
  else
   (base_Of a0 e25).bind fun r27 =>
   (iter (fun (v : Int × (List (SForce))) => layer_Forces_B33 e25 r27 v.1 v.2) FU ((0 : Int), l5_19)).bind (fun o0 => layer_Forces_J24 vt15_18 o0))
 else
  some (.inr l5_19))
/-- cardgame/layer.Forces -/
def layer_Forces (a0 : List (SCard)) (a1 : SState) : Option ((List (SForce))) :=
 (iter (fun (v : Int × (List (SForce))) => layer_Forces_B21 a0 a1 v.1 v.2) FU ((0 : Int), ([] : List (SForce)))).bind (fun o0 => layer_Forces_J2 a1 o0)
def layer_Forces_C (a0 : List (SCard)) (a1 : SState) (r : (List (SForce))) : Prop := PCall Tryz.prog I0 103 [vL encSCard a0, vA encSState a1] (· = vL encSForce r)
theorem layer_Forces_ok {a0 : List (SCard)} {a1 : SState} {r : (List (SForce))} (h : layer_Forces a0 a1 = some r) : layer_Forces_C a0 a1 r := by
 refine PCall.bo I0_stable Tryz.func103 rfl Tryz.ntmps103 [.tmp 4] fun _ _ _ _ => ?_
 unfold layer_Forces at h
 refine Gg [.a,.a] (uo [1] [(3,vP [3] (0))] [.e (bx [3] (encSState a1))]) (aN) <| Gg [.a] (uo [] [(5,vO [5])] [.e (rw_ [5] 193 23 encSForce ([] : List (SForce))),.k 0]) (aN) <| Gj (X := (List (SForce))) (fun v => (uo [0] [] [.e (rw_ [5] 193 23 encSForce v),.k 1])) (fun v => layer_Forces_J2 a1 v = some r) ?_ ?_
 · refine Gg (nA 4) (u [] [(13,vL encSObject a1.Objects),(14,vI (a1.Objects.length : Int)),(15,vI (0 : Int))]) (aN) <| hB ?_
   obtain ⟨p3,q2,h⟩ := bS h
   refine Gi (fun (v : Int × (List (SForce))) => (uo [] [(15,vI v.1)] [.e (rw_ [5] 193 23 encSForce v.2),.k 1])) q2 (wT) ?_
   rintro ⟨o0,z0⟩ q1 j0 y2
   replace j0 : layer_Forces_B21 a0 a1 o0 z0 = some q1 := j0
   unfold layer_Forces_B21 at j0
   refine Gg [.a] (u [] [(16,vB (decide (o0 < (a1.Objects.length : Int))))]) (aN) <| hS <| iC j0 (fun j0 => ?_) (fun j0 => ?_)
   · refine hK <| Tn <| Gj (X := (List (SForce))) (fun v => (uo [16] [] [.e (rw_ [5] 193 23 encSForce v),.k 1])) (fun v => layer_Forces_J24 o0 v = some q1) ?_ ?_
     · refine hB ?_
       obtain ⟨q0,j2,j0⟩ := bS j0
       refine Gg [.a,(.v (vA encSObject q0)),.a,.a] (uo [16] [(7,vP [7] (0))] [.e (bx [7] (encSObject q0)),.k 0,.k 1]) (aC (idx_b j2) <| aC (eld j2 lenSObject 0 19 true (vA encSObject q0)) <| aC (Eq.refl (vA encSObject q0)) <| aN) <| hS <| Gg (nA 3) (u [] [(21,vB (q0.Zone != (0 : Int)))]) (aN) <| iC j0 (fun j0 => ?_) (fun j0 => ?_)
       · refine hE <| Te <| qX <| Tn ⟨z0,j0,wT⟩
       refine hK <| Tn ?_
       obtain ⟨i1,j3,j0⟩ := bS j0
       refine Rg [.a,.a,(.c (vA encSTraits i1)),.a,.a,.a] (sl 78 [(0,vL encSCard a0),(3,vP [3] (0)),(5,vO [5]),(7,vP [7] (0)),(13,vL encSObject a1.Objects),(14,vI (a1.Objects.length : Int)),(15,vI o0),(25,vL encSAbility i1.Abilities),(26,vI (i1.Abilities.length : Int)),(27,vI (0 : Int))] [bx [7] (encSObject q0),rw_ [5] 193 23 encSForce z0,bx [3] (encSState a1)]) (aC (base_Of_ok j3) <| aN) <| hB ?_
       obtain ⟨q3,t2,j0⟩ := bS j0
       refine Gi (fun (v : Int × (List (SForce))) => (uo [] [(27,vI v.1)] [.k 0,.e (rw_ [5] 193 23 encSForce v.2),.k 2])) t2 (wT) ?_
       rintro ⟨i0,d1⟩ t1 m0 z2
       replace m0 : layer_Forces_B33 q0 i1 i0 d1 = some t1 := m0
       unfold layer_Forces_B33 at m0
       refine Gg [.a] (u [] [(28,vB (decide (i0 < (i1.Abilities.length : Int))))]) (aN) <| hS <| iC m0 (fun m0 => ?_) (fun m0 => ?_)
       · refine hK <| Tn <| Gj (X := (List (SForce))) (fun v => (uo [28] [] [.k 0,.e (rw_ [5] 193 23 encSForce v),.k 2])) (fun v => layer_Forces_J36 i0 v = some t1) ?_ ?_
         · refine hB ?_
           obtain ⟨n0,k2,m0⟩ := bS m0
           refine Gg [.a,.a,(.v (vA encSAbility n0)),.a,.a,.a] (uo [28] [(8,vI i0),(9,vP [9] (0))] [.e (bx [9] (encSAbility n0)),.k 0,.k 1,.k 2]) (aC (idx_b k2) <| aC (eld k2 lenSAbility 0 72 true (vA encSAbility n0)) <| aC (Eq.refl (vA encSAbility n0)) <| aN) <| Gg (nA 3) (u [] [(34,vB (n0.Kind == (1 : Int)))]) (aN) <| iC m0 (fun m0 => ?_) (fun m0 => ?_)
           · obtain ⟨o1,k3,y1,n2,m0⟩ := bS2 m0
             refine Holds.regS followsP [[],[],[1],[],[],[4],[],[6],[],[8],[],[10],[10,11],[1,2,3,4,5,6,7,8,9,10,11,12],[1,2,3,4,5,6,7,8,9,10,11,12,13],[0,1,2,3,4,5,6,7,8,9,10,11,12,13,14],[0,1,2,3,4,5,6,7,8,9,10,11,12,13,14,15]] [14,15] [[false,false],[true,false],[true,true]] [.a,.a,.a,.a,.a,.a,.a,.a,.a,.a,.a,.a,(.c (vL encSMod o1)),.a,.a,(.e y1.length (y1.flatMap (encSForce))),.a] [[49],[9],[7],[5],[3]] ⟨slD 78 0 [(0,[],vL encSCard a0),(3,[],vP [3] (0)),(5,[(15,.undef),(16,vO [5])],vO [5]),(7,[],vP [7] (0)),(8,[],vI i0),(9,[],vP [9] (0)),(13,[],vL encSObject a1.Objects),(14,[],vI (a1.Objects.length : Int)),(15,[],vI o0),(25,[],vL encSAbility i1.Abilities),(26,[],vI (i1.Abilities.length : Int)),(27,[],vI i0),(34,[],vB (n0.Kind == (1 : Int))),(35,[(0,vO [5]),(15,.undef)],.undef),(36,[(1,vP [7] (0))],.undef),(37,[(2,vI q0.Id)],.undef),(38,[(3,vI i0)],.undef),(39,[(4,vP [7] (3))],.undef),(40,[(5,vI q0.Control)],.undef),(41,[(6,vP [7] (13))],.undef),(42,[(7,vI q0.Stamp)],.undef),(43,[(8,vP [9] (1))],.undef),(44,[(9,vA encSFilter n0.Filter)],.undef),(45,[(10,vP [9] (17))],.undef),(46,[(11,vL encSMod n0.Mods)],.undef),(47,[(12,vL encSMod o1)],.undef),(48,[(13,.agg [.int .i64 q0.Id,.int .i64 i0,.int .i64 q0.Control,.int .i64 q0.Stamp,.bool false,.nils,.int .i64 ((n0.Filter).Zone),.int .i64 ((n0.Filter).Who),.int .i64 ((n0.Filter).Self),.int .i64 ((n0.Filter).Types),.int .i64 ((n0.Filter).NotTypes),.int .i64 ((n0.Filter).Colors),.int .i64 ((n0.Filter).NotColors),.str ((n0.Filter).Sub),.int .i64 ((n0.Filter).Keys),.int .i64 ((n0.Filter).Tap),.int .i64 (((n0.Filter).Power).Kind),.int .i64 (((n0.Filter).Power).N),.int .i64 (((n0.Filter).Tough).Kind),.int .i64 (((n0.Filter).Tough).N),.int .i64 (((n0.Filter).Value).Kind),.int .i64 (((n0.Filter).Value).N),.sl o1.length (o1.flatMap (encSMod))])],.undef),(49,[(14,vO [49])],.undef),(50,[(15,vO [5])],.undef)],[([(14,rw_ [49] 193 23 encSForce ([(⟨q0.Id,i0,q0.Control,q0.Stamp,false,([] : List (Int)),n0.Filter,o1⟩ : SForce)] : List (SForce)))],none),([],some (bx [9] (encSAbility n0))),([],some (bx [7] (encSObject q0))),([(15,rw_ [5] 193 23 encSForce y1)],some (rw_ [5] 193 23 encSForce d1)),([],some (bx [3] (encSState a1)))],[],[]⟩ _ (bC (aN) <| bC (aN) <| bC (aN) <| bC (aN) <| bC (aN) <| bC (aN) <| bC (aN) <| bC (aN) <| bC (aN) <| bC (aN) <| bC (aN) <| bC (aN) <| bC (aC (slices_Clone_api_Mod_api_Mod_ok k3) <| aN) <| bC (aC (And.intro (show True ∧ (True ∧ (True ∧ (True ∧ (True ∧ (True ∧ True))))) from ⟨trivial,⟨trivial,⟨trivial,⟨trivial,⟨trivial,⟨trivial,trivial⟩⟩⟩⟩⟩⟩) okp193) <| aN) <| bC (aN) <| bC (aC (ap1 n2 encSForce) <| aC (app_b n2) <| aN) <| bC (aN) <| bN) <| qN <| Tn ⟨y1,m0,wT⟩
           refine hK <| qN <| Tn ⟨d1,m0,wT⟩
         rintro d2 m1
         replace m1 : layer_Forces_J36 i0 d2 = some t1 := m1
         unfold layer_Forces_J36 at m1
         refine Ge [.a,.a] (u [] [(27,vI (wrap64 (i0 + (1 : Int)))),(51,vI (wrap64 (i0 + (1 : Int))))]) (aN) <| Tn ⟨((wrap64 (i0 + (1 : Int))),d2),(sI m1).symm,wT⟩
       refine hE <| Te ?_
       obtain rfl := z2 _ (sI m0).symm
       refine Te <| qX <| qN <| Tn ⟨d1,j0,wT⟩
     rintro z1 k1
     replace k1 : layer_Forces_J24 o0 z1 = some q1 := k1
     unfold layer_Forces_J24 at k1
     refine Ge [.a,.a] (u [] [(15,vI (wrap64 (o0 + (1 : Int)))),(52,vI (wrap64 (o0 + (1 : Int))))]) (aN) <| Tn ⟨((wrap64 (o0 + (1 : Int))),z1),(sI k1).symm,wT⟩
   refine hE <| Te ?_
   obtain rfl := y2 _ (sI j0).symm
   refine Te <| qX <| Tn ⟨z0,h,wT⟩
 rintro m3 j1
 replace j1 : layer_Forces_J2 a1 m3 = some r := j1
 unfold layer_Forces_J2 at j1
 refine Sj (X := (List (SForce))) (fun v => (sl 78 [(5,vO [5])] [rw_ [5] 193 23 encSForce v])) (fun v => layer_Forces_J4 v = some r) ?_ ?_
 · refine Gg (nA 4) (uo [3] [(54,vL encSCont a1.Conts),(55,vI (a1.Conts.length : Int)),(56,vI (0 : Int))] [.k 0]) (aN) <| hB ?_
   obtain ⟨o3,p2,j1⟩ := bS j1
   refine Gi (fun (v : Int × (List (SForce))) => (uo [] [(56,vI v.1)] [.e (rw_ [5] 193 23 encSForce v.2)])) p2 (wT) ?_
   rintro ⟨t0,p1⟩ n3 p0 x2
   replace p0 : layer_Forces_B10 a1 t0 p1 = some n3 := p0
   unfold layer_Forces_B10 at p0
   refine Gg [.a] (u [] [(57,vB (decide (t0 < (a1.Conts.length : Int))))]) (aN) <| hS <| iC p0 (fun p0 => ?_) (fun p0 => ?_)
   · refine hK <| Tn <| hS <| hB ?_
     obtain ⟨k0,i2,p0⟩ := bS p0
     refine Gg [.a,(.v (vA encSCont k0)),.a,.a] (uo [57] [(11,vP [11] (0))] [.e (bx [11] (encSCont k0)),.k 0]) (aC (idx_b i2) <| aC (eld i2 lenSCont 0 6 true (vA encSCont k0)) <| aC (Eq.refl (vA encSCont k0)) <| aN) ?_
     obtain ⟨x0,d3,y0,i3,n1,m2,p0⟩ := bS3 p0
     refine Holds.regS followsP [[],[],[1],[],[3],[],[5],[],[7],[7,8],[],[10],[7,8,9,10,11],[1,2,3,4,5,6,7,8,9,10,11,12],[1,2,3,4,5,6,7,8,9,10,11,12,13],[0,1,2,3,4,5,6,7,8,9,10,11,12,13,14],[0,1,2,3,4,5,6,7,8,9,10,11,12,13,14,15]] [14,15] [[false,false],[true,false],[true,true]] [.a,.a,.a,.a,.a,.a,.a,.a,.a,(.c (vL (eI .i64) x0)),.a,.a,(.c (vL encSMod y0)),.a,.a,(.e n1.length (n1.flatMap (encSForce))),.a] [[74],[11],[5]] ⟨slD 78 0 [(5,[(15,.undef),(16,vO [5])],vO [5]),(11,[],vP [11] (0)),(54,[],vL encSCont a1.Conts),(55,[],vI (a1.Conts.length : Int)),(56,[],vI t0),(60,[(0,vO [5]),(15,.undef)],.undef),(61,[(1,vP [11] (2))],.undef),(62,[(2,vI k0.Source)],.undef),(63,[(3,vP [11] (1))],.undef),(64,[(4,vI k0.Control)],.undef),(65,[(5,vP [11] (0))],.undef),(66,[(6,vI k0.Stamp)],.undef),(67,[(7,vP [11] (4))],.undef),(68,[(8,vL (eI .i64) k0.Objects)],.undef),(69,[(9,vL (eI .i64) x0)],.undef),(70,[(10,vP [11] (5))],.undef),(71,[(11,vL encSMod k0.Mods)],.undef),(72,[(12,vL encSMod y0)],.undef),(73,[(13,.agg [.int .i64 k0.Source,.int .i64 (-1 : Int),.int .i64 k0.Control,.int .i64 k0.Stamp,.bool true,.sl x0.length (x0.flatMap (eI .i64)),.int .i64 (0 : Int),.int .i64 (0 : Int),.int .i64 (0 : Int),.int .i64 (0 : Int),.int .i64 (0 : Int),.int .i64 (0 : Int),.int .i64 (0 : Int),.str ([]),.int .i64 (0 : Int),.int .i64 (0 : Int),.int .i64 (0 : Int),.int .i64 (0 : Int),.int .i64 (0 : Int),.int .i64 (0 : Int),.int .i64 (0 : Int),.int .i64 (0 : Int),.sl y0.length (y0.flatMap (encSMod))])],.undef),(74,[(14,vO [74])],.undef),(75,[(15,vO [5])],.undef)],[([(14,rw_ [74] 193 23 encSForce ([(⟨k0.Source,(-1 : Int),k0.Control,k0.Stamp,true,x0,(⟨(0 : Int),(0 : Int),(0 : Int),(0 : Int),(0 : Int),(0 : Int),(0 : Int),[],(0 : Int),(0 : Int),(⟨(0 : Int),(0 : Int)⟩ : SBound),(⟨(0 : Int),(0 : Int)⟩ : SBound),(⟨(0 : Int),(0 : Int)⟩ : SBound)⟩ : SFilter),y0⟩ : SForce)] : List (SForce)))],none),([],some (bx [11] (encSCont k0))),([(15,rw_ [5] 193 23 encSForce n1)],some (rw_ [5] 193 23 encSForce p1))],[],[]⟩ _ (bC (aN) <| bC (aN) <| bC (aN) <| bC (aN) <| bC (aN) <| bC (aN) <| bC (aN) <| bC (aN) <| bC (aN) <| bC (aC (slices_Clone_int_int_ok d3) <| aN) <| bC (aN) <| bC (aN) <| bC (aC (slices_Clone_api_Mod_api_Mod_ok i3) <| aN) <| bC (aC (And.intro (show True ∧ (True ∧ (True ∧ (True ∧ (True ∧ (True ∧ (True ∧ True)))))) from ⟨trivial,⟨trivial,⟨trivial,⟨trivial,⟨trivial,⟨trivial,⟨trivial,trivial⟩⟩⟩⟩⟩⟩⟩) okp193) <| aN) <| bC (aN) <| bC (aC (ap1 m2 encSForce) <| aC (app_b m2) <| aN) <| bC (aN) <| bN) <| qN <| Tn <| Re [.a,.a] (sl 78 [(5,vO [5]),(11,vP [11] (0)),(54,vL encSCont a1.Conts),(55,vI (a1.Conts.length : Int)),(56,vI (wrap64 (t0 + (1 : Int)))),(61,vP [11] (2)),(62,vI k0.Source),(63,vP [11] (1)),(64,vI k0.Control),(65,vP [11] (0)),(66,vI k0.Stamp),(67,vP [11] (4)),(68,vL (eI .i64) k0.Objects),(69,vL (eI .i64) x0),(70,vP [11] (5)),(71,vL encSMod k0.Mods),(72,vL encSMod y0),(73,.agg [.int .i64 k0.Source,.int .i64 (-1 : Int),.int .i64 k0.Control,.int .i64 k0.Stamp,.bool true,.sl x0.length (x0.flatMap (eI .i64)),.int .i64 (0 : Int),.int .i64 (0 : Int),.int .i64 (0 : Int),.int .i64 (0 : Int),.int .i64 (0 : Int),.int .i64 (0 : Int),.int .i64 (0 : Int),.str ([]),.int .i64 (0 : Int),.int .i64 (0 : Int),.int .i64 (0 : Int),.int .i64 (0 : Int),.int .i64 (0 : Int),.int .i64 (0 : Int),.int .i64 (0 : Int),.int .i64 (0 : Int),.sl y0.length (y0.flatMap (encSMod))]),(74,vO [74]),(75,vO [5]),(76,vI (wrap64 (t0 + (1 : Int))))] [rw_ [74] 193 23 encSForce ([(⟨k0.Source,(-1 : Int),k0.Control,k0.Stamp,true,x0,(⟨(0 : Int),(0 : Int),(0 : Int),(0 : Int),(0 : Int),(0 : Int),(0 : Int),[],(0 : Int),(0 : Int),(⟨(0 : Int),(0 : Int)⟩ : SBound),(⟨(0 : Int),(0 : Int)⟩ : SBound),(⟨(0 : Int),(0 : Int)⟩ : SBound)⟩ : SFilter),y0⟩ : SForce)] : List (SForce)),bx [11] (encSCont k0),rw_ [5] 193 23 encSForce n1]) (aN) <| Tn ⟨((wrap64 (t0 + (1 : Int))),n1),(sI p0).symm,wT⟩
   refine hE <| Te ?_
   obtain rfl := x2 _ (sI p0).symm
   refine Te <| qX <| Tn ⟨p1,j1,wT⟩
 rintro o2 x1
 replace x1 : layer_Forces_J4 o2 = some r := x1
 unfold layer_Forces_J4 at x1
 exact Gg [.a,.a] (u [5] [(4,vO [5])]) (aN) <| hR <| bE (vO [5]) (vL encSForce o2) (congrArg (vL encSForce) (sI x1))
/-- cardgame/state.Same -/
def state_Same (a0 : SState) (a1 : SState) : Option (Bool) :=
 (state_each_api_Player_state_samePlayer a0.Players a1.Players).bind fun r1 =>
 (gd ((!r1) == false) (state_each_api_Object_state_equal_api_Object a0.Objects a1.Objects)).bind fun r2 =>
 (some (if (!r1) = true then true else !r2)).bind fun b3 =>
 (gd (b3 == false) (slices_Equal_int_int a0.Battlefield a1.Battlefield)).bind fun r4 =>
 (some (if b3 = true then true else !r4)).bind fun b5 =>
 (gd (b5 == false) (slices_Equal_int_int a0.Exile a1.Exile)).bind fun r6 =>
 (some (if b5 = true then true else !r6)).bind fun b7 =>
 (gd (b7 == false) (slices_Equal_int_int a0.Extra a1.Extra)).bind fun r8 =>
 (some (if b7 = true then true else !r8)).bind fun b9 =>
 (if b9 = true then
  some false
 else
  (state_each_api_Item_state_sameItem a0.Stack a1.Stack).bind fun r11 =>
  (gd ((!r11) == false) (state_each_api_Waiting_state_sameWaiting a0.Waiting a1.Waiting)).bind fun r12 =>
  (some (if (!r11) = true then true else !r12)).bind fun b13 =>
  (gd (b13 == false) (state_each_api_Cont_state_sameCont a0.Conts a1.Conts)).bind fun r14 =>
  (some (if b13 = true then true else !r14)).bind fun b15 =>
  (if b15 = true then
   some false
  else
   (some (if (a0.Turn == a1.Turn) = true then a0.Active == a1.Active else false)).bind fun b17 =>
   (some (if b17 = true then a0.Step == a1.Step else false)).bind fun b18 =>
   (some (if b18 = true then a0.Begun == a1.Begun else false)).bind fun b19 =>
   (some (if b19 = true then a0.Priority == a1.Priority else false)).bind fun b20 =>
   (some (if b20 = true then a0.Passes == a1.Passes else false)).bind fun b21 =>
   (some (if b21 = true then a0.NextId == a1.NextId else false)).bind fun b22 =>
   (some (if b22 = true then a0.NextStamp == a1.NextStamp else false)).bind fun b23 =>
   (some (if b23 = true then a0.Seed == a1.Seed else false)).bind fun b24 =>
   (some (if b24 = true then a0.Over == a1.Over else false)).bind fun b25 =>
   (some (if b25 = true then a0.Winner == a1.Winner else false)).bind fun b26 =>
   some b26))
def state_Same_C (a0 : SState) (a1 : SState) (r : Bool) : Prop := PCall Tryz.prog I0 23 [vA encSState a0, vA encSState a1] (· = vB r)
theorem state_Same_ok {a0 : SState} {a1 : SState} {r : Bool} (h : state_Same a0 a1 = some r) : state_Same_C a0 a1 r := by
 refine PCall.bo I0_stable Tryz.func23 rfl Tryz.ntmps23 [.tmp 4] fun _ _ _ _ => ?_
 unfold state_Same at h
 refine Rg (nA 3) (sl 140 [(2,vP [2] (0)),(3,vP [3] (0))] [bx [3] (encSState a1),bx [2] (encSState a0)]) (aN) <| hS ?_
 obtain ⟨r1,p2,r2,q2,b3,k2,r4,t2,h⟩ := bS4 h
 obtain ⟨b5,m2,r6,x2,b7,n2,r8,y2,h⟩ := bS4 h
 obtain ⟨b9,o2,h⟩ := bS h
 refine Gg [.a,.a,.a,.a,(.c (vB r1)),.a,.a,.a,.a,.a,.a,(.c (vB r2)),.a,(.v (vB b3)),.a,.a,.a,.a,.a,(.c (vB r4)),.a,(.v (vB b5)),.a,.a,.a,.a,.a,(.c (vB r6)),.a,(.v (vB b7)),.a,.a,.a,.a,.a,(.c (vB r8)),.a,(.v (vB b9))] (u [] [(42,vB b9)]) (aC (state_each_api_Player_state_samePlayer_ok p2) <| aG ((!r1) == false) <| aG ((!r1) == false) <| aC (c2 q2 state_each_api_Object_state_equal_api_Object_ok) <| aG ((!r1) == false) <| aF (!r1) <| aB k2 <| aG (b3 == false) <| aG (b3 == false) <| aC (c2 t2 slices_Equal_int_int_ok) <| aG (b3 == false) <| aF b3 <| aB m2 <| aG (b5 == false) <| aG (b5 == false) <| aC (c2 x2 slices_Equal_int_int_ok) <| aG (b5 == false) <| aF b5 <| aB n2 <| aG (b7 == false) <| aG (b7 == false) <| aC (c2 y2 slices_Equal_int_int_ok) <| aG (b7 == false) <| aF b7 <| aB o2 <| aN) <| iC h (fun h => ?_) (fun h => ?_)
 · exact Rg [.a] (sl 140 [(4,vB false)] []) (aN) <| hR <| Tr <| bQ _ (kB h)
 refine hK <| Tn <| hS ?_
 obtain ⟨y0,d2,z2,i2,j0,i1,d3,j2,h⟩ := bS4 h
 obtain ⟨z0,j1,h⟩ := bS h
 refine Gg [.a,.a,.a,.a,(.c (vB y0)),.a,.a,.a,.a,.a,.a,(.c (vB z2)),.a,(.v (vB j0)),.a,.a,.a,.a,.a,(.c (vB d3)),.a,(.v (vB z0))] (u [42] [(64,vB z0)]) (aC (state_each_api_Item_state_sameItem_ok d2) <| aG ((!y0) == false) <| aG ((!y0) == false) <| aC (c2 i2 state_each_api_Waiting_state_sameWaiting_ok) <| aG ((!y0) == false) <| aF (!y0) <| aB i1 <| aG (j0 == false) <| aG (j0 == false) <| aC (c2 j2 state_each_api_Cont_state_sameCont_ok) <| aG (j0 == false) <| aF j0 <| aB j1 <| aN) <| iC h (fun h => ?_) (fun h => ?_)
 · exact Rg [.a] (sl 140 [(4,vB false)] []) (aN) <| hR <| Tr <| bQ _ (kB h)
 refine hK <| Tn ?_
 obtain ⟨k0,k1,i0,m1,m0,n1,n0,o1,h⟩ := bS4 h
 obtain ⟨o0,p1,p0,q1,q0,t1,t0,x1,h⟩ := bS4 h
 obtain ⟨x0,y1,d1,z1,h⟩ := bS2 h
 exact Rg [.a,.a,.a,.a,.a,.a,.a,.a,.a,.a,.a,(.v (vB k0)),.a,.a,.a,.a,.a,.a,(.v (vB i0)),.a,.a,.a,.a,.a,.a,(.v (vB m0)),.a,.a,.a,.a,.a,.a,(.v (vB n0)),.a,.a,.a,.a,.a,.a,(.v (vB o0)),.a,.a,.a,.a,.a,.a,(.v (vB p0)),.a,.a,.a,.a,.a,.a,(.v (vB q0)),.a,.a,.a,.a,.a,.a,(.v (vB t0)),.a,.a,.a,.a,.a,.a,(.v (vB x0)),.a,.a,.a,.a,.a,.a,(.v (vB d1)),.a] (sl 140 [(4,vB d1)] []) (aG ((a0.Turn == a1.Turn) == true) <| aG ((a0.Turn == a1.Turn) == true) <| aH ((a0.Turn == a1.Turn) == true) <| aT (a0.Turn == a1.Turn) <| aB k1 <| aG (k0 == true) <| aG (k0 == true) <| aH (k0 == true) <| aT k0 <| aB m1 <| aG (i0 == true) <| aG (i0 == true) <| aC (fun hg : (i0 == true) = true => aC (gi (i0 == true)) <| aC (gi (i0 == true)) <| aC isb4 <| aN) <| aT i0 <| aB n1 <| aG (m0 == true) <| aG (m0 == true) <| aH (m0 == true) <| aT m0 <| aB o1 <| aG (n0 == true) <| aG (n0 == true) <| aH (n0 == true) <| aT n0 <| aB p1 <| aG (o0 == true) <| aG (o0 == true) <| aH (o0 == true) <| aT o0 <| aB q1 <| aG (p0 == true) <| aG (p0 == true) <| aH (p0 == true) <| aT p0 <| aB t1 <| aG (q0 == true) <| aG (q0 == true) <| aH (q0 == true) <| aT q0 <| aB x1 <| aG (t0 == true) <| aG (t0 == true) <| aH (t0 == true) <| aT t0 <| aB y1 <| aG (x0 == true) <| aG (x0 == true) <| aH (x0 == true) <| aT x0 <| aB z1 <| aN) <| hR <| bQ _ (kB h)
end Go.PL
