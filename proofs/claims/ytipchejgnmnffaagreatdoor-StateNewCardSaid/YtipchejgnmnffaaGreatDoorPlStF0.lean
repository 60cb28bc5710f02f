/- Functions of the program, as partial functions in Lean, with proofs. -/
import Derived.Test.YtipchejgnmnffaaGreatDoorPlStB
namespace Go.PL
open Go Go.RowKit Go.Proofs
set_option maxRecDepth 100000
set_option linter.all false
set_option maxHeartbeats 1000000
attribute [local irreducible] Holds thenQ blockQ
def state_New_J7 (a2 : Int) (l14_3 : List (SPlayer)) (b8_Active5 : Int) (b8_Priority6 : Int) : Option (SState) :=
 some (⟨l14_3, ([] : List (SObject)), ([] : List (Int)), ([] : List (Int)), ([] : List (SItem)), ([] : List (SWaiting)), ([] : List (SCont)), (0 : Int), b8_Active5, (0 : Int), false, b8_Priority6, (0 : Int), (1 : Int), (1 : Int), a2, ([] : List (Int)), (0 : Int), (-1 : Int)⟩ : SState)
def state_New_J4 (a0 : Int) (a1 : Int) (a2 : Int) (l14_3 : List (SPlayer)) : Option (SState) :=
 (some (if (decide ((0 : Int) < a1)) = true then decide (a1 < (if (4 : Int) < (if a0 < (2 : Int) then (2 : Int) else a0) then (4 : Int) else (if a0 < (2 : Int) then (2 : Int) else a0))) else false)).bind fun b8 =>
 (if b8 = true then
  state_New_J7 a2 l14_3 a1 a1
 else
  state_New_J7 a2 l14_3 (0 : Int) (0 : Int))
def state_New_B15 (l1 : List (SPlayer)) (vt20_12 : Int) (l14_13 : List (SPlayer)) : Option ((Int × (List (SPlayer))) ⊕ ((List (SPlayer)))) :=
 (if (decide (vt20_12 < (l1.length : Int))) = true then
  (idx l14_13 vt20_12).bind fun e17 =>
  (some (l14_13.set (vt20_12).toNat ({ e17 with Life := (20 : Int) }))).bind fun l18 =>
  some (.inl ((wrap64 (vt20_12 + (1 : Int))), l18))
 else
  some (.inr l14_13))
/-- cardgame/state.New -/
def state_New (a0 : Int) (a1 : Int) (a2 : Int) : Option (SState) :=
 (need (0 ≤ (if (4 : Int) < (if a0 < (2 : Int) then (2 : Int) else a0) then (4 : Int) else (if a0 < (2 : Int) then (2 : Int) else a0)) ∧ (if (4 : Int) < (if a0 < (2 : Int) then (2 : Int) else a0) then (4 : Int) else (if a0 < (2 : Int) then (2 : Int) else a0)) ≤ (if (4 : Int) < (if a0 < (2 : Int) then (2 : Int) else a0) then (4 : Int) else (if a0 < (2 : Int) then (2 : Int) else a0)) ∧ (if (4 : Int) < (if a0 < (2 : Int) then (2 : Int) else a0) then (4 : Int) else (if a0 < (2 : Int) then (2 : Int) else a0)) * 152 ≤ 140737488355328 ∧ (if (4 : Int) < (if a0 < (2 : Int) then (2 : Int) else a0) then (4 : Int) else (if a0 < (2 : Int) then (2 : Int) else a0)) ≤ maxLen)).bind fun u2 =>
 (some (List.replicate ((if (4 : Int) < (if a0 < (2 : Int) then (2 : Int) else a0) then (4 : Int) else (if a0 < (2 : Int) then (2 : Int) else a0))).toNat (⟨(0 : Int), (0 : Int), (0 : Int), (⟨(0 : Int), (0 : Int), (0 : Int), (0 : Int), (0 : Int), (0 : Int)⟩ : A6 (Int)), false, false, ([] : List (Int)), ([] : List (Int)), ([] : List (Int))⟩ : SPlayer))).bind fun l1 =>
 (iter (fun (v : Int × (List (SPlayer))) => state_New_B15 l1 v.1 v.2) FU ((0 : Int), l1)).bind (fun o0 => state_New_J4 a0 a1 a2 o0)
def state_New_C (a0 : Int) (a1 : Int) (a2 : Int) (r : SState) : Prop := PCall Tryz.prog I0 9 [vI a0, vI a1, .c (.int .u64 a2)] (· = vA encSState r)
theorem state_New_ok {a0 : Int} {a1 : Int} {a2 : Int} {r : SState} (h : state_New a0 a1 a2 = some r) : state_New_C a0 a1 a2 r := by
 refine PCall.body I0_stable (by kernel_rfl) Tryz.func9 rfl Tryz.ntmps9 (rs := [.cell 6 33]) rfl rfl ?_
 intro w0 av old gv
 unfold state_New at h
 refine Rg [.a] (sl 41 [(0, vI a0), (1, vI a1), (2, .c (.int .u64 a2)), (6, vP [6] (0))] [bx [6] [.nils, .nils, .nils, .nils, .nils, .nils, .nils, .int .i64 (0 : Int), .int .i64 (0 : Int), .int .i64 (0 : Int), .bool false, .int .i64 (0 : Int), .int .i64 (0 : Int), .int .i64 (0 : Int), .int .i64 (0 : Int), .int .u64 (0 : Int), .nils, .int .i64 (0 : Int), .int .i64 (0 : Int)]]) (aN) ?_
 refine Rg [.a, .a, .a, .a] (sl 41 [(1, vI a1), (2, .c (.int .u64 a2)), (6, vP [6] (0)), (7, vI (if (4 : Int) < (if a0 < (2 : Int) then (2 : Int) else a0) then (4 : Int) else (if a0 < (2 : Int) then (2 : Int) else a0)))] [bx [6] [.nils, .nils, .nils, .nils, .nils, .nils, .nils, .int .i64 (0 : Int), .int .i64 (0 : Int), .int .i64 (0 : Int), .bool false, .int .i64 (0 : Int), .int .i64 (0 : Int), .int .i64 (0 : Int), .int .i64 (0 : Int), .int .u64 (0 : Int), .nils, .int .i64 (0 : Int), .int .i64 (0 : Int)]]) (aC (show (True ∧ (True ∧ True)) ∧ True from ⟨⟨trivial, ⟨trivial, trivial⟩⟩, trivial⟩) <| aC (show (True ∧ (True ∧ True)) ∧ True from ⟨⟨trivial, ⟨trivial, trivial⟩⟩, trivial⟩) <| aN) ?_
 obtain ⟨u2, hu2, h⟩ := bS h
 obtain ⟨l1, hl1, h⟩ := bS h
 refine Rg [.a, (.e l1.length (l1.flatMap encSPlayer)), .a, .a, .a, .a] (sl 41 [(1, vI a1), (6, vP [6] (0)), (7, vI (if (4 : Int) < (if a0 < (2 : Int) then (2 : Int) else a0) then (4 : Int) else (if a0 < (2 : Int) then (2 : Int) else a0))), (8, vP [8] (0))] [bx [8] [.osl [14], .nils, .nils, .nils, .nils, .nils, .nils, .int .i64 (0 : Int), .int .i64 (0 : Int), .int .i64 (0 : Int), .bool false, .int .i64 (0 : Int), .int .i64 (0 : Int), .int .i64 (1 : Int), .int .i64 (1 : Int), .int .u64 a2, .nils, .int .i64 (0 : Int), .int .i64 (-1 : Int)], rw_ [14] 49 14 encSPlayer l1, bx [6] [.nils, .nils, .nils, .nils, .nils, .nils, .nils, .int .i64 (0 : Int), .int .i64 (0 : Int), .int .i64 (0 : Int), .bool false, .int .i64 (0 : Int), .int .i64 (0 : Int), .int .i64 (0 : Int), .int .i64 (0 : Int), .int .u64 (0 : Int), .nils, .int .i64 (0 : Int), .int .i64 (0 : Int)]]) (aC (mk1 hl1 encSPlayer) <| aC (need_b hu2) <| aC (And.intro (show True ∧ (True ∧ (True ∧ (True ∧ (True ∧ True)))) from ⟨trivial, ⟨trivial, ⟨trivial, ⟨trivial, ⟨trivial, trivial⟩⟩⟩⟩⟩) okp33) <| aN) ?_
 refine Sj (X := (List (SPlayer))) (fun v => (sl 41 [(1, vI a1), (6, vP [6] (0)), (7, vI (if (4 : Int) < (if a0 < (2 : Int) then (2 : Int) else a0) then (4 : Int) else (if a0 < (2 : Int) then (2 : Int) else a0))), (8, vP [8] (0))] [bx [8] [.osl [14], .nils, .nils, .nils, .nils, .nils, .nils, .int .i64 (0 : Int), .int .i64 (0 : Int), .int .i64 (0 : Int), .bool false, .int .i64 (0 : Int), .int .i64 (0 : Int), .int .i64 (1 : Int), .int .i64 (1 : Int), .int .u64 a2, .nils, .int .i64 (0 : Int), .int .i64 (-1 : Int)], rw_ [14] 49 14 encSPlayer v, bx [6] [.nils, .nils, .nils, .nils, .nils, .nils, .nils, .int .i64 (0 : Int), .int .i64 (0 : Int), .int .i64 (0 : Int), .bool false, .int .i64 (0 : Int), .int .i64 (0 : Int), .int .i64 (0 : Int), .int .i64 (0 : Int), .int .u64 (0 : Int), .nils, .int .i64 (0 : Int), .int .i64 (0 : Int)]])) (fun v => state_New_J4 a0 a1 a2 v = some r) ?_ ?_
 · refine Rg [.a, .a, .a, .a] (sl 41 [(1, vI a1), (6, vP [6] (0)), (7, vI (if (4 : Int) < (if a0 < (2 : Int) then (2 : Int) else a0) then (4 : Int) else (if a0 < (2 : Int) then (2 : Int) else a0))), (8, vP [8] (0)), (19, vI (l1.length : Int)), (20, vI (0 : Int))] [bx [8] [.osl [14], .nils, .nils, .nils, .nils, .nils, .nils, .int .i64 (0 : Int), .int .i64 (0 : Int), .int .i64 (0 : Int), .bool false, .int .i64 (0 : Int), .int .i64 (0 : Int), .int .i64 (1 : Int), .int .i64 (1 : Int), .int .u64 a2, .nils, .int .i64 (0 : Int), .int .i64 (-1 : Int)], rw_ [14] 49 14 encSPlayer l1, bx [6] [.nils, .nils, .nils, .nils, .nils, .nils, .nils, .int .i64 (0 : Int), .int .i64 (0 : Int), .int .i64 (0 : Int), .bool false, .int .i64 (0 : Int), .int .i64 (0 : Int), .int .i64 (0 : Int), .int .i64 (0 : Int), .int .u64 (0 : Int), .nils, .int .i64 (0 : Int), .int .i64 (0 : Int)]]) (aN) ?_
   refine Holds.block ?_
   obtain ⟨oB15, hiB15, h⟩ := bS h
   refine It (fun (v : Int × (List (SPlayer))) => (sl 41 [(1, vI a1), (6, vP [6] (0)), (7, vI (if (4 : Int) < (if a0 < (2 : Int) then (2 : Int) else a0) then (4 : Int) else (if a0 < (2 : Int) then (2 : Int) else a0))), (8, vP [8] (0)), (19, vI (l1.length : Int)), (20, vI v.1)] [bx [8] [.osl [14], .nils, .nils, .nils, .nils, .nils, .nils, .int .i64 (0 : Int), .int .i64 (0 : Int), .int .i64 (0 : Int), .bool false, .int .i64 (0 : Int), .int .i64 (0 : Int), .int .i64 (1 : Int), .int .i64 (1 : Int), .int .u64 a2, .nils, .int .i64 (0 : Int), .int .i64 (-1 : Int)], rw_ [14] 49 14 encSPlayer v.2, bx [6] [.nils, .nils, .nils, .nils, .nils, .nils, .nils, .int .i64 (0 : Int), .int .i64 (0 : Int), .int .i64 (0 : Int), .bool false, .int .i64 (0 : Int), .int .i64 (0 : Int), .int .i64 (0 : Int), .int .i64 (0 : Int), .int .u64 (0 : Int), .nils, .int .i64 (0 : Int), .int .i64 (0 : Int)]])) hiB15 (wT) ?_
   rintro ⟨vt20_12, l14_13⟩ zB15 hzB15 hoB15
   replace hzB15 : state_New_B15 l1 vt20_12 l14_13 = some zB15 := hzB15
   unfold state_New_B15 at hzB15
   refine Rg [.a] (sl 41 [(1, vI a1), (6, vP [6] (0)), (7, vI (if (4 : Int) < (if a0 < (2 : Int) then (2 : Int) else a0) then (4 : Int) else (if a0 < (2 : Int) then (2 : Int) else a0))), (8, vP [8] (0)), (19, vI (l1.length : Int)), (20, vI vt20_12), (21, vB (decide (vt20_12 < (l1.length : Int))))] [bx [8] [.osl [14], .nils, .nils, .nils, .nils, .nils, .nils, .int .i64 (0 : Int), .int .i64 (0 : Int), .int .i64 (0 : Int), .bool false, .int .i64 (0 : Int), .int .i64 (0 : Int), .int .i64 (1 : Int), .int .i64 (1 : Int), .int .u64 a2, .nils, .int .i64 (0 : Int), .int .i64 (-1 : Int)], rw_ [14] 49 14 encSPlayer l14_13, bx [6] [.nils, .nils, .nils, .nils, .nils, .nils, .nils, .int .i64 (0 : Int), .int .i64 (0 : Int), .int .i64 (0 : Int), .bool false, .int .i64 (0 : Int), .int .i64 (0 : Int), .int .i64 (0 : Int), .int .i64 (0 : Int), .int .u64 (0 : Int), .nils, .int .i64 (0 : Int), .int .i64 (0 : Int)]]) (aN) ?_
   refine Holds.seq ?_
   refine iB hzB15 (fun b16 hzB15 => ?_) (fun b16 hzB15 => ?_)
   · refine Holds.skip ?_
     refine Tn ?_
     refine Holds.seq ?_
     refine Holds.block ?_
     refine Rg [.a, .a] (sl 41 [(1, vI a1), (6, vP [6] (0)), (7, vI (if (4 : Int) < (if a0 < (2 : Int) then (2 : Int) else a0) then (4 : Int) else (if a0 < (2 : Int) then (2 : Int) else a0))), (8, vP [8] (0)), (9, vI vt20_12), (19, vI (l1.length : Int)), (20, vI vt20_12)] [bx [8] [.osl [14], .nils, .nils, .nils, .nils, .nils, .nils, .int .i64 (0 : Int), .int .i64 (0 : Int), .int .i64 (0 : Int), .bool false, .int .i64 (0 : Int), .int .i64 (0 : Int), .int .i64 (1 : Int), .int .i64 (1 : Int), .int .u64 a2, .nils, .int .i64 (0 : Int), .int .i64 (-1 : Int)], rw_ [14] 49 14 encSPlayer l14_13, bx [6] [.nils, .nils, .nils, .nils, .nils, .nils, .nils, .int .i64 (0 : Int), .int .i64 (0 : Int), .int .i64 (0 : Int), .bool false, .int .i64 (0 : Int), .int .i64 (0 : Int), .int .i64 (0 : Int), .int .i64 (0 : Int), .int .u64 (0 : Int), .nils, .int .i64 (0 : Int), .int .i64 (0 : Int)]]) (aN) ?_
     obtain ⟨e17, he17, hzB15⟩ := bS hzB15
     obtain ⟨l18, hl18, hzB15⟩ := bS hzB15
     refine Re [.a, .a, .a, .a, .a, (.e l18.length (l18.flatMap (encSPlayer)))] (sl 41 [(1, vI a1), (6, vP [6] (0)), (7, vI (if (4 : Int) < (if a0 < (2 : Int) then (2 : Int) else a0) then (4 : Int) else (if a0 < (2 : Int) then (2 : Int) else a0))), (8, vP [8] (0)), (9, vI vt20_12), (19, vI (l1.length : Int)), (20, vI vt20_12), (23, vP [8] (0)), (24, vO [14]), (25, vI vt20_12), (26, vP [14] ((vt20_12).toNat * 14)), (27, vP [14] ((vt20_12).toNat * 14 + 0))] [bx [8] [.osl [14], .nils, .nils, .nils, .nils, .nils, .nils, .int .i64 (0 : Int), .int .i64 (0 : Int), .int .i64 (0 : Int), .bool false, .int .i64 (0 : Int), .int .i64 (0 : Int), .int .i64 (1 : Int), .int .i64 (1 : Int), .int .u64 a2, .nils, .int .i64 (0 : Int), .int .i64 (-1 : Int)], rw_ [14] 49 14 encSPlayer l18, bx [6] [.nils, .nils, .nils, .nils, .nils, .nils, .nils, .int .i64 (0 : Int), .int .i64 (0 : Int), .int .i64 (0 : Int), .bool false, .int .i64 (0 : Int), .int .i64 (0 : Int), .int .i64 (0 : Int), .int .i64 (0 : Int), .int .u64 (0 : Int), .nils, .int .i64 (0 : Int), .int .i64 (0 : Int)]]) (aC (idx_b he17) <| aC (show (vt20_12).toNat * 14 + 0 + 1 ≤ (l14_13.flatMap (encSPlayer)).length ∧ (l14_13.flatMap (encSPlayer)).take ((vt20_12).toNat * 14 + 0) ++ ([.int .i64 (20 : Int)] : List C) ++ (l14_13.flatMap (encSPlayer)).drop ((vt20_12).toNat * 14 + 0 + ([.int .i64 (20 : Int)] : List C).length) = l18.flatMap (encSPlayer) from (by rw [← sI hl18]; exact arr_st (e := encSPlayer) (N := 14) (l := l14_13) (i := vt20_12) (x' := ({ e17 with Life := (20 : Int) })) (o := 0) (base := 0) (cs := ([.int .i64 (20 : Int)] : List C)) (pre := []) (post := []) (by simp) rfl (by simp) rfl he17 lenSPlayer (by omega) (Nat.le_of_ble_eq_true (by kernel_rfl)) (by kernel_rfl))) <| aC (show ((some (49, 14, l18.length) : Option (TypeId × Nat × Nat)) = some (49, 14, l14_13.length)) ∧ True from ⟨by rw [← sI hl18, List.length_set], trivial⟩) <| aN) ?_
     refine blockQ.normal ?_
     refine Tn ?_
     refine Re [.a, .a] (sl 41 [(1, vI a1), (6, vP [6] (0)), (7, vI (if (4 : Int) < (if a0 < (2 : Int) then (2 : Int) else a0) then (4 : Int) else (if a0 < (2 : Int) then (2 : Int) else a0))), (8, vP [8] (0)), (9, vI vt20_12), (19, vI (l1.length : Int)), (20, vI (wrap64 (vt20_12 + (1 : Int)))), (23, vP [8] (0)), (24, vO [14]), (25, vI vt20_12), (26, vP [14] ((vt20_12).toNat * 14)), (27, vP [14] ((vt20_12).toNat * 14 + 0)), (28, vI (wrap64 (vt20_12 + (1 : Int))))] [bx [8] [.osl [14], .nils, .nils, .nils, .nils, .nils, .nils, .int .i64 (0 : Int), .int .i64 (0 : Int), .int .i64 (0 : Int), .bool false, .int .i64 (0 : Int), .int .i64 (0 : Int), .int .i64 (1 : Int), .int .i64 (1 : Int), .int .u64 a2, .nils, .int .i64 (0 : Int), .int .i64 (-1 : Int)], rw_ [14] 49 14 encSPlayer l18, bx [6] [.nils, .nils, .nils, .nils, .nils, .nils, .nils, .int .i64 (0 : Int), .int .i64 (0 : Int), .int .i64 (0 : Int), .bool false, .int .i64 (0 : Int), .int .i64 (0 : Int), .int .i64 (0 : Int), .int .i64 (0 : Int), .int .u64 (0 : Int), .nils, .int .i64 (0 : Int), .int .i64 (0 : Int)]]) (aN) ?_
     refine Tn ⟨((wrap64 (vt20_12 + (1 : Int))), l18), (sI hzB15).symm, wT⟩
   · refine Holds.exit ?_
     refine thenQ.exit ?_
     have hoB15_ := hoB15 _ (sI hzB15).symm
     subst hoB15_
     refine thenQ.exit ?_
     refine blockQ.out ?_
     refine Tn ⟨l14_13, h, wT⟩
 · rintro l14_3 hJ4
   replace hJ4 : state_New_J4 a0 a1 a2 l14_3 = some r := hJ4
   unfold state_New_J4 at hJ4
   refine Sj (X := Int × Int) (fun v => (sl 41 [(6, vP [6] (0)), (8, vP [8] (0))] [bx [8] [.osl [14], .nils, .nils, .nils, .nils, .nils, .nils, .int .i64 (0 : Int), .int .i64 v.1, .int .i64 (0 : Int), .bool false, .int .i64 v.2, .int .i64 (0 : Int), .int .i64 (1 : Int), .int .i64 (1 : Int), .int .u64 a2, .nils, .int .i64 (0 : Int), .int .i64 (-1 : Int)], rw_ [14] 49 14 encSPlayer l14_3, bx [6] [.nils, .nils, .nils, .nils, .nils, .nils, .nils, .int .i64 (0 : Int), .int .i64 (0 : Int), .int .i64 (0 : Int), .bool false, .int .i64 (0 : Int), .int .i64 (0 : Int), .int .i64 (0 : Int), .int .i64 (0 : Int), .int .u64 (0 : Int), .nils, .int .i64 (0 : Int), .int .i64 (0 : Int)]])) (fun v => state_New_J7 a2 l14_3 v.1 v.2 = some r) ?_ ?_
   · obtain ⟨b8, hb8, hJ4⟩ := bS hJ4
     refine Rg [.a, .a, .a, .a, .a, .a, (.v (vB b8))] (sl 41 [(1, vI a1), (6, vP [6] (0)), (8, vP [8] (0)), (35, vB b8)] [bx [8] [.osl [14], .nils, .nils, .nils, .nils, .nils, .nils, .int .i64 (0 : Int), .int .i64 (0 : Int), .int .i64 (0 : Int), .bool false, .int .i64 (0 : Int), .int .i64 (0 : Int), .int .i64 (1 : Int), .int .i64 (1 : Int), .int .u64 a2, .nils, .int .i64 (0 : Int), .int .i64 (-1 : Int)], rw_ [14] 49 14 encSPlayer l14_3, bx [6] [.nils, .nils, .nils, .nils, .nils, .nils, .nils, .int .i64 (0 : Int), .int .i64 (0 : Int), .int .i64 (0 : Int), .bool false, .int .i64 (0 : Int), .int .i64 (0 : Int), .int .i64 (0 : Int), .int .i64 (0 : Int), .int .u64 (0 : Int), .nils, .int .i64 (0 : Int), .int .i64 (0 : Int)]]) (aH ((decide ((0 : Int) < a1)) == true) <| aT (decide ((0 : Int) < a1)) <| aB hb8 <| aN) ?_
     refine iB hJ4 (fun b9 hJ4 => ?_) (fun b9 hJ4 => ?_)
     · refine Re [.a, .a, .a, .a, .a, .a] (sl 41 [(1, vI a1), (6, vP [6] (0)), (8, vP [8] (0)), (35, vB b8), (36, vI a1), (37, vI a1), (38, vP [8] (8)), (39, vP [8] (11))] [bx [8] [.osl [14], .nils, .nils, .nils, .nils, .nils, .nils, .int .i64 (0 : Int), .int .i64 a1, .int .i64 (0 : Int), .bool false, .int .i64 a1, .int .i64 (0 : Int), .int .i64 (1 : Int), .int .i64 (1 : Int), .int .u64 a2, .nils, .int .i64 (0 : Int), .int .i64 (-1 : Int)], rw_ [14] 49 14 encSPlayer l14_3, bx [6] [.nils, .nils, .nils, .nils, .nils, .nils, .nils, .int .i64 (0 : Int), .int .i64 (0 : Int), .int .i64 (0 : Int), .bool false, .int .i64 (0 : Int), .int .i64 (0 : Int), .int .i64 (0 : Int), .int .i64 (0 : Int), .int .u64 (0 : Int), .nils, .int .i64 (0 : Int), .int .i64 (0 : Int)]]) (aN) ?_
       refine Tn ⟨(a1, a1), hJ4, wT⟩
     · refine Holds.skip ?_
       refine Tn ⟨((0 : Int), (0 : Int)), hJ4, wT⟩
   · rintro ⟨b8_Active5, b8_Priority6⟩ hJ7
     replace hJ7 : state_New_J7 a2 l14_3 b8_Active5 b8_Priority6 = some r := hJ7
     unfold state_New_J7 at hJ7
     refine Rg [.a, .a] (sl 41 [(6, vP [6] (0))] [rw_ [14] 49 14 encSPlayer l14_3, bx [6] [.osl [14], .nils, .nils, .nils, .nils, .nils, .nils, .int .i64 (0 : Int), .int .i64 b8_Active5, .int .i64 (0 : Int), .bool false, .int .i64 b8_Priority6, .int .i64 (0 : Int), .int .i64 (1 : Int), .int .i64 (1 : Int), .int .u64 a2, .nils, .int .i64 (0 : Int), .int .i64 (-1 : Int)]]) (aN) ?_
     refine Holds.ret ?_
     exact bE (.agg [.osl [14], .nils, .nils, .nils, .nils, .nils, .nils, .int .i64 (0 : Int), .int .i64 b8_Active5, .int .i64 (0 : Int), .bool false, .int .i64 b8_Priority6, .int .i64 (0 : Int), .int .i64 (1 : Int), .int .i64 (1 : Int), .int .u64 a2, .nils, .int .i64 (0 : Int), .int .i64 (-1 : Int)]) (.agg (encSState (⟨l14_3, ([] : List (SObject)), ([] : List (Int)), ([] : List (Int)), ([] : List (SItem)), ([] : List (SWaiting)), ([] : List (SCont)), (0 : Int), b8_Active5, (0 : Int), false, b8_Priority6, (0 : Int), (1 : Int), (1 : Int), a2, ([] : List (Int)), (0 : Int), (-1 : Int)⟩ : SState))) (congrArg (vA encSState) (sI hJ7))
/-- cardgame/state.in -/
def state_in (a0 : Int) (a1 : Int) (a2 : Int) : Option (Bool) :=
 (some (if (decide (a1 ≤ a0)) = true then decide (a0 ≤ a2) else false)).bind fun b1 =>
 some b1
def state_in_C (a0 : Int) (a1 : Int) (a2 : Int) (r : Bool) : Prop := PCall Tryz.prog I0 58 [vI a0, vI a1, vI a2] (· = vB r)
theorem state_in_ok {a0 : Int} {a1 : Int} {a2 : Int} {r : Bool} (h : state_in a0 a1 a2 = some r) : state_in_C a0 a1 a2 r := by
 refine PCall.body I0_stable (by kernel_rfl) Tryz.func58 rfl Tryz.ntmps58 (rs := [.tmp 6]) rfl rfl ?_
 intro w0 av old gv
 unfold state_in at h
 refine Rg [.a] (sl 15 [(0, vI a0), (1, vI a1), (2, vI a2)] []) (aN) ?_
 obtain ⟨b1, hb1, h⟩ := bS h
 refine Rg [.a, .a, .a, .a, .a, .a, .a, (.v (vB b1)), .a] (sl 15 [(6, vB b1)] []) (aH ((decide (a1 ≤ a0)) == true) <| aT (decide (a1 ≤ a0)) <| aB hb1 <| aN) ?_
 refine Holds.ret ?_
 exact bQ (vB b1) (congrArg vB (sI h))
def mana_Whole_J1  : Option (Bool) :=
 some true
def mana_Whole_B4 (a0 : A6 (Int)) (vt6_3 : Int) : Option ((Int) ⊕ (Unit ⊕ Unit)) :=
 (if (decide (vt6_3 < (6 : Int))) = true then
  (idx a0.l vt6_3).bind fun e6 =>
  (some (if (decide (e6 < (0 : Int))) = true then true else decide ((1000000 : Int) < e6))).bind fun b7 =>
  (if b7 = true then
   some (.inr (.inl ()))
  else
   some (.inl (wrap64 (vt6_3 + (1 : Int)))))
 else
  some (.inr (.inr ())))
/-- cardgame/mana.Whole -/
def mana_Whole (a0 : A6 (Int)) : Option (Bool) :=
 (iter (fun (v : Int) => mana_Whole_B4 a0 v) FU (0 : Int)).bind (Sum.elim (fun o0 => some false) (fun o1 => mana_Whole_J1))
def mana_Whole_C (a0 : A6 (Int)) (r : Bool) : Prop := PCall Tryz.prog I0 59 [vA (eA6 (eI .i64)) a0] (· = vB r)
theorem mana_Whole_ok {a0 : A6 (Int)} {r : Bool} (h : mana_Whole a0 = some r) : mana_Whole_C a0 r := by
 refine PCall.body I0_stable (by kernel_rfl) Tryz.func59 rfl Tryz.ntmps59 (rs := [.tmp 2]) rfl rfl ?_
 intro w0 av old gv
 unfold mana_Whole at h
 refine Rg [.a, .a] (sl 16 [(1, vP [1] (0))] [bx [1] (eA6 (eI .i64) a0)]) (aN) ?_
 refine Sj (X := Unit) (fun v => (sl 16 [] [])) (fun v => mana_Whole_J1 = some r) ?_ ?_
 · refine Rg [.a, .a] (sl 16 [(5, vA (eA6 (eI .i64)) a0), (6, vI (0 : Int))] []) (aN) ?_
   refine Holds.block ?_
   obtain ⟨oB4, hiB4, h⟩ := bS h
   refine It (fun (v : Int) => (sl 16 [(5, vA (eA6 (eI .i64)) a0), (6, vI v)] [])) hiB4 (wT) ?_
   rintro vt6_3 zB4 hzB4 hoB4
   replace hzB4 : mana_Whole_B4 a0 vt6_3 = some zB4 := hzB4
   unfold mana_Whole_B4 at hzB4
   refine Rg [.a] (sl 16 [(5, vA (eA6 (eI .i64)) a0), (6, vI vt6_3), (7, vB (decide (vt6_3 < (6 : Int))))] []) (aN) ?_
   refine Holds.seq ?_
   refine iB hzB4 (fun b5 hzB4 => ?_) (fun b5 hzB4 => ?_)
   · refine Holds.skip ?_
     refine Tn ?_
     refine Holds.seq ?_
     refine Holds.block ?_
     obtain ⟨e6, he6, hzB4⟩ := bS hzB4
     refine Rg [(.v (vI e6)), .a] (sl 16 [(4, vI e6), (5, vA (eA6 (eI .i64)) a0), (6, vI vt6_3)] []) (aC (show (0 ≤ vt6_3 ∧ vt6_3 < ((6 : Nat) : Int)) ∧ (vt6_3).toNat * 1 + 1 ≤ (eA6 (eI .i64) a0).length ∧ toV false ((vt6_3).toNat * 1) 1 (eA6 (eI .i64) a0) = vI e6 from ⟨idx_b he6, arr_ld (e := eI .i64) (N := 1) (l := a0.l) (base := 0) (pre := []) (post := []) (by kernel_rfl) rfl he6 (lenI .i64) (o := 0) (by simp) (by decide) (by decide) (by kernel_rfl)⟩) <| aC (Eq.refl (vI e6)) <| aN) ?_
     obtain ⟨b7, hb7, hzB4⟩ := bS hzB4
     refine Rg [.a, .a, .a, .a, .a, (.v (vB b7))] (sl 16 [(5, vA (eA6 (eI .i64)) a0), (6, vI vt6_3), (14, vB b7)] []) (aG ((decide (e6 < (0 : Int))) == false) <| aF (decide (e6 < (0 : Int))) <| aB hb7 <| aN) ?_
     refine iB hzB4 (fun b8 hzB4 => ?_) (fun b8 hzB4 => ?_)
     · refine Rg [.a] (sl 16 [(2, vB false)] []) (aN) ?_
       refine Holds.ret ?_
       refine blockQ.ret ?_
       refine Tr ?_
       have hoB4_ := hoB4 _ (sI hzB4).symm
       subst hoB4_
       replace h := sumL h
       refine Tr ?_
       refine blockQ.ret ?_
       refine Tr ?_
       exact bQ (vB false) (congrArg vB (sI h))
     · refine Holds.skip ?_
       refine blockQ.normal ?_
       refine Tn ?_
       refine Re [.a, .a] (sl 16 [(5, vA (eA6 (eI .i64)) a0), (6, vI (wrap64 (vt6_3 + (1 : Int)))), (14, vB b7), (15, vI (wrap64 (vt6_3 + (1 : Int))))] []) (aN) ?_
       refine Tn ⟨(wrap64 (vt6_3 + (1 : Int))), (sI hzB4).symm, wT⟩
   · refine Holds.exit ?_
     refine thenQ.exit ?_
     have hoB4_ := hoB4 _ (sI hzB4).symm
     subst hoB4_
     replace h := sumR h
     refine thenQ.exit ?_
     refine blockQ.out ?_
     refine Tn ⟨(), h, wT⟩
 · rintro _ hJ1
   replace hJ1 : mana_Whole_J1 = some r := hJ1
   unfold mana_Whole_J1 at hJ1
   refine Rg [.a] (sl 16 [(2, vB true)] []) (aN) ?_
   refine Holds.ret ?_
   exact bQ (vB true) (congrArg vB (sI hJ1))
def state_objects_J1 (a1 : SState) : Option (Bool) :=
 some (decide ((a1.Objects.length : Int) ≤ (2048 : Int)))
def state_objects_B2 (a1 : SState) : Option ((Unit) ⊕ (Unit)) :=
 (if (decide ((0 : Int) < (a1.Objects.length : Int))) = true then
  (idx a1.Objects (0 : Int)).bind fun e4 =>
  none
 else
  some (.inr ()))
/-- cardgame/state.objects -/
def state_objects (a0 : List (SCard)) (a1 : SState) : Option (Bool) :=
 (iter (fun (v : Unit) => state_objects_B2 a1) FU ()).bind (fun o0 => state_objects_J1 a1)
def state_objects_C (a0 : List (SCard)) (a1 : SState) (r : Bool) : Prop := PCall Tryz.prog I0 29 [vL encSCard a0, vA encSState a1] (· = vB r)
theorem state_objects_ok {a0 : List (SCard)} {a1 : SState} {r : Bool} (h : state_objects a0 a1 = some r) : state_objects_C a0 a1 r := by
 refine PCall.body I0_stable (by kernel_rfl) Tryz.func29 rfl Tryz.ntmps29 (rs := [.tmp 4]) rfl rfl ?_
 intro w0 av old gv
 unfold state_objects at h
 refine Rg [.a, .a] (sl 50 [(0, vL encSCard a0), (3, vP [3] (0))] [bx [3] (encSState a1)]) (aN) ?_
 refine Rg [.a] (sl 50 [(0, vL encSCard a0), (3, vP [3] (0)), (5, vI (0 : Int))] [bx [3] (encSState a1)]) (aN) ?_
 refine Sj (X := Unit) (fun v => (sl 50 [(3, vP [3] (0))] [bx [3] (encSState a1)])) (fun v => state_objects_J1 a1 = some r) ?_ ?_
 · refine Rg [.a, .a, .a, .a] (sl 50 [(0, vL encSCard a0), (3, vP [3] (0)), (5, vI (0 : Int)), (9, vL encSObject a1.Objects), (10, vI (a1.Objects.length : Int)), (11, vI (0 : Int))] [bx [3] (encSState a1)]) (aN) ?_
   refine Holds.block ?_
   obtain ⟨oB2, hiB2, h⟩ := bS h
   refine It (fun (v : Unit) => (sl 50 [(0, vL encSCard a0), (3, vP [3] (0)), (5, vI (0 : Int)), (9, vL encSObject a1.Objects), (10, vI (a1.Objects.length : Int)), (11, vI (0 : Int))] [bx [3] (encSState a1)])) hiB2 (wT) ?_
   rintro _ zB2 hzB2 hoB2
   replace hzB2 : state_objects_B2 a1 = some zB2 := hzB2
   unfold state_objects_B2 at hzB2
   refine Rg [.a] (sl 50 [(0, vL encSCard a0), (3, vP [3] (0)), (5, vI (0 : Int)), (9, vL encSObject a1.Objects), (10, vI (a1.Objects.length : Int)), (11, vI (0 : Int)), (12, vB (decide ((0 : Int) < (a1.Objects.length : Int))))] [bx [3] (encSState a1)]) (aN) ?_
   refine Holds.seq ?_
   refine iB hzB2 (fun b3 hzB2 => ?_) (fun b3 hzB2 => ?_)
   · refine Holds.skip ?_
     refine Tn ?_
     refine Holds.seq ?_
     refine Holds.block ?_
     obtain ⟨e4, he4, hzB2⟩ := bS hzB2
     refine Rg [.a, (.v (vA encSObject e4)), .a, .a] (sl 50 [(0, vL encSCard a0), (3, vP [3] (0)), (5, vI (0 : Int)), (7, vP [7] (0)), (9, vL encSObject a1.Objects), (10, vI (a1.Objects.length : Int)), (11, vI (0 : Int))] [bx [7] (encSObject e4), bx [3] (encSState a1)]) (aC (idx_b he4) <| aC (eld he4 lenSObject 0 19 true (vA encSObject e4)) <| aC (Eq.refl (vA encSObject e4)) <| aN) ?_
     refine Holds.seq ?_
     cases hzB2
   · refine Holds.exit ?_
     refine thenQ.exit ?_
     have hoB2_ := hoB2 _ (sI hzB2).symm
     subst hoB2_
     refine thenQ.exit ?_
     refine blockQ.out ?_
     refine Tn ⟨(), h, wT⟩
 · rintro _ hJ1
   replace hJ1 : state_objects_J1 a1 = some r := hJ1
   unfold state_objects_J1 at hJ1
   refine Rg [.a, .a, .a, .a, .a] (sl 50 [(4, vB (decide ((a1.Objects.length : Int) ≤ (2048 : Int))))] []) (aN) ?_
   refine Holds.ret ?_
   exact bQ (vB (decide ((a1.Objects.length : Int) ≤ (2048 : Int)))) (congrArg vB (sI hJ1))
def state_places_J8  : Option (Bool) :=
 some true
def state_places_B9 (a0 : SState) : Option ((Unit) ⊕ (Unit)) :=
 (if (decide ((0 : Int) < (a0.Objects.length : Int))) = true then
  (idx a0.Objects (0 : Int)).bind fun e11 =>
  none
 else
  some (.inr ()))
def state_places_J7 (a0 : SState) : Option (Bool) :=
 (iter (fun (v : Unit) => state_places_B9 a0) FU ()).bind (fun o0 => state_places_J8)
def state_places_B12 (a0 : SState) : Option ((Unit) ⊕ (Unit)) :=
 (if (decide ((0 : Int) < (a0.Stack.length : Int))) = true then
  (idx a0.Stack (0 : Int)).bind fun e14 =>
  none
 else
  some (.inr ()))
def state_places_J6 (a0 : SState) : Option (Bool) :=
 (iter (fun (v : Unit) => state_places_B12 a0) FU ()).bind (fun o0 => state_places_J7 a0)
def state_places_J25 (vt28_16 : Int) (b23 : Bool) (q24 : Bool) : Option ((Int) ⊕ (Unit ⊕ Unit)) :=
 (some (if b23 = true then true else !q24)).bind fun b26 =>
 (if b26 = true then
  some (.inr (.inl ()))
 else
  some (.inl (wrap64 (vt28_16 + (1 : Int)))))
def state_places_J28 (vt28_16 : Int) (b23 : Bool) : Option ((Int) ⊕ (Unit ⊕ Unit)) :=
 state_places_J25 vt28_16 b23 true
def state_places_B29 (e19 : SPlayer) : Option ((Unit) ⊕ (Unit)) :=
 (if (decide ((0 : Int) < (e19.Graveyard.length : Int))) = true then
  (idx e19.Graveyard (0 : Int)).bind fun e31 =>
  none
 else
  some (.inr ()))
def state_places_J22 (vt28_16 : Int) (e19 : SPlayer) (q21 : Bool) : Option ((Int) ⊕ (Unit ⊕ Unit)) :=
 (some (if (!true) = true then true else !q21)).bind fun b23 =>
 (if (b23 == false) = true then
  (iter (fun (v : Unit) => state_places_B29 e19) FU ()).bind (fun o0 => state_places_J28 vt28_16 b23)
 else
  state_places_J25 vt28_16 b23 false)
def state_places_J32 (vt28_16 : Int) (e19 : SPlayer) : Option ((Int) ⊕ (Unit ⊕ Unit)) :=
 state_places_J22 vt28_16 e19 true
def state_places_B33 (e19 : SPlayer) : Option ((Unit) ⊕ (Unit)) :=
 (if (decide ((0 : Int) < (e19.Hand.length : Int))) = true then
  (idx e19.Hand (0 : Int)).bind fun e35 =>
  none
 else
  some (.inr ()))
def state_places_J20 (vt28_16 : Int) (e19 : SPlayer) : Option ((Int) ⊕ (Unit ⊕ Unit)) :=
 (if ((!true) == false) = true then
  (iter (fun (v : Unit) => state_places_B33 e19) FU ()).bind (fun o0 => state_places_J32 vt28_16 e19)
 else
  state_places_J22 vt28_16 e19 false)
def state_places_J36 (vt28_16 : Int) (e19 : SPlayer) : Option ((Int) ⊕ (Unit ⊕ Unit)) :=
 state_places_J20 vt28_16 e19
def state_places_B37 (e19 : SPlayer) : Option ((Unit) ⊕ (Unit)) :=
 (if (decide ((0 : Int) < (e19.Library.length : Int))) = true then
  (idx e19.Library (0 : Int)).bind fun e39 =>
  none
 else
  some (.inr ()))
def state_places_B17 (a0 : SState) (vt28_16 : Int) : Option ((Int) ⊕ (Unit ⊕ Unit)) :=
 (if (decide (vt28_16 < (a0.Players.length : Int))) = true then
  (idx a0.Players vt28_16).bind fun e19 =>
  (iter (fun (v : Unit) => state_places_B37 e19) FU ()).bind (fun o0 => state_places_J36 vt28_16 e19)
 else
  some (.inr (.inr ())))
def state_places_J3 (a0 : SState) (q2 : Bool) : Option (Bool) :=
 (some (if (!true) = true then true else !q2)).bind fun b4 =>
 (if b4 = true then
  some false
 else
  (iter (fun (v : Int) => state_places_B17 a0 v) FU (0 : Int)).bind (Sum.elim (fun o0 => some false) (fun o1 => state_places_J6 a0)))
def state_places_J40 (a0 : SState) : Option (Bool) :=
 state_places_J3 a0 true
def state_places_B41 (a0 : SState) : Option ((Unit) ⊕ (Unit)) :=
 (if (decide ((0 : Int) < (a0.Exile.length : Int))) = true then
  (idx a0.Exile (0 : Int)).bind fun e43 =>
  none
 else
  some (.inr ()))
def state_places_J1 (a0 : SState) : Option (Bool) :=
 (if ((!true) == false) = true then
  (iter (fun (v : Unit) => state_places_B41 a0) FU ()).bind (fun o0 => state_places_J40 a0)
 else
  state_places_J3 a0 false)
def state_places_J44 (a0 : SState) : Option (Bool) :=
 state_places_J1 a0
def state_places_B45 (a0 : SState) : Option ((Unit) ⊕ (Unit)) :=
 (if (decide ((0 : Int) < (a0.Battlefield.length : Int))) = true then
  (idx a0.Battlefield (0 : Int)).bind fun e47 =>
  none
 else
  some (.inr ()))
/-- cardgame/state.places -/
def state_places (a0 : SState) : Option (Bool) :=
 (iter (fun (v : Unit) => state_places_B45 a0) FU ()).bind (fun o0 => state_places_J44 a0)
def state_places_C (a0 : SState) (r : Bool) : Prop := PCall Tryz.prog I0 30 [vA encSState a0] (· = vB r)
theorem state_places_ok {a0 : SState} {r : Bool} (h : state_places a0 = some r) : state_places_C a0 r := by
 refine PCall.body I0_stable (by kernel_rfl) Tryz.func30 rfl Tryz.ntmps30 (rs := [.tmp 2]) rfl rfl ?_
 intro w0 av old gv
 unfold state_places at h
 refine Rg [.a, .a] (sl 88 [(1, vP [1] (0))] [bx [1] (encSState a0)]) (aN) ?_
 refine Holds.seq ?_
 refine Holds.region ?_
 refine Rp 0 [] (sl 88 [(1, vP [1] (0))] [bx [1] (encSState a0)]) (aN) ?_
 refine Run.inl rfl rfl (Esc.map rfl ?_)
 refine Rw [.a, .a] (sl 88 [(1, vP [1] (0)), (3, vP [3] (0)), (11, .c (.any))] [bx [3] [.any], bx [1] (encSState a0)]) (aN) ?_
 refine Tn ?_
 refine Rg [.a, .a] (sl 88 [(1, vP [1] (0)), (3, vP [3] (0)), (4, .c (.clo 61 [.ptr [1] (0), .ptr [3] (0)]))] [bx [3] [.any], bx [1] (encSState a0)]) (aC (show True ∧ (True ∧ True) from ⟨trivial, ⟨trivial, trivial⟩⟩) <| aN) ?_
 refine Holds.seq ?_
 refine Holds.seq ?_
 refine Holds.region ?_
 refine Rp 3 [.a, .a, .a] (sl 88 [(1, vP [1] (0)), (3, vP [3] (0)), (4, .c (.clo 61 [.ptr [1] (0), .ptr [3] (0)])), (13, .c (.clo 61 [.ptr [1] (0), .ptr [3] (0)])), (14, vP [1] (2)), (15, vL (eI .i64) a0.Battlefield)] [bx [3] [.any], bx [1] (encSState a0)]) (aN) ?_
 refine Run.inlJ (X := Unit) (fun v => (sl 88 [(1, vP [1] (0)), (3, vP [3] (0)), (4, .c (.clo 61 [.ptr [1] (0), .ptr [3] (0)])), (16, vB true)] [bx [3] [.any], bx [1] (encSState a0)])) (fun v => state_places_J1 a0 = some r) rfl rfl (Esc.inline (s := True ∧ (True ∧ (True ∧ True))) (vs := [vI (0 : Int), vI (-1 : Int), vL (eI .i64) a0.Battlefield]) (cs := [.ptr [1] (0), .ptr [3] (0)]) 16 rfl rfl rfl (by kernel_rfl) ⟨trivial, ⟨trivial, ⟨trivial, trivial⟩⟩⟩ (by kernel_rfl) (by kernel_rfl) Tryz.func61 rfl Tryz.ntmps61 (rs := [.tmp 8]) rfl ?_) ?_
 · intro w00 av0 old0 gv0
   refine At (sg 48 [(0, vI (0 : Int)), (1, vI (-1 : Int)), (2, vL (eI .i64) a0.Battlefield), (3, vP [1] (0)), (4, vP [3] (0))] [bx [3] [.any], bx [1] (encSState a0)] 88 [(1, vP [1] (0)), (3, vP [3] (0)), (4, .c (.clo 61 [.ptr [1] (0), .ptr [3] (0)])), (13, .c (.clo 61 [.ptr [1] (0), .ptr [3] (0)])), (14, vP [1] (2)), (15, vL (eI .i64) a0.Battlefield)] [16]) ?_
   refine Rg [.a] (sg 48 [(0, vI (0 : Int)), (1, vI (-1 : Int)), (2, vL (eI .i64) a0.Battlefield), (3, vP [1] (0)), (4, vP [3] (0))] [bx [3] [.any], bx [1] (encSState a0)] 88 [(1, vP [1] (0)), (3, vP [3] (0)), (4, .c (.clo 61 [.ptr [1] (0), .ptr [3] (0)])), (13, .c (.clo 61 [.ptr [1] (0), .ptr [3] (0)])), (14, vP [1] (2)), (15, vL (eI .i64) a0.Battlefield)] [16]) (aN) ?_
   refine Sj (X := Unit) (fun v => (sg 48 [] [bx [3] [.any], bx [1] (encSState a0)] 88 [(1, vP [1] (0)), (3, vP [3] (0)), (4, .c (.clo 61 [.ptr [1] (0), .ptr [3] (0)])), (13, .c (.clo 61 [.ptr [1] (0), .ptr [3] (0)])), (14, vP [1] (2)), (15, vL (eI .i64) a0.Battlefield)] [16])) (fun v => state_places_J44 a0 = some r) ?_ ?_
   · refine Rg [.a, .a, .a] (sg 48 [(0, vI (0 : Int)), (1, vI (-1 : Int)), (3, vP [1] (0)), (4, vP [3] (0)), (13, vL (eI .i64) a0.Battlefield), (14, vI (a0.Battlefield.length : Int)), (15, vI (0 : Int))] [bx [3] [.any], bx [1] (encSState a0)] 88 [(1, vP [1] (0)), (3, vP [3] (0)), (4, .c (.clo 61 [.ptr [1] (0), .ptr [3] (0)])), (13, .c (.clo 61 [.ptr [1] (0), .ptr [3] (0)])), (14, vP [1] (2)), (15, vL (eI .i64) a0.Battlefield)] [16]) (aN) ?_
     refine Holds.block ?_
     obtain ⟨oB45, hiB45, h⟩ := bS h
     refine It (fun (v : Unit) => (sg 48 [(0, vI (0 : Int)), (1, vI (-1 : Int)), (3, vP [1] (0)), (4, vP [3] (0)), (13, vL (eI .i64) a0.Battlefield), (14, vI (a0.Battlefield.length : Int)), (15, vI (0 : Int))] [bx [3] [.any], bx [1] (encSState a0)] 88 [(1, vP [1] (0)), (3, vP [3] (0)), (4, .c (.clo 61 [.ptr [1] (0), .ptr [3] (0)])), (13, .c (.clo 61 [.ptr [1] (0), .ptr [3] (0)])), (14, vP [1] (2)), (15, vL (eI .i64) a0.Battlefield)] [16])) hiB45 (wT) ?_
     rintro _ zB45 hzB45 hoB45
     replace hzB45 : state_places_B45 a0 = some zB45 := hzB45
     unfold state_places_B45 at hzB45
     refine Rg [.a] (sg 48 [(0, vI (0 : Int)), (1, vI (-1 : Int)), (3, vP [1] (0)), (4, vP [3] (0)), (13, vL (eI .i64) a0.Battlefield), (14, vI (a0.Battlefield.length : Int)), (15, vI (0 : Int)), (16, vB (decide ((0 : Int) < (a0.Battlefield.length : Int))))] [bx [3] [.any], bx [1] (encSState a0)] 88 [(1, vP [1] (0)), (3, vP [3] (0)), (4, .c (.clo 61 [.ptr [1] (0), .ptr [3] (0)])), (13, .c (.clo 61 [.ptr [1] (0), .ptr [3] (0)])), (14, vP [1] (2)), (15, vL (eI .i64) a0.Battlefield)] [16]) (aN) ?_
     refine Holds.seq ?_
     refine iB hzB45 (fun b46 hzB45 => ?_) (fun b46 hzB45 => ?_)
     · refine Holds.skip ?_
       refine Tn ?_
       refine Holds.seq ?_
       refine Holds.block ?_
       obtain ⟨e47, he47, hzB45⟩ := bS hzB45
       refine Rg [.a, (.v (vI e47)), .a] (sg 48 [(0, vI (0 : Int)), (1, vI (-1 : Int)), (3, vP [1] (0)), (4, vP [3] (0)), (10, vI e47), (13, vL (eI .i64) a0.Battlefield), (14, vI (a0.Battlefield.length : Int)), (15, vI (0 : Int))] [bx [3] [.any], bx [1] (encSState a0)] 88 [(1, vP [1] (0)), (3, vP [3] (0)), (4, .c (.clo 61 [.ptr [1] (0), .ptr [3] (0)])), (13, .c (.clo 61 [.ptr [1] (0), .ptr [3] (0)])), (14, vP [1] (2)), (15, vL (eI .i64) a0.Battlefield)] [16]) (aC (idx_b he47) <| aC (eld he47 (lenI .i64) 0 1 false (vI e47)) <| aC (Eq.refl (vI e47)) <| aN) ?_
       cases hzB45
     · refine Holds.exit ?_
       refine thenQ.exit ?_
       have hoB45_ := hoB45 _ (sI hzB45).symm
       subst hoB45_
       refine thenQ.exit ?_
       refine blockQ.out ?_
       refine Tn ⟨(), h, wT⟩
   · rintro _ hJ44
     replace hJ44 : state_places_J44 a0 = some r := hJ44
     unfold state_places_J44 at hJ44
     refine Rg [.a] (sg 48 [(8, vB true)] [bx [3] [.any], bx [1] (encSState a0)] 88 [(1, vP [1] (0)), (3, vP [3] (0)), (4, .c (.clo 61 [.ptr [1] (0), .ptr [3] (0)])), (13, .c (.clo 61 [.ptr [1] (0), .ptr [3] (0)])), (14, vP [1] (2)), (15, vL (eI .i64) a0.Battlefield)] [16]) (aN) ?_
     refine Holds.ret ?_
     refine inQ.ret (v := vB true) (by kernel_rfl) ⟨(), hJ44, lT⟩
 · rintro _ hJ1
   replace hJ1 : state_places_J1 a0 = some r := hJ1
   unfold state_places_J1 at hJ1
   refine Rp 5 [.a, .a, .a, .a, .a] (sl 88 [(1, vP [1] (0)), (3, vP [3] (0)), (4, .c (.clo 61 [.ptr [1] (0), .ptr [3] (0)])), (16, vB true), (17, vB (!true)), (18, vB (!true)), (19, .g ((!true) == false) (.c (.clo 61 [.ptr [1] (0), .ptr [3] (0)]))), (20, .g ((!true) == false) (vP [1] (3))), (21, .g ((!true) == false) (vL (eI .i64) a0.Exile))] [bx [3] [.any], bx [1] (encSState a0)]) (aG ((!true) == false) <| aN) ?_
   refine Run.inlgJ (X := Bool) (g := ((!true) == false)) (fun v => (sl 88 [(1, vP [1] (0)), (3, vP [3] (0)), (4, .c (.clo 61 [.ptr [1] (0), .ptr [3] (0)])), (18, vB (!true)), (22, .g ((!true) == false) (vB v))] [bx [3] [.any], bx [1] (encSState a0)])) (fun v => state_places_J3 a0 v = some r) 22 rfl rfl rfl (fun hgJ3 => ?_) (fun hgJ3 => ?_) ?_
   · replace hJ1 := iT hJ1 hgJ3
     refine Esc.ung (x := .c (.clo 61 [.ptr [1] (0), .ptr [3] (0)])) 19 hgJ3 ?_
     refine Esc.ung (x := vL (eI .i64) a0.Exile) 21 hgJ3 ?_
     refine Esc.inline (s := True ∧ (True ∧ (True ∧ True))) (vs := [vI (4 : Int), vI (-1 : Int), vL (eI .i64) a0.Exile]) (cs := [.ptr [1] (0), .ptr [3] (0)]) 22 rfl rfl rfl (by kernel_rfl) ⟨trivial, ⟨trivial, ⟨trivial, trivial⟩⟩⟩ (by kernel_rfl) (by kernel_rfl) Tryz.func61 rfl Tryz.ntmps61 (rs := [.tmp 8]) rfl ?_
     intro w01 av1 old1 gv1
     refine At (sg 48 [(0, vI (4 : Int)), (1, vI (-1 : Int)), (2, vL (eI .i64) a0.Exile), (3, vP [1] (0)), (4, vP [3] (0))] [bx [3] [.any], bx [1] (encSState a0)] 88 [(1, vP [1] (0)), (3, vP [3] (0)), (4, .c (.clo 61 [.ptr [1] (0), .ptr [3] (0)])), (16, vB true), (17, vB (!true)), (18, vB (!true)), (19, .c (.clo 61 [.ptr [1] (0), .ptr [3] (0)])), (20, .g ((!true) == false) (vP [1] (3))), (21, vL (eI .i64) a0.Exile)] [22]) ?_
     refine Rg [.a] (sg 48 [(0, vI (4 : Int)), (1, vI (-1 : Int)), (2, vL (eI .i64) a0.Exile), (3, vP [1] (0)), (4, vP [3] (0))] [bx [3] [.any], bx [1] (encSState a0)] 88 [(1, vP [1] (0)), (3, vP [3] (0)), (4, .c (.clo 61 [.ptr [1] (0), .ptr [3] (0)])), (16, vB true), (17, vB (!true)), (18, vB (!true)), (19, .c (.clo 61 [.ptr [1] (0), .ptr [3] (0)])), (20, .g ((!true) == false) (vP [1] (3))), (21, vL (eI .i64) a0.Exile)] [22]) (aN) ?_
     refine Sj (X := Unit) (fun v => (sg 48 [] [bx [3] [.any], bx [1] (encSState a0)] 88 [(1, vP [1] (0)), (3, vP [3] (0)), (4, .c (.clo 61 [.ptr [1] (0), .ptr [3] (0)])), (16, vB true), (17, vB (!true)), (18, vB (!true)), (19, .c (.clo 61 [.ptr [1] (0), .ptr [3] (0)])), (20, .g ((!true) == false) (vP [1] (3))), (21, vL (eI .i64) a0.Exile)] [22])) (fun v => state_places_J40 a0 = some r) ?_ ?_
     · refine Rg [.a, .a, .a] (sg 48 [(0, vI (4 : Int)), (1, vI (-1 : Int)), (3, vP [1] (0)), (4, vP [3] (0)), (13, vL (eI .i64) a0.Exile), (14, vI (a0.Exile.length : Int)), (15, vI (0 : Int))] [bx [3] [.any], bx [1] (encSState a0)] 88 [(1, vP [1] (0)), (3, vP [3] (0)), (4, .c (.clo 61 [.ptr [1] (0), .ptr [3] (0)])), (16, vB true), (17, vB (!true)), (18, vB (!true)), (19, .c (.clo 61 [.ptr [1] (0), .ptr [3] (0)])), (20, .g ((!true) == false) (vP [1] (3))), (21, vL (eI .i64) a0.Exile)] [22]) (aN) ?_
       refine Holds.block ?_
       obtain ⟨oB41, hiB41, hJ1⟩ := bS hJ1
       refine It (fun (v : Unit) => (sg 48 [(0, vI (4 : Int)), (1, vI (-1 : Int)), (3, vP [1] (0)), (4, vP [3] (0)), (13, vL (eI .i64) a0.Exile), (14, vI (a0.Exile.length : Int)), (15, vI (0 : Int))] [bx [3] [.any], bx [1] (encSState a0)] 88 [(1, vP [1] (0)), (3, vP [3] (0)), (4, .c (.clo 61 [.ptr [1] (0), .ptr [3] (0)])), (16, vB true), (17, vB (!true)), (18, vB (!true)), (19, .c (.clo 61 [.ptr [1] (0), .ptr [3] (0)])), (20, .g ((!true) == false) (vP [1] (3))), (21, vL (eI .i64) a0.Exile)] [22])) hiB41 (wT) ?_
       rintro _ zB41 hzB41 hoB41
       replace hzB41 : state_places_B41 a0 = some zB41 := hzB41
       unfold state_places_B41 at hzB41
       refine Rg [.a] (sg 48 [(0, vI (4 : Int)), (1, vI (-1 : Int)), (3, vP [1] (0)), (4, vP [3] (0)), (13, vL (eI .i64) a0.Exile), (14, vI (a0.Exile.length : Int)), (15, vI (0 : Int)), (16, vB (decide ((0 : Int) < (a0.Exile.length : Int))))] [bx [3] [.any], bx [1] (encSState a0)] 88 [(1, vP [1] (0)), (3, vP [3] (0)), (4, .c (.clo 61 [.ptr [1] (0), .ptr [3] (0)])), (16, vB true), (17, vB (!true)), (18, vB (!true)), (19, .c (.clo 61 [.ptr [1] (0), .ptr [3] (0)])), (20, .g ((!true) == false) (vP [1] (3))), (21, vL (eI .i64) a0.Exile)] [22]) (aN) ?_
       refine Holds.seq ?_
       refine iB hzB41 (fun b42 hzB41 => ?_) (fun b42 hzB41 => ?_)
       · refine Holds.skip ?_
         refine Tn ?_
         refine Holds.seq ?_
         refine Holds.block ?_
         obtain ⟨e43, he43, hzB41⟩ := bS hzB41
         refine Rg [.a, (.v (vI e43)), .a] (sg 48 [(0, vI (4 : Int)), (1, vI (-1 : Int)), (3, vP [1] (0)), (4, vP [3] (0)), (10, vI e43), (13, vL (eI .i64) a0.Exile), (14, vI (a0.Exile.length : Int)), (15, vI (0 : Int))] [bx [3] [.any], bx [1] (encSState a0)] 88 [(1, vP [1] (0)), (3, vP [3] (0)), (4, .c (.clo 61 [.ptr [1] (0), .ptr [3] (0)])), (16, vB true), (17, vB (!true)), (18, vB (!true)), (19, .c (.clo 61 [.ptr [1] (0), .ptr [3] (0)])), (20, .g ((!true) == false) (vP [1] (3))), (21, vL (eI .i64) a0.Exile)] [22]) (aC (idx_b he43) <| aC (eld he43 (lenI .i64) 0 1 false (vI e43)) <| aC (Eq.refl (vI e43)) <| aN) ?_
         cases hzB41
       · refine Holds.exit ?_
         refine thenQ.exit ?_
         have hoB41_ := hoB41 _ (sI hzB41).symm
         subst hoB41_
         refine thenQ.exit ?_
         refine blockQ.out ?_
         refine Tn ⟨(), hJ1, wT⟩
     · rintro _ hJ40
       replace hJ40 : state_places_J40 a0 = some r := hJ40
       unfold state_places_J40 at hJ40
       refine Rg [.a] (sg 48 [(8, vB true)] [bx [3] [.any], bx [1] (encSState a0)] 88 [(1, vP [1] (0)), (3, vP [3] (0)), (4, .c (.clo 61 [.ptr [1] (0), .ptr [3] (0)])), (16, vB true), (17, vB (!true)), (18, vB (!true)), (19, .c (.clo 61 [.ptr [1] (0), .ptr [3] (0)])), (20, .g ((!true) == false) (vP [1] (3))), (21, vL (eI .i64) a0.Exile)] [22]) (aN) ?_
       refine Holds.ret ?_
       refine inQ.ret (v := vB true) (by kernel_rfl) ⟨true, hJ40, lT⟩
   · replace hJ1 := iF hJ1 hgJ3
     exact ⟨false, vB false, hJ1, lT⟩
   · rintro q2 hJ3
     replace hJ3 : state_places_J3 a0 q2 = some r := hJ3
     unfold state_places_J3 at hJ3
     obtain ⟨b4, hb4, hJ3⟩ := bS hJ3
     refine Rw [.a, (.v (vB b4))] (sl 88 [(1, vP [1] (0)), (3, vP [3] (0)), (4, .c (.clo 61 [.ptr [1] (0), .ptr [3] (0)])), (18, vB (!true)), (22, .g ((!true) == false) (vB q2)), (23, .g ((!true) == false) (vB (!q2))), (24, vB b4)] [bx [3] [.any], bx [1] (encSState a0)]) (aG ((!true) == false) <| aF (!true) <| aB hb4 <| aN) ?_
     refine Tn ?_
     refine iB hJ3 (fun b5 hJ3 => ?_) (fun b5 hJ3 => ?_)
     · refine Rg [.a] (sl 88 [(2, vB false)] []) (aN) ?_
       refine Holds.ret ?_
       refine Tr ?_
       exact bQ (vB false) (congrArg vB (sI hJ3))
     · refine Holds.skip ?_
       refine Tn ?_
       refine Sj (X := Unit) (fun v => (sl 88 [(1, vP [1] (0)), (3, vP [3] (0)), (4, .c (.clo 61 [.ptr [1] (0), .ptr [3] (0)]))] [bx [3] [.any], bx [1] (encSState a0)])) (fun v => state_places_J6 a0 = some r) ?_ ?_
       · refine Rg [.a, .a, .a, .a] (sl 88 [(1, vP [1] (0)), (3, vP [3] (0)), (4, .c (.clo 61 [.ptr [1] (0), .ptr [3] (0)])), (26, vL encSPlayer a0.Players), (27, vI (a0.Players.length : Int)), (28, vI (0 : Int))] [bx [3] [.any], bx [1] (encSState a0)]) (aN) ?_
         refine Holds.block ?_
         obtain ⟨oB17, hiB17, hJ3⟩ := bS hJ3
         refine It (fun (v : Int) => (sl 88 [(1, vP [1] (0)), (3, vP [3] (0)), (4, .c (.clo 61 [.ptr [1] (0), .ptr [3] (0)])), (26, vL encSPlayer a0.Players), (27, vI (a0.Players.length : Int)), (28, vI v)] [bx [3] [.any], bx [1] (encSState a0)])) hiB17 (wT) ?_
         rintro vt28_16 zB17 hzB17 hoB17
         replace hzB17 : state_places_B17 a0 vt28_16 = some zB17 := hzB17
         unfold state_places_B17 at hzB17
         refine Rg [.a] (sl 88 [(1, vP [1] (0)), (3, vP [3] (0)), (4, .c (.clo 61 [.ptr [1] (0), .ptr [3] (0)])), (26, vL encSPlayer a0.Players), (27, vI (a0.Players.length : Int)), (28, vI vt28_16), (29, vB (decide (vt28_16 < (a0.Players.length : Int))))] [bx [3] [.any], bx [1] (encSState a0)]) (aN) ?_
         refine Holds.seq ?_
         refine iB hzB17 (fun b18 hzB17 => ?_) (fun b18 hzB17 => ?_)
         · refine Holds.skip ?_
           refine Tn ?_
           refine Holds.seq ?_
           refine Holds.block ?_
           obtain ⟨e19, he19, hzB17⟩ := bS hzB17
           refine Rg [.a, .a, (.v (vA encSPlayer e19)), .a, .a, .a] (sl 88 [(1, vP [1] (0)), (3, vP [3] (0)), (4, .c (.clo 61 [.ptr [1] (0), .ptr [3] (0)])), (5, vI vt28_16), (6, vP [6] (0)), (26, vL encSPlayer a0.Players), (27, vI (a0.Players.length : Int)), (28, vI vt28_16)] [bx [6] (encSPlayer e19), bx [3] [.any], bx [1] (encSState a0)]) (aC (idx_b he19) <| aC (eld he19 lenSPlayer 0 14 true (vA encSPlayer e19)) <| aC (Eq.refl (vA encSPlayer e19)) <| aN) ?_
           refine Holds.seq ?_
           refine Holds.region ?_
           refine Rp 4 [.a, .a, .a, .a] (sl 88 [(1, vP [1] (0)), (3, vP [3] (0)), (4, .c (.clo 61 [.ptr [1] (0), .ptr [3] (0)])), (5, vI vt28_16), (6, vP [6] (0)), (26, vL encSPlayer a0.Players), (27, vI (a0.Players.length : Int)), (28, vI vt28_16), (33, .c (.clo 61 [.ptr [1] (0), .ptr [3] (0)])), (34, vI vt28_16), (35, vP [6] (11)), (36, vL (eI .i64) e19.Library)] [bx [6] (encSPlayer e19), bx [3] [.any], bx [1] (encSState a0)]) (aN) ?_
           refine Run.inlJ (X := Unit) (fun v => (sl 88 [(1, vP [1] (0)), (3, vP [3] (0)), (4, .c (.clo 61 [.ptr [1] (0), .ptr [3] (0)])), (5, vI vt28_16), (6, vP [6] (0)), (26, vL encSPlayer a0.Players), (27, vI (a0.Players.length : Int)), (28, vI vt28_16), (37, vB true)] [bx [6] (encSPlayer e19), bx [3] [.any], bx [1] (encSState a0)])) (fun v => state_places_J20 vt28_16 e19 = some zB17) rfl rfl (Esc.inline (s := True ∧ (True ∧ (True ∧ True))) (vs := [vI (2 : Int), vI vt28_16, vL (eI .i64) e19.Library]) (cs := [.ptr [1] (0), .ptr [3] (0)]) 37 rfl rfl rfl (by kernel_rfl) ⟨trivial, ⟨trivial, ⟨trivial, trivial⟩⟩⟩ (by kernel_rfl) (by kernel_rfl) Tryz.func61 rfl Tryz.ntmps61 (rs := [.tmp 8]) rfl ?_) ?_
           · intro w019 av19 old19 gv19
             refine At (sg 48 [(0, vI (2 : Int)), (1, vI vt28_16), (2, vL (eI .i64) e19.Library), (3, vP [1] (0)), (4, vP [3] (0))] [bx [6] (encSPlayer e19), bx [3] [.any], bx [1] (encSState a0)] 88 [(1, vP [1] (0)), (3, vP [3] (0)), (4, .c (.clo 61 [.ptr [1] (0), .ptr [3] (0)])), (5, vI vt28_16), (6, vP [6] (0)), (26, vL encSPlayer a0.Players), (27, vI (a0.Players.length : Int)), (28, vI vt28_16), (33, .c (.clo 61 [.ptr [1] (0), .ptr [3] (0)])), (34, vI vt28_16), (35, vP [6] (11)), (36, vL (eI .i64) e19.Library)] [37]) ?_
             refine Rg [.a] (sg 48 [(0, vI (2 : Int)), (1, vI vt28_16), (2, vL (eI .i64) e19.Library), (3, vP [1] (0)), (4, vP [3] (0))] [bx [6] (encSPlayer e19), bx [3] [.any], bx [1] (encSState a0)] 88 [(1, vP [1] (0)), (3, vP [3] (0)), (4, .c (.clo 61 [.ptr [1] (0), .ptr [3] (0)])), (5, vI vt28_16), (6, vP [6] (0)), (26, vL encSPlayer a0.Players), (27, vI (a0.Players.length : Int)), (28, vI vt28_16), (33, .c (.clo 61 [.ptr [1] (0), .ptr [3] (0)])), (34, vI vt28_16), (35, vP [6] (11)), (36, vL (eI .i64) e19.Library)] [37]) (aN) ?_
             refine Sj (X := Unit) (fun v => (sg 48 [] [bx [6] (encSPlayer e19), bx [3] [.any], bx [1] (encSState a0)] 88 [(1, vP [1] (0)), (3, vP [3] (0)), (4, .c (.clo 61 [.ptr [1] (0), .ptr [3] (0)])), (5, vI vt28_16), (6, vP [6] (0)), (26, vL encSPlayer a0.Players), (27, vI (a0.Players.length : Int)), (28, vI vt28_16), (33, .c (.clo 61 [.ptr [1] (0), .ptr [3] (0)])), (34, vI vt28_16), (35, vP [6] (11)), (36, vL (eI .i64) e19.Library)] [37])) (fun v => state_places_J36 vt28_16 e19 = some zB17) ?_ ?_
             · refine Rg [.a, .a, .a] (sg 48 [(0, vI (2 : Int)), (1, vI vt28_16), (3, vP [1] (0)), (4, vP [3] (0)), (13, vL (eI .i64) e19.Library), (14, vI (e19.Library.length : Int)), (15, vI (0 : Int))] [bx [6] (encSPlayer e19), bx [3] [.any], bx [1] (encSState a0)] 88 [(1, vP [1] (0)), (3, vP [3] (0)), (4, .c (.clo 61 [.ptr [1] (0), .ptr [3] (0)])), (5, vI vt28_16), (6, vP [6] (0)), (26, vL encSPlayer a0.Players), (27, vI (a0.Players.length : Int)), (28, vI vt28_16), (33, .c (.clo 61 [.ptr [1] (0), .ptr [3] (0)])), (34, vI vt28_16), (35, vP [6] (11)), (36, vL (eI .i64) e19.Library)] [37]) (aN) ?_
               refine Holds.block ?_
               obtain ⟨oB37, hiB37, hzB17⟩ := bS hzB17
               refine It (fun (v : Unit) => (sg 48 [(0, vI (2 : Int)), (1, vI vt28_16), (3, vP [1] (0)), (4, vP [3] (0)), (13, vL (eI .i64) e19.Library), (14, vI (e19.Library.length : Int)), (15, vI (0 : Int))] [bx [6] (encSPlayer e19), bx [3] [.any], bx [1] (encSState a0)] 88 [(1, vP [1] (0)), (3, vP [3] (0)), (4, .c (.clo 61 [.ptr [1] (0), .ptr [3] (0)])), (5, vI vt28_16), (6, vP [6] (0)), (26, vL encSPlayer a0.Players), (27, vI (a0.Players.length : Int)), (28, vI vt28_16), (33, .c (.clo 61 [.ptr [1] (0), .ptr [3] (0)])), (34, vI vt28_16), (35, vP [6] (11)), (36, vL (eI .i64) e19.Library)] [37])) hiB37 (wT) ?_
               rintro _ zB37 hzB37 hoB37
               replace hzB37 : state_places_B37 e19 = some zB37 := hzB37
               unfold state_places_B37 at hzB37
               refine Rg [.a] (sg 48 [(0, vI (2 : Int)), (1, vI vt28_16), (3, vP [1] (0)), (4, vP [3] (0)), (13, vL (eI .i64) e19.Library), (14, vI (e19.Library.length : Int)), (15, vI (0 : Int)), (16, vB (decide ((0 : Int) < (e19.Library.length : Int))))] [bx [6] (encSPlayer e19), bx [3] [.any], bx [1] (encSState a0)] 88 [(1, vP [1] (0)), (3, vP [3] (0)), (4, .c (.clo 61 [.ptr [1] (0), .ptr [3] (0)])), (5, vI vt28_16), (6, vP [6] (0)), (26, vL encSPlayer a0.Players), (27, vI (a0.Players.length : Int)), (28, vI vt28_16), (33, .c (.clo 61 [.ptr [1] (0), .ptr [3] (0)])), (34, vI vt28_16), (35, vP [6] (11)), (36, vL (eI .i64) e19.Library)] [37]) (aN) ?_
               refine Holds.seq ?_
               refine iB hzB37 (fun b38 hzB37 => ?_) (fun b38 hzB37 => ?_)
               · refine Holds.skip ?_
                 refine Tn ?_
                 refine Holds.seq ?_
                 refine Holds.block ?_
                 obtain ⟨e39, he39, hzB37⟩ := bS hzB37
                 refine Rg [.a, (.v (vI e39)), .a] (sg 48 [(0, vI (2 : Int)), (1, vI vt28_16), (3, vP [1] (0)), (4, vP [3] (0)), (10, vI e39), (13, vL (eI .i64) e19.Library), (14, vI (e19.Library.length : Int)), (15, vI (0 : Int))] [bx [6] (encSPlayer e19), bx [3] [.any], bx [1] (encSState a0)] 88 [(1, vP [1] (0)), (3, vP [3] (0)), (4, .c (.clo 61 [.ptr [1] (0), .ptr [3] (0)])), (5, vI vt28_16), (6, vP [6] (0)), (26, vL encSPlayer a0.Players), (27, vI (a0.Players.length : Int)), (28, vI vt28_16), (33, .c (.clo 61 [.ptr [1] (0), .ptr [3] (0)])), (34, vI vt28_16), (35, vP [6] (11)), (36, vL (eI .i64) e19.Library)] [37]) (aC (idx_b he39) <| aC (eld he39 (lenI .i64) 0 1 false (vI e39)) <| aC (Eq.refl (vI e39)) <| aN) ?_
                 cases hzB37
               · refine Holds.exit ?_
                 refine thenQ.exit ?_
                 have hoB37_ := hoB37 _ (sI hzB37).symm
                 subst hoB37_
                 refine thenQ.exit ?_
                 refine blockQ.out ?_
                 refine Tn ⟨(), hzB17, wT⟩
             · rintro _ hJ36
               replace hJ36 : state_places_J36 vt28_16 e19 = some zB17 := hJ36
               unfold state_places_J36 at hJ36
               refine Rg [.a] (sg 48 [(8, vB true)] [bx [6] (encSPlayer e19), bx [3] [.any], bx [1] (encSState a0)] 88 [(1, vP [1] (0)), (3, vP [3] (0)), (4, .c (.clo 61 [.ptr [1] (0), .ptr [3] (0)])), (5, vI vt28_16), (6, vP [6] (0)), (26, vL encSPlayer a0.Players), (27, vI (a0.Players.length : Int)), (28, vI vt28_16), (33, .c (.clo 61 [.ptr [1] (0), .ptr [3] (0)])), (34, vI vt28_16), (35, vP [6] (11)), (36, vL (eI .i64) e19.Library)] [37]) (aN) ?_
               refine Holds.ret ?_
               refine inQ.ret (v := vB true) (by kernel_rfl) ⟨(), hJ36, lT⟩
           · rintro _ hJ20
             replace hJ20 : state_places_J20 vt28_16 e19 = some zB17 := hJ20
             unfold state_places_J20 at hJ20
             refine Rp 6 [.a, .a, .a, .a, .a, .a] (sl 88 [(1, vP [1] (0)), (3, vP [3] (0)), (4, .c (.clo 61 [.ptr [1] (0), .ptr [3] (0)])), (5, vI vt28_16), (6, vP [6] (0)), (26, vL encSPlayer a0.Players), (27, vI (a0.Players.length : Int)), (28, vI vt28_16), (37, vB true), (38, vB (!true)), (39, vB (!true)), (40, .g ((!true) == false) (.c (.clo 61 [.ptr [1] (0), .ptr [3] (0)]))), (41, .g ((!true) == false) (vI vt28_16)), (42, .g ((!true) == false) (vP [6] (12))), (43, .g ((!true) == false) (vL (eI .i64) e19.Hand))] [bx [6] (encSPlayer e19), bx [3] [.any], bx [1] (encSState a0)]) (aG ((!true) == false) <| aN) ?_
             refine Run.inlgJ (X := Bool) (g := ((!true) == false)) (fun v => (sl 88 [(1, vP [1] (0)), (3, vP [3] (0)), (4, .c (.clo 61 [.ptr [1] (0), .ptr [3] (0)])), (5, vI vt28_16), (6, vP [6] (0)), (26, vL encSPlayer a0.Players), (27, vI (a0.Players.length : Int)), (28, vI vt28_16), (39, vB (!true)), (44, .g ((!true) == false) (vB v))] [bx [6] (encSPlayer e19), bx [3] [.any], bx [1] (encSState a0)])) (fun v => state_places_J22 vt28_16 e19 v = some zB17) 44 rfl rfl rfl (fun hgJ22 => ?_) (fun hgJ22 => ?_) ?_
             · replace hJ20 := iT hJ20 hgJ22
               refine Esc.ung (x := .c (.clo 61 [.ptr [1] (0), .ptr [3] (0)])) 40 hgJ22 ?_
               refine Esc.ung (x := vI vt28_16) 41 hgJ22 ?_
               refine Esc.ung (x := vL (eI .i64) e19.Hand) 43 hgJ22 ?_
               refine Esc.inline (s := True ∧ (True ∧ (True ∧ True))) (vs := [vI (1 : Int), vI vt28_16, vL (eI .i64) e19.Hand]) (cs := [.ptr [1] (0), .ptr [3] (0)]) 44 rfl rfl rfl (by kernel_rfl) ⟨trivial, ⟨trivial, ⟨trivial, trivial⟩⟩⟩ (by kernel_rfl) (by kernel_rfl) Tryz.func61 rfl Tryz.ntmps61 (rs := [.tmp 8]) rfl ?_
               intro w020 av20 old20 gv20
               refine At (sg 48 [(0, vI (1 : Int)), (1, vI vt28_16), (2, vL (eI .i64) e19.Hand), (3, vP [1] (0)), (4, vP [3] (0))] [bx [6] (encSPlayer e19), bx [3] [.any], bx [1] (encSState a0)] 88 [(1, vP [1] (0)), (3, vP [3] (0)), (4, .c (.clo 61 [.ptr [1] (0), .ptr [3] (0)])), (5, vI vt28_16), (6, vP [6] (0)), (26, vL encSPlayer a0.Players), (27, vI (a0.Players.length : Int)), (28, vI vt28_16), (37, vB true), (38, vB (!true)), (39, vB (!true)), (40, .c (.clo 61 [.ptr [1] (0), .ptr [3] (0)])), (41, vI vt28_16), (42, .g ((!true) == false) (vP [6] (12))), (43, vL (eI .i64) e19.Hand)] [44]) ?_
               refine Rg [.a] (sg 48 [(0, vI (1 : Int)), (1, vI vt28_16), (2, vL (eI .i64) e19.Hand), (3, vP [1] (0)), (4, vP [3] (0))] [bx [6] (encSPlayer e19), bx [3] [.any], bx [1] (encSState a0)] 88 [(1, vP [1] (0)), (3, vP [3] (0)), (4, .c (.clo 61 [.ptr [1] (0), .ptr [3] (0)])), (5, vI vt28_16), (6, vP [6] (0)), (26, vL encSPlayer a0.Players), (27, vI (a0.Players.length : Int)), (28, vI vt28_16), (37, vB true), (38, vB (!true)), (39, vB (!true)), (40, .c (.clo 61 [.ptr [1] (0), .ptr [3] (0)])), (41, vI vt28_16), (42, .g ((!true) == false) (vP [6] (12))), (43, vL (eI .i64) e19.Hand)] [44]) (aN) ?_
               refine Sj (X := Unit) (fun v => (sg 48 [] [bx [6] (encSPlayer e19), bx [3] [.any], bx [1] (encSState a0)] 88 [(1, vP [1] (0)), (3, vP [3] (0)), (4, .c (.clo 61 [.ptr [1] (0), .ptr [3] (0)])), (5, vI vt28_16), (6, vP [6] (0)), (26, vL encSPlayer a0.Players), (27, vI (a0.Players.length : Int)), (28, vI vt28_16), (37, vB true), (38, vB (!true)), (39, vB (!true)), (40, .c (.clo 61 [.ptr [1] (0), .ptr [3] (0)])), (41, vI vt28_16), (42, .g ((!true) == false) (vP [6] (12))), (43, vL (eI .i64) e19.Hand)] [44])) (fun v => state_places_J32 vt28_16 e19 = some zB17) ?_ ?_
               · refine Rg [.a, .a, .a] (sg 48 [(0, vI (1 : Int)), (1, vI vt28_16), (3, vP [1] (0)), (4, vP [3] (0)), (13, vL (eI .i64) e19.Hand), (14, vI (e19.Hand.length : Int)), (15, vI (0 : Int))] [bx [6] (encSPlayer e19), bx [3] [.any], bx [1] (encSState a0)] 88 [(1, vP [1] (0)), (3, vP [3] (0)), (4, .c (.clo 61 [.ptr [1] (0), .ptr [3] (0)])), (5, vI vt28_16), (6, vP [6] (0)), (26, vL encSPlayer a0.Players), (27, vI (a0.Players.length : Int)), (28, vI vt28_16), (37, vB true), (38, vB (!true)), (39, vB (!true)), (40, .c (.clo 61 [.ptr [1] (0), .ptr [3] (0)])), (41, vI vt28_16), (42, .g ((!true) == false) (vP [6] (12))), (43, vL (eI .i64) e19.Hand)] [44]) (aN) ?_
                 refine Holds.block ?_
                 obtain ⟨oB33, hiB33, hJ20⟩ := bS hJ20
                 refine It (fun (v : Unit) => (sg 48 [(0, vI (1 : Int)), (1, vI vt28_16), (3, vP [1] (0)), (4, vP [3] (0)), (13, vL (eI .i64) e19.Hand), (14, vI (e19.Hand.length : Int)), (15, vI (0 : Int))] [bx [6] (encSPlayer e19), bx [3] [.any], bx [1] (encSState a0)] 88 [(1, vP [1] (0)), (3, vP [3] (0)), (4, .c (.clo 61 [.ptr [1] (0), .ptr [3] (0)])), (5, vI vt28_16), (6, vP [6] (0)), (26, vL encSPlayer a0.Players), (27, vI (a0.Players.length : Int)), (28, vI vt28_16), (37, vB true), (38, vB (!true)), (39, vB (!true)), (40, .c (.clo 61 [.ptr [1] (0), .ptr [3] (0)])), (41, vI vt28_16), (42, .g ((!true) == false) (vP [6] (12))), (43, vL (eI .i64) e19.Hand)] [44])) hiB33 (wT) ?_
                 rintro _ zB33 hzB33 hoB33
                 replace hzB33 : state_places_B33 e19 = some zB33 := hzB33
                 unfold state_places_B33 at hzB33
                 refine Rg [.a] (sg 48 [(0, vI (1 : Int)), (1, vI vt28_16), (3, vP [1] (0)), (4, vP [3] (0)), (13, vL (eI .i64) e19.Hand), (14, vI (e19.Hand.length : Int)), (15, vI (0 : Int)), (16, vB (decide ((0 : Int) < (e19.Hand.length : Int))))] [bx [6] (encSPlayer e19), bx [3] [.any], bx [1] (encSState a0)] 88 [(1, vP [1] (0)), (3, vP [3] (0)), (4, .c (.clo 61 [.ptr [1] (0), .ptr [3] (0)])), (5, vI vt28_16), (6, vP [6] (0)), (26, vL encSPlayer a0.Players), (27, vI (a0.Players.length : Int)), (28, vI vt28_16), (37, vB true), (38, vB (!true)), (39, vB (!true)), (40, .c (.clo 61 [.ptr [1] (0), .ptr [3] (0)])), (41, vI vt28_16), (42, .g ((!true) == false) (vP [6] (12))), (43, vL (eI .i64) e19.Hand)] [44]) (aN) ?_
                 refine Holds.seq ?_
                 refine iB hzB33 (fun b34 hzB33 => ?_) (fun b34 hzB33 => ?_)
                 · refine Holds.skip ?_
                   refine Tn ?_
                   refine Holds.seq ?_
                   refine Holds.block ?_
                   obtain ⟨e35, he35, hzB33⟩ := bS hzB33
                   refine Rg [.a, (.v (vI e35)), .a] (sg 48 [(0, vI (1 : Int)), (1, vI vt28_16), (3, vP [1] (0)), (4, vP [3] (0)), (10, vI e35), (13, vL (eI .i64) e19.Hand), (14, vI (e19.Hand.length : Int)), (15, vI (0 : Int))] [bx [6] (encSPlayer e19), bx [3] [.any], bx [1] (encSState a0)] 88 [(1, vP [1] (0)), (3, vP [3] (0)), (4, .c (.clo 61 [.ptr [1] (0), .ptr [3] (0)])), (5, vI vt28_16), (6, vP [6] (0)), (26, vL encSPlayer a0.Players), (27, vI (a0.Players.length : Int)), (28, vI vt28_16), (37, vB true), (38, vB (!true)), (39, vB (!true)), (40, .c (.clo 61 [.ptr [1] (0), .ptr [3] (0)])), (41, vI vt28_16), (42, .g ((!true) == false) (vP [6] (12))), (43, vL (eI .i64) e19.Hand)] [44]) (aC (idx_b he35) <| aC (eld he35 (lenI .i64) 0 1 false (vI e35)) <| aC (Eq.refl (vI e35)) <| aN) ?_
                   cases hzB33
                 · refine Holds.exit ?_
                   refine thenQ.exit ?_
                   have hoB33_ := hoB33 _ (sI hzB33).symm
                   subst hoB33_
                   refine thenQ.exit ?_
                   refine blockQ.out ?_
                   refine Tn ⟨(), hJ20, wT⟩
               · rintro _ hJ32
                 replace hJ32 : state_places_J32 vt28_16 e19 = some zB17 := hJ32
                 unfold state_places_J32 at hJ32
                 refine Rg [.a] (sg 48 [(8, vB true)] [bx [6] (encSPlayer e19), bx [3] [.any], bx [1] (encSState a0)] 88 [(1, vP [1] (0)), (3, vP [3] (0)), (4, .c (.clo 61 [.ptr [1] (0), .ptr [3] (0)])), (5, vI vt28_16), (6, vP [6] (0)), (26, vL encSPlayer a0.Players), (27, vI (a0.Players.length : Int)), (28, vI vt28_16), (37, vB true), (38, vB (!true)), (39, vB (!true)), (40, .c (.clo 61 [.ptr [1] (0), .ptr [3] (0)])), (41, vI vt28_16), (42, .g ((!true) == false) (vP [6] (12))), (43, vL (eI .i64) e19.Hand)] [44]) (aN) ?_
                 refine Holds.ret ?_
                 refine inQ.ret (v := vB true) (by kernel_rfl) ⟨true, hJ32, lT⟩
             · replace hJ20 := iF hJ20 hgJ22
               exact ⟨false, vB false, hJ20, lT⟩
             · rintro q21 hJ22
               replace hJ22 : state_places_J22 vt28_16 e19 q21 = some zB17 := hJ22
               unfold state_places_J22 at hJ22
               obtain ⟨b23, hb23, hJ22⟩ := bS hJ22
               refine Rp 7 [.a, (.v (vB b23)), .a, .a, .a, .a, .a] (sl 88 [(1, vP [1] (0)), (3, vP [3] (0)), (4, .c (.clo 61 [.ptr [1] (0), .ptr [3] (0)])), (5, vI vt28_16), (6, vP [6] (0)), (26, vL encSPlayer a0.Players), (27, vI (a0.Players.length : Int)), (28, vI vt28_16), (39, vB (!true)), (44, .g ((!true) == false) (vB q21)), (45, .g ((!true) == false) (vB (!q21))), (46, vB b23), (47, vB b23), (48, .g (b23 == false) (.c (.clo 61 [.ptr [1] (0), .ptr [3] (0)]))), (49, .g (b23 == false) (vI vt28_16)), (50, .g (b23 == false) (vP [6] (13))), (51, .g (b23 == false) (vL (eI .i64) e19.Graveyard))] [bx [6] (encSPlayer e19), bx [3] [.any], bx [1] (encSState a0)]) (aG ((!true) == false) <| aF (!true) <| aB hb23 <| aG (b23 == false) <| aN) ?_
               refine Run.inlgJ (X := Bool) (g := (b23 == false)) (fun v => (sl 88 [(1, vP [1] (0)), (3, vP [3] (0)), (4, .c (.clo 61 [.ptr [1] (0), .ptr [3] (0)])), (26, vL encSPlayer a0.Players), (27, vI (a0.Players.length : Int)), (28, vI vt28_16), (47, vB b23), (52, .g (b23 == false) (vB v))] [bx [3] [.any], bx [1] (encSState a0)])) (fun v => state_places_J25 vt28_16 b23 v = some zB17) 52 rfl rfl rfl (fun hgJ25 => ?_) (fun hgJ25 => ?_) ?_
               · replace hJ22 := iT hJ22 hgJ25
                 refine Esc.ung (x := .c (.clo 61 [.ptr [1] (0), .ptr [3] (0)])) 48 hgJ25 ?_
                 refine Esc.ung (x := vI vt28_16) 49 hgJ25 ?_
                 refine Esc.ung (x := vL (eI .i64) e19.Graveyard) 51 hgJ25 ?_
                 refine Esc.inline (s := True ∧ (True ∧ (True ∧ True))) (vs := [vI (3 : Int), vI vt28_16, vL (eI .i64) e19.Graveyard]) (cs := [.ptr [1] (0), .ptr [3] (0)]) 52 rfl rfl rfl (by kernel_rfl) ⟨trivial, ⟨trivial, ⟨trivial, trivial⟩⟩⟩ (by kernel_rfl) (by kernel_rfl) Tryz.func61 rfl Tryz.ntmps61 (rs := [.tmp 8]) rfl ?_
                 intro w023 av23 old23 gv23
                 refine At (sg 48 [(0, vI (3 : Int)), (1, vI vt28_16), (2, vL (eI .i64) e19.Graveyard), (3, vP [1] (0)), (4, vP [3] (0))] [bx [6] (encSPlayer e19), bx [3] [.any], bx [1] (encSState a0)] 88 [(1, vP [1] (0)), (3, vP [3] (0)), (4, .c (.clo 61 [.ptr [1] (0), .ptr [3] (0)])), (5, vI vt28_16), (6, vP [6] (0)), (26, vL encSPlayer a0.Players), (27, vI (a0.Players.length : Int)), (28, vI vt28_16), (39, vB (!true)), (44, .g ((!true) == false) (vB q21)), (45, .g ((!true) == false) (vB (!q21))), (46, vB b23), (47, vB b23), (48, .c (.clo 61 [.ptr [1] (0), .ptr [3] (0)])), (49, vI vt28_16), (50, .g (b23 == false) (vP [6] (13))), (51, vL (eI .i64) e19.Graveyard)] [52]) ?_
                 refine Rg [.a] (sg 48 [(0, vI (3 : Int)), (1, vI vt28_16), (2, vL (eI .i64) e19.Graveyard), (3, vP [1] (0)), (4, vP [3] (0))] [bx [6] (encSPlayer e19), bx [3] [.any], bx [1] (encSState a0)] 88 [(1, vP [1] (0)), (3, vP [3] (0)), (4, .c (.clo 61 [.ptr [1] (0), .ptr [3] (0)])), (5, vI vt28_16), (6, vP [6] (0)), (26, vL encSPlayer a0.Players), (27, vI (a0.Players.length : Int)), (28, vI vt28_16), (39, vB (!true)), (44, .g ((!true) == false) (vB q21)), (45, .g ((!true) == false) (vB (!q21))), (46, vB b23), (47, vB b23), (48, .c (.clo 61 [.ptr [1] (0), .ptr [3] (0)])), (49, vI vt28_16), (50, .g (b23 == false) (vP [6] (13))), (51, vL (eI .i64) e19.Graveyard)] [52]) (aN) ?_
                 refine Sj (X := Unit) (fun v => (sg 48 [] [bx [6] (encSPlayer e19), bx [3] [.any], bx [1] (encSState a0)] 88 [(1, vP [1] (0)), (3, vP [3] (0)), (4, .c (.clo 61 [.ptr [1] (0), .ptr [3] (0)])), (5, vI vt28_16), (6, vP [6] (0)), (26, vL encSPlayer a0.Players), (27, vI (a0.Players.length : Int)), (28, vI vt28_16), (39, vB (!true)), (44, .g ((!true) == false) (vB q21)), (45, .g ((!true) == false) (vB (!q21))), (46, vB b23), (47, vB b23), (48, .c (.clo 61 [.ptr [1] (0), .ptr [3] (0)])), (49, vI vt28_16), (50, .g (b23 == false) (vP [6] (13))), (51, vL (eI .i64) e19.Graveyard)] [52])) (fun v => state_places_J28 vt28_16 b23 = some zB17) ?_ ?_
                 · refine Rg [.a, .a, .a] (sg 48 [(0, vI (3 : Int)), (1, vI vt28_16), (3, vP [1] (0)), (4, vP [3] (0)), (13, vL (eI .i64) e19.Graveyard), (14, vI (e19.Graveyard.length : Int)), (15, vI (0 : Int))] [bx [6] (encSPlayer e19), bx [3] [.any], bx [1] (encSState a0)] 88 [(1, vP [1] (0)), (3, vP [3] (0)), (4, .c (.clo 61 [.ptr [1] (0), .ptr [3] (0)])), (5, vI vt28_16), (6, vP [6] (0)), (26, vL encSPlayer a0.Players), (27, vI (a0.Players.length : Int)), (28, vI vt28_16), (39, vB (!true)), (44, .g ((!true) == false) (vB q21)), (45, .g ((!true) == false) (vB (!q21))), (46, vB b23), (47, vB b23), (48, .c (.clo 61 [.ptr [1] (0), .ptr [3] (0)])), (49, vI vt28_16), (50, .g (b23 == false) (vP [6] (13))), (51, vL (eI .i64) e19.Graveyard)] [52]) (aN) ?_
                   refine Holds.block ?_
                   obtain ⟨oB29, hiB29, hJ22⟩ := bS hJ22
                   refine It (fun (v : Unit) => (sg 48 [(0, vI (3 : Int)), (1, vI vt28_16), (3, vP [1] (0)), (4, vP [3] (0)), (13, vL (eI .i64) e19.Graveyard), (14, vI (e19.Graveyard.length : Int)), (15, vI (0 : Int))] [bx [6] (encSPlayer e19), bx [3] [.any], bx [1] (encSState a0)] 88 [(1, vP [1] (0)), (3, vP [3] (0)), (4, .c (.clo 61 [.ptr [1] (0), .ptr [3] (0)])), (5, vI vt28_16), (6, vP [6] (0)), (26, vL encSPlayer a0.Players), (27, vI (a0.Players.length : Int)), (28, vI vt28_16), (39, vB (!true)), (44, .g ((!true) == false) (vB q21)), (45, .g ((!true) == false) (vB (!q21))), (46, vB b23), (47, vB b23), (48, .c (.clo 61 [.ptr [1] (0), .ptr [3] (0)])), (49, vI vt28_16), (50, .g (b23 == false) (vP [6] (13))), (51, vL (eI .i64) e19.Graveyard)] [52])) hiB29 (wT) ?_
                   rintro _ zB29 hzB29 hoB29
                   replace hzB29 : state_places_B29 e19 = some zB29 := hzB29
                   unfold state_places_B29 at hzB29
                   refine Rg [.a] (sg 48 [(0, vI (3 : Int)), (1, vI vt28_16), (3, vP [1] (0)), (4, vP [3] (0)), (13, vL (eI .i64) e19.Graveyard), (14, vI (e19.Graveyard.length : Int)), (15, vI (0 : Int)), (16, vB (decide ((0 : Int) < (e19.Graveyard.length : Int))))] [bx [6] (encSPlayer e19), bx [3] [.any], bx [1] (encSState a0)] 88 [(1, vP [1] (0)), (3, vP [3] (0)), (4, .c (.clo 61 [.ptr [1] (0), .ptr [3] (0)])), (5, vI vt28_16), (6, vP [6] (0)), (26, vL encSPlayer a0.Players), (27, vI (a0.Players.length : Int)), (28, vI vt28_16), (39, vB (!true)), (44, .g ((!true) == false) (vB q21)), (45, .g ((!true) == false) (vB (!q21))), (46, vB b23), (47, vB b23), (48, .c (.clo 61 [.ptr [1] (0), .ptr [3] (0)])), (49, vI vt28_16), (50, .g (b23 == false) (vP [6] (13))), (51, vL (eI .i64) e19.Graveyard)] [52]) (aN) ?_
                   refine Holds.seq ?_
                   refine iB hzB29 (fun b30 hzB29 => ?_) (fun b30 hzB29 => ?_)
                   · refine Holds.skip ?_
                     refine Tn ?_
                     refine Holds.seq ?_
                     refine Holds.block ?_
                     obtain ⟨e31, he31, hzB29⟩ := bS hzB29
                     refine Rg [.a, (.v (vI e31)), .a] (sg 48 [(0, vI (3 : Int)), (1, vI vt28_16), (3, vP [1] (0)), (4, vP [3] (0)), (10, vI e31), (13, vL (eI .i64) e19.Graveyard), (14, vI (e19.Graveyard.length : Int)), (15, vI (0 : Int))] [bx [6] (encSPlayer e19), bx [3] [.any], bx [1] (encSState a0)] 88 [(1, vP [1] (0)), (3, vP [3] (0)), (4, .c (.clo 61 [.ptr [1] (0), .ptr [3] (0)])), (5, vI vt28_16), (6, vP [6] (0)), (26, vL encSPlayer a0.Players), (27, vI (a0.Players.length : Int)), (28, vI vt28_16), (39, vB (!true)), (44, .g ((!true) == false) (vB q21)), (45, .g ((!true) == false) (vB (!q21))), (46, vB b23), (47, vB b23), (48, .c (.clo 61 [.ptr [1] (0), .ptr [3] (0)])), (49, vI vt28_16), (50, .g (b23 == false) (vP [6] (13))), (51, vL (eI .i64) e19.Graveyard)] [52]) (aC (idx_b he31) <| aC (eld he31 (lenI .i64) 0 1 false (vI e31)) <| aC (Eq.refl (vI e31)) <| aN) ?_
                     cases hzB29
                   · refine Holds.exit ?_
                     refine thenQ.exit ?_
                     have hoB29_ := hoB29 _ (sI hzB29).symm
                     subst hoB29_
                     refine thenQ.exit ?_
                     refine blockQ.out ?_
                     refine Tn ⟨(), hJ22, wT⟩
                 · rintro _ hJ28
                   replace hJ28 : state_places_J28 vt28_16 b23 = some zB17 := hJ28
                   unfold state_places_J28 at hJ28
                   refine Rg [.a] (sg 48 [(8, vB true)] [bx [6] (encSPlayer e19), bx [3] [.any], bx [1] (encSState a0)] 88 [(1, vP [1] (0)), (3, vP [3] (0)), (4, .c (.clo 61 [.ptr [1] (0), .ptr [3] (0)])), (5, vI vt28_16), (6, vP [6] (0)), (26, vL encSPlayer a0.Players), (27, vI (a0.Players.length : Int)), (28, vI vt28_16), (39, vB (!true)), (44, .g ((!true) == false) (vB q21)), (45, .g ((!true) == false) (vB (!q21))), (46, vB b23), (47, vB b23), (48, .c (.clo 61 [.ptr [1] (0), .ptr [3] (0)])), (49, vI vt28_16), (50, .g (b23 == false) (vP [6] (13))), (51, vL (eI .i64) e19.Graveyard)] [52]) (aN) ?_
                   refine Holds.ret ?_
                   refine inQ.ret (v := vB true) (by kernel_rfl) ⟨true, hJ28, lT⟩
               · replace hJ22 := iF hJ22 hgJ25
                 exact ⟨false, vB false, hJ22, lT⟩
               · rintro q24 hJ25
                 replace hJ25 : state_places_J25 vt28_16 b23 q24 = some zB17 := hJ25
                 unfold state_places_J25 at hJ25
                 obtain ⟨b26, hb26, hJ25⟩ := bS hJ25
                 refine Rw [.a, (.v (vB b26))] (sl 88 [(1, vP [1] (0)), (3, vP [3] (0)), (4, .c (.clo 61 [.ptr [1] (0), .ptr [3] (0)])), (26, vL encSPlayer a0.Players), (27, vI (a0.Players.length : Int)), (28, vI vt28_16), (47, vB b23), (52, .g (b23 == false) (vB q24)), (53, .g (b23 == false) (vB (!q24))), (54, vB b26)] [bx [3] [.any], bx [1] (encSState a0)]) (aG (b23 == false) <| aF b23 <| aB hb26 <| aN) ?_
                 refine Tn ?_
                 refine iB hJ25 (fun b27 hJ25 => ?_) (fun b27 hJ25 => ?_)
                 · refine Rg [.a] (sl 88 [(2, vB false)] []) (aN) ?_
                   refine Holds.ret ?_
                   refine blockQ.ret ?_
                   refine Tr ?_
                   have hoB17_ := hoB17 _ (sI hJ25).symm
                   subst hoB17_
                   replace hJ3 := sumL hJ3
                   refine Tr ?_
                   refine blockQ.ret ?_
                   refine Tr ?_
                   exact bQ (vB false) (congrArg vB (sI hJ3))
                 · refine Holds.skip ?_
                   refine blockQ.normal ?_
                   refine Tn ?_
                   refine Re [.a, .a] (sl 88 [(1, vP [1] (0)), (3, vP [3] (0)), (4, .c (.clo 61 [.ptr [1] (0), .ptr [3] (0)])), (26, vL encSPlayer a0.Players), (27, vI (a0.Players.length : Int)), (28, vI (wrap64 (vt28_16 + (1 : Int)))), (47, vB b23), (52, .g (b23 == false) (vB q24)), (53, .g (b23 == false) (vB (!q24))), (54, vB b26), (55, vI (wrap64 (vt28_16 + (1 : Int))))] [bx [3] [.any], bx [1] (encSState a0)]) (aN) ?_
                   refine Tn ⟨(wrap64 (vt28_16 + (1 : Int))), (sI hJ25).symm, wT⟩
         · refine Holds.exit ?_
           refine thenQ.exit ?_
           have hoB17_ := hoB17 _ (sI hzB17).symm
           subst hoB17_
           replace hJ3 := sumR hJ3
           refine thenQ.exit ?_
           refine blockQ.out ?_
           refine Tn ⟨(), hJ3, wT⟩
       · rintro _ hJ6
         replace hJ6 : state_places_J6 a0 = some r := hJ6
         unfold state_places_J6 at hJ6
         refine Sj (X := Unit) (fun v => (sl 88 [(1, vP [1] (0)), (3, vP [3] (0))] [bx [3] [.any], bx [1] (encSState a0)])) (fun v => state_places_J7 a0 = some r) ?_ ?_
         · refine Rg [.a, .a, .a, .a] (sl 88 [(1, vP [1] (0)), (3, vP [3] (0)), (4, .c (.clo 61 [.ptr [1] (0), .ptr [3] (0)])), (57, vL encSItem a0.Stack), (58, vI (a0.Stack.length : Int)), (59, vI (0 : Int))] [bx [3] [.any], bx [1] (encSState a0)]) (aN) ?_
           refine Holds.block ?_
           obtain ⟨oB12, hiB12, hJ6⟩ := bS hJ6
           refine It (fun (v : Unit) => (sl 88 [(1, vP [1] (0)), (3, vP [3] (0)), (4, .c (.clo 61 [.ptr [1] (0), .ptr [3] (0)])), (57, vL encSItem a0.Stack), (58, vI (a0.Stack.length : Int)), (59, vI (0 : Int))] [bx [3] [.any], bx [1] (encSState a0)])) hiB12 (wT) ?_
           rintro _ zB12 hzB12 hoB12
           replace hzB12 : state_places_B12 a0 = some zB12 := hzB12
           unfold state_places_B12 at hzB12
           refine Rg [.a] (sl 88 [(1, vP [1] (0)), (3, vP [3] (0)), (4, .c (.clo 61 [.ptr [1] (0), .ptr [3] (0)])), (57, vL encSItem a0.Stack), (58, vI (a0.Stack.length : Int)), (59, vI (0 : Int)), (60, vB (decide ((0 : Int) < (a0.Stack.length : Int))))] [bx [3] [.any], bx [1] (encSState a0)]) (aN) ?_
           refine Holds.seq ?_
           refine iB hzB12 (fun b13 hzB12 => ?_) (fun b13 hzB12 => ?_)
           · refine Holds.skip ?_
             refine Tn ?_
             refine Holds.seq ?_
             refine Holds.block ?_
             obtain ⟨e14, he14, hzB12⟩ := bS hzB12
             refine Rg [.a, (.v (vA encSItem e14)), .a, .a] (sl 88 [(1, vP [1] (0)), (3, vP [3] (0)), (4, .c (.clo 61 [.ptr [1] (0), .ptr [3] (0)])), (8, vP [8] (0)), (57, vL encSItem a0.Stack), (58, vI (a0.Stack.length : Int)), (59, vI (0 : Int))] [bx [8] (encSItem e14), bx [3] [.any], bx [1] (encSState a0)]) (aC (idx_b he14) <| aC (eld he14 lenSItem 0 94 true (vA encSItem e14)) <| aC (Eq.refl (vA encSItem e14)) <| aN) ?_
             refine Holds.seq ?_
             cases hzB12
           · refine Holds.exit ?_
             refine thenQ.exit ?_
             have hoB12_ := hoB12 _ (sI hzB12).symm
             subst hoB12_
             refine thenQ.exit ?_
             refine blockQ.out ?_
             refine Tn ⟨(), hJ6, wT⟩
         · rintro _ hJ7
           replace hJ7 : state_places_J7 a0 = some r := hJ7
           unfold state_places_J7 at hJ7
           refine Sj (X := Unit) (fun v => (sl 88 [] [])) (fun v => state_places_J8 = some r) ?_ ?_
           · refine Rg [.a, .a, .a, .a] (sl 88 [(3, vP [3] (0)), (76, vL encSObject a0.Objects), (77, vI (a0.Objects.length : Int)), (78, vI (0 : Int))] [bx [3] [.any]]) (aN) ?_
             refine Holds.block ?_
             obtain ⟨oB9, hiB9, hJ7⟩ := bS hJ7
             refine It (fun (v : Unit) => (sl 88 [(3, vP [3] (0)), (76, vL encSObject a0.Objects), (77, vI (a0.Objects.length : Int)), (78, vI (0 : Int))] [bx [3] [.any]])) hiB9 (wT) ?_
             rintro _ zB9 hzB9 hoB9
             replace hzB9 : state_places_B9 a0 = some zB9 := hzB9
             unfold state_places_B9 at hzB9
             refine Rg [.a] (sl 88 [(3, vP [3] (0)), (76, vL encSObject a0.Objects), (77, vI (a0.Objects.length : Int)), (78, vI (0 : Int)), (79, vB (decide ((0 : Int) < (a0.Objects.length : Int))))] [bx [3] [.any]]) (aN) ?_
             refine Holds.seq ?_
             refine iB hzB9 (fun b10 hzB9 => ?_) (fun b10 hzB9 => ?_)
             · refine Holds.skip ?_
               refine Tn ?_
               refine Holds.seq ?_
               refine Holds.block ?_
               obtain ⟨e11, he11, hzB9⟩ := bS hzB9
               refine Rg [.a, (.v (vA encSObject e11)), .a, .a] (sl 88 [(3, vP [3] (0)), (10, vP [10] (0)), (76, vL encSObject a0.Objects), (77, vI (a0.Objects.length : Int)), (78, vI (0 : Int))] [bx [10] (encSObject e11), bx [3] [.any]]) (aC (idx_b he11) <| aC (eld he11 lenSObject 0 19 true (vA encSObject e11)) <| aC (Eq.refl (vA encSObject e11)) <| aN) ?_
               cases hzB9
             · refine Holds.exit ?_
               refine thenQ.exit ?_
               have hoB9_ := hoB9 _ (sI hzB9).symm
               subst hoB9_
               refine thenQ.exit ?_
               refine blockQ.out ?_
               refine Tn ⟨(), hJ7, wT⟩
           · rintro _ hJ8
             replace hJ8 : state_places_J8 = some r := hJ8
             unfold state_places_J8 at hJ8
             refine Rg [.a] (sl 88 [(2, vB true)] []) (aN) ?_
             refine Holds.ret ?_
             exact bQ (vB true) (congrArg vB (sI hJ8))
def state_items_J1 (a0 : SState) : Option (Bool) :=
 some (decide ((a0.Stack.length : Int) ≤ (64 : Int)))
def state_items_B2 (a0 : SState) : Option ((Unit) ⊕ (Unit)) :=
 (if (decide ((0 : Int) < (a0.Stack.length : Int))) = true then
  (idx a0.Stack (0 : Int)).bind fun e4 =>
  none
 else
  some (.inr ()))
/-- cardgame/state.items -/
def state_items (a0 : SState) : Option (Bool) :=
 (iter (fun (v : Unit) => state_items_B2 a0) FU ()).bind (fun o0 => state_items_J1 a0)
def state_items_C (a0 : SState) (r : Bool) : Prop := PCall Tryz.prog I0 31 [vA encSState a0] (· = vB r)
theorem state_items_ok {a0 : SState} {r : Bool} (h : state_items a0 = some r) : state_items_C a0 r := by
 refine PCall.body I0_stable (by kernel_rfl) Tryz.func31 rfl Tryz.ntmps31 (rs := [.tmp 2]) rfl rfl ?_
 intro w0 av old gv
 unfold state_items at h
 refine Rg [.a, .a] (sl 95 [(1, vP [1] (0))] [bx [1] (encSState a0)]) (aN) ?_
 refine Holds.seq ?_
 refine Holds.region ?_
 refine Rp 0 [] (sl 95 [(1, vP [1] (0))] [bx [1] (encSState a0)]) (aN) ?_
 refine Run.inl rfl rfl (Esc.map rfl ?_)
 refine Rw [.a] (sl 95 [(1, vP [1] (0)), (3, .c (.any)), (9, .c (.any))] [bx [1] (encSState a0)]) (aN) ?_
 refine Tn ?_
 refine Sj (X := Unit) (fun v => (sl 95 [(1, vP [1] (0))] [bx [1] (encSState a0)])) (fun v => state_items_J1 a0 = some r) ?_ ?_
 · refine Rg [.a, .a, .a, .a] (sl 95 [(1, vP [1] (0)), (3, .c (.any)), (11, vL encSItem a0.Stack), (12, vI (a0.Stack.length : Int)), (13, vI (0 : Int))] [bx [1] (encSState a0)]) (aN) ?_
   refine Holds.block ?_
   obtain ⟨oB2, hiB2, h⟩ := bS h
   refine It (fun (v : Unit) => (sl 95 [(1, vP [1] (0)), (3, .c (.any)), (11, vL encSItem a0.Stack), (12, vI (a0.Stack.length : Int)), (13, vI (0 : Int))] [bx [1] (encSState a0)])) hiB2 (wT) ?_
   rintro _ zB2 hzB2 hoB2
   replace hzB2 : state_items_B2 a0 = some zB2 := hzB2
   unfold state_items_B2 at hzB2
   refine Rg [.a] (sl 95 [(1, vP [1] (0)), (3, .c (.any)), (11, vL encSItem a0.Stack), (12, vI (a0.Stack.length : Int)), (13, vI (0 : Int)), (14, vB (decide ((0 : Int) < (a0.Stack.length : Int))))] [bx [1] (encSState a0)]) (aN) ?_
   refine Holds.seq ?_
   refine iB hzB2 (fun b3 hzB2 => ?_) (fun b3 hzB2 => ?_)
   · refine Holds.skip ?_
     refine Tn ?_
     refine Holds.seq ?_
     refine Holds.block ?_
     obtain ⟨e4, he4, hzB2⟩ := bS hzB2
     refine Rg [.a, (.v (vA encSItem e4)), .a, .a] (sl 95 [(1, vP [1] (0)), (3, .c (.any)), (5, vP [5] (0)), (11, vL encSItem a0.Stack), (12, vI (a0.Stack.length : Int)), (13, vI (0 : Int))] [bx [5] (encSItem e4), bx [1] (encSState a0)]) (aC (idx_b he4) <| aC (eld he4 lenSItem 0 94 true (vA encSItem e4)) <| aC (Eq.refl (vA encSItem e4)) <| aN) ?_
     cases hzB2
   · refine Holds.exit ?_
     refine thenQ.exit ?_
     have hoB2_ := hoB2 _ (sI hzB2).symm
     subst hoB2_
     refine thenQ.exit ?_
     refine blockQ.out ?_
     refine Tn ⟨(), h, wT⟩
 · rintro _ hJ1
   replace hJ1 : state_items_J1 a0 = some r := hJ1
   unfold state_items_J1 at hJ1
   refine Rg [.a, .a, .a, .a, .a] (sl 95 [(2, vB (decide ((a0.Stack.length : Int) ≤ (64 : Int))))] []) (aN) ?_
   refine Holds.ret ?_
   exact bQ (vB (decide ((a0.Stack.length : Int) ≤ (64 : Int)))) (congrArg vB (sI hJ1))
/-- cmp.isNaN[int] -/
def cmp_isNaN_int (a0 : Int) : Option (Bool) :=
 some (a0 != a0)
def cmp_isNaN_int_C (a0 : Int) (r : Bool) : Prop := PCall Tryz.prog I0 85 [vI a0] (· = vB r)
theorem cmp_isNaN_int_ok {a0 : Int} {r : Bool} (h : cmp_isNaN_int a0 = some r) : cmp_isNaN_int_C a0 r := by
 refine PCall.body I0_stable (by kernel_rfl) Tryz.func85 rfl Tryz.ntmps85 (rs := [.tmp 2]) rfl rfl ?_
 intro w0 av old gv
 unfold cmp_isNaN_int at h
 refine Rg [.a] (sl 6 [(0, vI a0)] []) (aN) ?_
 refine Rg [.a, .a, .a, .a] (sl 6 [(2, vB (a0 != a0))] []) (aN) ?_
 refine Holds.ret ?_
 exact bQ (vB (a0 != a0)) (congrArg vB (sI h))
def slices_Clone_api_Player_api_Player (a0 : List (SPlayer)) : Option (List (SPlayer)) := if a0.length * 152 ≤ 140737488355328 ∧ a0.length ≤ maxLen then some a0 else none
theorem slices_Clone_api_Player_api_Player_okO {a0 r : List (SPlayer)} (h : slices_Clone_api_Player_api_Player a0 = some r) : PCallO Tryz.prog I0 86 [vL (encSPlayer) a0] 49 14 (fun len cs => len = r.length ∧ cs = r.flatMap (encSPlayer)) := by
  refine PCallO.of (t := 2) (m := 8) I0_stable (by kernel_rfl) Tryz.func86 rfl rfl Tryz.ntmps86 ?_
  intro w0 av old gv
  unfold slices_Clone_api_Player_api_Player at h
  split at h
  · rename_i hb
    injection h with h; subst h
    refine Rg [.a] (sl 8 [(0, vL (encSPlayer) a0)] []) (aN) ?_
    refine Holds.seq ?_
    refine Holds.seq ?_
    refine Holds.region ?_
    refine Rp 1 [.a] (sl 8 [(0, vL (encSPlayer) a0), (3, vL (encSPlayer) a0)] []) (aN) ?_
    refine Run.inl rfl rfl (Esc.nilq (len := a0.length) (cs := a0.flatMap (encSPlayer)) rfl (fun b hbn => ?_))
    refine Rw [] (sl 8 [(0, vL (encSPlayer) a0), (3, vL (encSPlayer) a0), (4, vB b)] []) (aN) ?_
    refine Tn ?_
    refine Holds.ifB b (by kernel_rfl) (fun hb1 => ?_) (fun hb1 => ?_)
    · have h0 : a0 = [] := List.length_eq_zero_iff.1 (hbn hb1)
      refine Rg [.a] (sl 8 [(2, .c (.osl [2]))] [rw_ [2] 49 14 (encSPlayer) ([] : List (SPlayer))]) (aN) ?_
      refine Holds.ret ?_
      refine Tr ?_
      exact ⟨.inr rfl, .inl ⟨[2], rw_ [2] 49 14 (encSPlayer) ([] : List (SPlayer)), 0, by kernel_rfl, by kernel_rfl, by kernel_rfl, by kernel_rfl, by rw [h0]; exact ⟨rfl, rfl⟩⟩⟩
    · refine Holds.skip ?_
      refine Tn ?_
      have hr : app 152 ([] : List (SPlayer)) a0 = some a0 := by unfold app; rw [if_pos ⟨by simpa using hb.1, by simpa using hb.2⟩]; rfl
      refine Rg [.a, .a, (.e a0.length (a0.flatMap (encSPlayer))), .a] (sl 8 [(2, .c (.osl [5]))] [rw_ [5] 49 14 (encSPlayer) a0]) (aC (show (a0.flatMap (encSPlayer)).length = a0.length * 14 from flat_len (enc := encSPlayer) (n := 14) lenSPlayer _) <| aC (ap1 hr (encSPlayer)) <| aC (app_b hr) <| aN) ?_
      refine Holds.ret ?_
      exact ⟨.inr rfl, .inl ⟨[5], rw_ [5] 49 14 (encSPlayer) a0, a0.length, by kernel_rfl, by kernel_rfl, by kernel_rfl, pureL_flatMap _ (fun _ => rfl) _, ⟨rfl, rfl⟩⟩⟩
  · cases h
/-- cardgame/cardgameref26.in -/
def r26_in (a0 : Int) (a1 : Int) (a2 : Int) : Option (Bool) :=
 (some (if (decide (a1 ≤ a0)) = true then decide (a0 ≤ a2) else false)).bind fun b1 =>
 some b1
def r26_in_C (a0 : Int) (a1 : Int) (a2 : Int) (r : Bool) : Prop := PCall Tryz.prog I0 34 [vI a0, vI a1, vI a2] (· = vB r)
theorem r26_in_ok {a0 : Int} {a1 : Int} {a2 : Int} {r : Bool} (h : r26_in a0 a1 a2 = some r) : r26_in_C a0 a1 a2 r := by
 refine PCall.body I0_stable (by kernel_rfl) Tryz.func34 rfl Tryz.ntmps34 (rs := [.tmp 6]) rfl rfl ?_
 intro w0 av old gv
 unfold r26_in at h
 refine Rg [.a] (sl 15 [(0, vI a0), (1, vI a1), (2, vI a2)] []) (aN) ?_
 obtain ⟨b1, hb1, h⟩ := bS h
 refine Rg [.a, .a, .a, .a, .a, .a, .a, (.v (vB b1)), .a] (sl 15 [(6, vB b1)] []) (aH ((decide (a1 ≤ a0)) == true) <| aT (decide (a1 ≤ a0)) <| aB hb1 <| aN) ?_
 refine Holds.ret ?_
 exact bQ (vB b1) (congrArg vB (sI h))
end Go.PL
