/- Functions of the program, as partial functions in Lean, with proofs. -/
import Derived.Test.YtipchejgnmnffaaGreatDoorPlStB
namespace Go.PL
open Go Go.RowKit Go.Proofs
set_option maxRecDepth 100000
set_option linter.all false
set_option maxHeartbeats 1000000
attribute [local irreducible] Holds thenQ blockQ
def r26_New_J5 (a2 : Int) (l1000_8_1 : List (SPlayer)) (b8_Active3 : Int) (b8_Priority4 : Int) : Option (SState) :=
 some (⟨l1000_8_1, ([] : List (SObject)), ([] : List (Int)), ([] : List (Int)), ([] : List (SItem)), ([] : List (SWaiting)), ([] : List (SCont)), (0 : Int), b8_Active3, (0 : Int), false, b8_Priority4, (0 : Int), (1 : Int), (1 : Int), a2, ([] : List (Int)), (0 : Int), (-1 : Int)⟩ : SState)
def r26_New_J2 (a0 : Int) (a1 : Int) (a2 : Int) (l1000_8_1 : List (SPlayer)) : Option (SState) :=
 (some (if (decide ((0 : Int) ≤ a1)) = true then decide (a1 < (if (4 : Int) < (if a0 < (2 : Int) then (2 : Int) else a0) then (4 : Int) else (if a0 < (2 : Int) then (2 : Int) else a0))) else false)).bind fun b6 =>
 (if b6 = true then
  r26_New_J5 a2 l1000_8_1 a1 a1
 else
  r26_New_J5 a2 l1000_8_1 (0 : Int) (0 : Int))
def r26_New_B13 (a0 : Int) (i_t9_10 : Int) (l1000_8_11 : List (SPlayer)) : Option ((Int × (List (SPlayer))) ⊕ ((List (SPlayer)))) :=
 (if (decide (i_t9_10 < (if (4 : Int) < (if a0 < (2 : Int) then (2 : Int) else a0) then (4 : Int) else (if a0 < (2 : Int) then (2 : Int) else a0)))) = true then
  (app 152 l1000_8_11 ([(⟨(20 : Int), (0 : Int), (0 : Int), (⟨(0 : Int), (0 : Int), (0 : Int), (0 : Int), (0 : Int), (0 : Int)⟩ : A6 (Int)), false, false, ([] : List (Int)), ([] : List (Int)), ([] : List (Int))⟩ : SPlayer)] : List (SPlayer))).bind fun l15 =>
  some (.inl ((wrap64 (i_t9_10 + (1 : Int))), l15))
 else
  some (.inr l1000_8_11))
/-- cardgame/cardgameref26.New -/
def r26_New (a0 : Int) (a1 : Int) (a2 : Int) : Option (SState) :=
 (iter (fun (v : Int × (List (SPlayer))) => r26_New_B13 a0 v.1 v.2) FU ((0 : Int), ([] : List (SPlayer)))).bind (fun o0 => r26_New_J2 a0 a1 a2 o0)
def r26_New_C (a0 : Int) (a1 : Int) (a2 : Int) (r : SState) : Prop := PCall Tryz.prog I0 11 [vI a0, vI a1, .c (.int .u64 a2)] (· = vA encSState r)
theorem r26_New_ok {a0 : Int} {a1 : Int} {a2 : Int} {r : SState} (h : r26_New a0 a1 a2 = some r) : r26_New_C a0 a1 a2 r := by
 refine PCall.body I0_stable (by kernel_rfl) Tryz.func11 rfl Tryz.ntmps11 (rs := [.cell 6 33]) rfl rfl ?_
 intro w0 av old gv
 unfold r26_New at h
 refine Rg [.a] (sl 38 [(0, vI a0), (1, vI a1), (2, .c (.int .u64 a2)), (6, vP [6] (0))] [bx [6] [.nils, .nils, .nils, .nils, .nils, .nils, .nils, .int .i64 (0 : Int), .int .i64 (0 : Int), .int .i64 (0 : Int), .bool false, .int .i64 (0 : Int), .int .i64 (0 : Int), .int .i64 (0 : Int), .int .i64 (0 : Int), .int .u64 (0 : Int), .nils, .int .i64 (0 : Int), .int .i64 (0 : Int)]]) (aN) ?_
 refine Rg [.a, .a, .a, .a] (sl 38 [(1, vI a1), (2, .c (.int .u64 a2)), (6, vP [6] (0)), (7, vI (if (4 : Int) < (if a0 < (2 : Int) then (2 : Int) else a0) then (4 : Int) else (if a0 < (2 : Int) then (2 : Int) else a0)))] [bx [6] [.nils, .nils, .nils, .nils, .nils, .nils, .nils, .int .i64 (0 : Int), .int .i64 (0 : Int), .int .i64 (0 : Int), .bool false, .int .i64 (0 : Int), .int .i64 (0 : Int), .int .i64 (0 : Int), .int .i64 (0 : Int), .int .u64 (0 : Int), .nils, .int .i64 (0 : Int), .int .i64 (0 : Int)]]) (aC (show (True ∧ (True ∧ True)) ∧ True from ⟨⟨trivial, ⟨trivial, trivial⟩⟩, trivial⟩) <| aC (show (True ∧ (True ∧ True)) ∧ True from ⟨⟨trivial, ⟨trivial, trivial⟩⟩, trivial⟩) <| aN) ?_
 refine Rg [.a, .a, .a, .a] (sl 38 [(1, vI a1), (6, vP [6] (0)), (7, vI (if (4 : Int) < (if a0 < (2 : Int) then (2 : Int) else a0) then (4 : Int) else (if a0 < (2 : Int) then (2 : Int) else a0))), (8, vP [8] (0))] [bx [8] [.nils, .nils, .nils, .nils, .nils, .nils, .nils, .int .i64 (0 : Int), .int .i64 (0 : Int), .int .i64 (0 : Int), .bool false, .int .i64 (0 : Int), .int .i64 (0 : Int), .int .i64 (1 : Int), .int .i64 (1 : Int), .int .u64 a2, .nils, .int .i64 (0 : Int), .int .i64 (-1 : Int)], bx [6] [.nils, .nils, .nils, .nils, .nils, .nils, .nils, .int .i64 (0 : Int), .int .i64 (0 : Int), .int .i64 (0 : Int), .bool false, .int .i64 (0 : Int), .int .i64 (0 : Int), .int .i64 (0 : Int), .int .i64 (0 : Int), .int .u64 (0 : Int), .nils, .int .i64 (0 : Int), .int .i64 (0 : Int)]]) (aC (And.intro (show True ∧ (True ∧ (True ∧ (True ∧ True))) from ⟨trivial, ⟨trivial, ⟨trivial, ⟨trivial, trivial⟩⟩⟩⟩) okp33) <| aN) ?_
 refine Ow [8] 0 [1000, 8] 49 14 (sl 38 [(1, vI a1), (6, vP [6] (0)), (7, vI (if (4 : Int) < (if a0 < (2 : Int) then (2 : Int) else a0) then (4 : Int) else (if a0 < (2 : Int) then (2 : Int) else a0))), (8, vP [8] (0))] [rw_ [1000, 8] 49 14 encSPlayer ([] : List (SPlayer)), bx [8] [.osl [1000, 8], .nils, .nils, .nils, .nils, .nils, .nils, .int .i64 (0 : Int), .int .i64 (0 : Int), .int .i64 (0 : Int), .bool false, .int .i64 (0 : Int), .int .i64 (0 : Int), .int .i64 (1 : Int), .int .i64 (1 : Int), .int .u64 a2, .nils, .int .i64 (0 : Int), .int .i64 (-1 : Int)], bx [6] [.nils, .nils, .nils, .nils, .nils, .nils, .nils, .int .i64 (0 : Int), .int .i64 (0 : Int), .int .i64 (0 : Int), .bool false, .int .i64 (0 : Int), .int .i64 (0 : Int), .int .i64 (0 : Int), .int .i64 (0 : Int), .int .u64 (0 : Int), .nils, .int .i64 (0 : Int), .int .i64 (0 : Int)]]) ?_
 refine Sj (X := (List (SPlayer))) (fun v => (sl 38 [(1, vI a1), (6, vP [6] (0)), (7, vI (if (4 : Int) < (if a0 < (2 : Int) then (2 : Int) else a0) then (4 : Int) else (if a0 < (2 : Int) then (2 : Int) else a0))), (8, vP [8] (0))] [rw_ [1000, 8] 49 14 encSPlayer v, bx [8] [.osl [1000, 8], .nils, .nils, .nils, .nils, .nils, .nils, .int .i64 (0 : Int), .int .i64 (0 : Int), .int .i64 (0 : Int), .bool false, .int .i64 (0 : Int), .int .i64 (0 : Int), .int .i64 (1 : Int), .int .i64 (1 : Int), .int .u64 a2, .nils, .int .i64 (0 : Int), .int .i64 (-1 : Int)], bx [6] [.nils, .nils, .nils, .nils, .nils, .nils, .nils, .int .i64 (0 : Int), .int .i64 (0 : Int), .int .i64 (0 : Int), .bool false, .int .i64 (0 : Int), .int .i64 (0 : Int), .int .i64 (0 : Int), .int .i64 (0 : Int), .int .u64 (0 : Int), .nils, .int .i64 (0 : Int), .int .i64 (0 : Int)]])) (fun v => r26_New_J2 a0 a1 a2 v = some r) ?_ ?_
 · refine Rg [.a] (sl 38 [(1, vI a1), (6, vP [6] (0)), (7, vI (if (4 : Int) < (if a0 < (2 : Int) then (2 : Int) else a0) then (4 : Int) else (if a0 < (2 : Int) then (2 : Int) else a0))), (8, vP [8] (0)), (9, vI (0 : Int))] [rw_ [1000, 8] 49 14 encSPlayer ([] : List (SPlayer)), bx [8] [.osl [1000, 8], .nils, .nils, .nils, .nils, .nils, .nils, .int .i64 (0 : Int), .int .i64 (0 : Int), .int .i64 (0 : Int), .bool false, .int .i64 (0 : Int), .int .i64 (0 : Int), .int .i64 (1 : Int), .int .i64 (1 : Int), .int .u64 a2, .nils, .int .i64 (0 : Int), .int .i64 (-1 : Int)], bx [6] [.nils, .nils, .nils, .nils, .nils, .nils, .nils, .int .i64 (0 : Int), .int .i64 (0 : Int), .int .i64 (0 : Int), .bool false, .int .i64 (0 : Int), .int .i64 (0 : Int), .int .i64 (0 : Int), .int .i64 (0 : Int), .int .u64 (0 : Int), .nils, .int .i64 (0 : Int), .int .i64 (0 : Int)]]) (aN) ?_
   refine Holds.block ?_
   obtain ⟨oB13, hiB13, h⟩ := bS h
   refine It (fun (v : Int × (List (SPlayer))) => (sl 38 [(1, vI a1), (6, vP [6] (0)), (7, vI (if (4 : Int) < (if a0 < (2 : Int) then (2 : Int) else a0) then (4 : Int) else (if a0 < (2 : Int) then (2 : Int) else a0))), (8, vP [8] (0)), (9, vI v.1)] [rw_ [1000, 8] 49 14 encSPlayer v.2, bx [8] [.osl [1000, 8], .nils, .nils, .nils, .nils, .nils, .nils, .int .i64 (0 : Int), .int .i64 (0 : Int), .int .i64 (0 : Int), .bool false, .int .i64 (0 : Int), .int .i64 (0 : Int), .int .i64 (1 : Int), .int .i64 (1 : Int), .int .u64 a2, .nils, .int .i64 (0 : Int), .int .i64 (-1 : Int)], bx [6] [.nils, .nils, .nils, .nils, .nils, .nils, .nils, .int .i64 (0 : Int), .int .i64 (0 : Int), .int .i64 (0 : Int), .bool false, .int .i64 (0 : Int), .int .i64 (0 : Int), .int .i64 (0 : Int), .int .i64 (0 : Int), .int .u64 (0 : Int), .nils, .int .i64 (0 : Int), .int .i64 (0 : Int)]])) hiB13 (wT) ?_
   rintro ⟨i_t9_10, l1000_8_11⟩ zB13 hzB13 hoB13
   replace hzB13 : r26_New_B13 a0 i_t9_10 l1000_8_11 = some zB13 := hzB13
   unfold r26_New_B13 at hzB13
   refine Holds.seq ?_
   refine Rg [.a, .a, .a] (sl 38 [(1, vI a1), (6, vP [6] (0)), (7, vI (if (4 : Int) < (if a0 < (2 : Int) then (2 : Int) else a0) then (4 : Int) else (if a0 < (2 : Int) then (2 : Int) else a0))), (8, vP [8] (0)), (9, vI i_t9_10), (17, vB (decide (i_t9_10 < (if (4 : Int) < (if a0 < (2 : Int) then (2 : Int) else a0) then (4 : Int) else (if a0 < (2 : Int) then (2 : Int) else a0)))))] [rw_ [1000, 8] 49 14 encSPlayer l1000_8_11, bx [8] [.osl [1000, 8], .nils, .nils, .nils, .nils, .nils, .nils, .int .i64 (0 : Int), .int .i64 (0 : Int), .int .i64 (0 : Int), .bool false, .int .i64 (0 : Int), .int .i64 (0 : Int), .int .i64 (1 : Int), .int .i64 (1 : Int), .int .u64 a2, .nils, .int .i64 (0 : Int), .int .i64 (-1 : Int)], bx [6] [.nils, .nils, .nils, .nils, .nils, .nils, .nils, .int .i64 (0 : Int), .int .i64 (0 : Int), .int .i64 (0 : Int), .bool false, .int .i64 (0 : Int), .int .i64 (0 : Int), .int .i64 (0 : Int), .int .i64 (0 : Int), .int .u64 (0 : Int), .nils, .int .i64 (0 : Int), .int .i64 (0 : Int)]]) (aN) ?_
   refine iB hzB13 (fun b14 hzB13 => ?_) (fun b14 hzB13 => ?_)
   · refine Holds.skip ?_
     refine Tn ?_
     refine Holds.seq ?_
     refine Holds.block ?_
     obtain ⟨l15, hl15, hzB13⟩ := bS hzB13
     refine Re [.a, .a, .a, .a, (.e l15.length (l15.flatMap (encSPlayer))), .a, .a] (sl 38 [(1, vI a1), (6, vP [6] (0)), (7, vI (if (4 : Int) < (if a0 < (2 : Int) then (2 : Int) else a0) then (4 : Int) else (if a0 < (2 : Int) then (2 : Int) else a0))), (8, vP [8] (0)), (9, vI i_t9_10), (17, vB (decide (i_t9_10 < (if (4 : Int) < (if a0 < (2 : Int) then (2 : Int) else a0) then (4 : Int) else (if a0 < (2 : Int) then (2 : Int) else a0))))), (20, vP [8] (0)), (22, .agg [.int .i64 (20 : Int), .int .i64 (0 : Int), .int .i64 (0 : Int), .int .i64 (((⟨(0 : Int), (0 : Int), (0 : Int), (0 : Int), (0 : Int), (0 : Int)⟩ : A6 (Int))).x0), .int .i64 (((⟨(0 : Int), (0 : Int), (0 : Int), (0 : Int), (0 : Int), (0 : Int)⟩ : A6 (Int))).x1), .int .i64 (((⟨(0 : Int), (0 : Int), (0 : Int), (0 : Int), (0 : Int), (0 : Int)⟩ : A6 (Int))).x2), .int .i64 (((⟨(0 : Int), (0 : Int), (0 : Int), (0 : Int), (0 : Int), (0 : Int)⟩ : A6 (Int))).x3), .int .i64 (((⟨(0 : Int), (0 : Int), (0 : Int), (0 : Int), (0 : Int), (0 : Int)⟩ : A6 (Int))).x4), .int .i64 (((⟨(0 : Int), (0 : Int), (0 : Int), (0 : Int), (0 : Int), (0 : Int)⟩ : A6 (Int))).x5), .bool false, .bool false, .nils, .nils, .nils]), (23, vO [23]), (24, vO [1000, 8]), (25, vP [8] (0))] [rw_ [1000, 8] 49 14 encSPlayer l15, rw_ [23] 49 14 encSPlayer ([(⟨(20 : Int), (0 : Int), (0 : Int), (⟨(0 : Int), (0 : Int), (0 : Int), (0 : Int), (0 : Int), (0 : Int)⟩ : A6 (Int)), false, false, ([] : List (Int)), ([] : List (Int)), ([] : List (Int))⟩ : SPlayer)] : List (SPlayer)), bx [8] [.osl [1000, 8], .nils, .nils, .nils, .nils, .nils, .nils, .int .i64 (0 : Int), .int .i64 (0 : Int), .int .i64 (0 : Int), .bool false, .int .i64 (0 : Int), .int .i64 (0 : Int), .int .i64 (1 : Int), .int .i64 (1 : Int), .int .u64 a2, .nils, .int .i64 (0 : Int), .int .i64 (-1 : Int)], bx [6] [.nils, .nils, .nils, .nils, .nils, .nils, .nils, .int .i64 (0 : Int), .int .i64 (0 : Int), .int .i64 (0 : Int), .bool false, .int .i64 (0 : Int), .int .i64 (0 : Int), .int .i64 (0 : Int), .int .i64 (0 : Int), .int .u64 (0 : Int), .nils, .int .i64 (0 : Int), .int .i64 (0 : Int)]]) (aC (And.intro (show True ∧ True from ⟨trivial, trivial⟩) okp49) <| aC (ap1 hl15 encSPlayer) <| aC (app_b hl15) <| aN) ?_
     refine blockQ.normal ?_
     refine Tn ?_
     refine Re [.a, .a, .a] (sl 38 [(1, vI a1), (6, vP [6] (0)), (7, vI (if (4 : Int) < (if a0 < (2 : Int) then (2 : Int) else a0) then (4 : Int) else (if a0 < (2 : Int) then (2 : Int) else a0))), (8, vP [8] (0)), (9, vI (wrap64 (i_t9_10 + (1 : Int)))), (17, vB (decide (i_t9_10 < (if (4 : Int) < (if a0 < (2 : Int) then (2 : Int) else a0) then (4 : Int) else (if a0 < (2 : Int) then (2 : Int) else a0))))), (18, vI i_t9_10), (19, vI (wrap64 (i_t9_10 + (1 : Int)))), (20, vP [8] (0)), (22, .agg [.int .i64 (20 : Int), .int .i64 (0 : Int), .int .i64 (0 : Int), .int .i64 (((⟨(0 : Int), (0 : Int), (0 : Int), (0 : Int), (0 : Int), (0 : Int)⟩ : A6 (Int))).x0), .int .i64 (((⟨(0 : Int), (0 : Int), (0 : Int), (0 : Int), (0 : Int), (0 : Int)⟩ : A6 (Int))).x1), .int .i64 (((⟨(0 : Int), (0 : Int), (0 : Int), (0 : Int), (0 : Int), (0 : Int)⟩ : A6 (Int))).x2), .int .i64 (((⟨(0 : Int), (0 : Int), (0 : Int), (0 : Int), (0 : Int), (0 : Int)⟩ : A6 (Int))).x3), .int .i64 (((⟨(0 : Int), (0 : Int), (0 : Int), (0 : Int), (0 : Int), (0 : Int)⟩ : A6 (Int))).x4), .int .i64 (((⟨(0 : Int), (0 : Int), (0 : Int), (0 : Int), (0 : Int), (0 : Int)⟩ : A6 (Int))).x5), .bool false, .bool false, .nils, .nils, .nils]), (23, vO [23]), (24, vO [1000, 8]), (25, vP [8] (0))] [rw_ [1000, 8] 49 14 encSPlayer l15, rw_ [23] 49 14 encSPlayer ([(⟨(20 : Int), (0 : Int), (0 : Int), (⟨(0 : Int), (0 : Int), (0 : Int), (0 : Int), (0 : Int), (0 : Int)⟩ : A6 (Int)), false, false, ([] : List (Int)), ([] : List (Int)), ([] : List (Int))⟩ : SPlayer)] : List (SPlayer)), bx [8] [.osl [1000, 8], .nils, .nils, .nils, .nils, .nils, .nils, .int .i64 (0 : Int), .int .i64 (0 : Int), .int .i64 (0 : Int), .bool false, .int .i64 (0 : Int), .int .i64 (0 : Int), .int .i64 (1 : Int), .int .i64 (1 : Int), .int .u64 a2, .nils, .int .i64 (0 : Int), .int .i64 (-1 : Int)], bx [6] [.nils, .nils, .nils, .nils, .nils, .nils, .nils, .int .i64 (0 : Int), .int .i64 (0 : Int), .int .i64 (0 : Int), .bool false, .int .i64 (0 : Int), .int .i64 (0 : Int), .int .i64 (0 : Int), .int .i64 (0 : Int), .int .u64 (0 : Int), .nils, .int .i64 (0 : Int), .int .i64 (0 : Int)]]) (aN) ?_
     refine Tn ⟨((wrap64 (i_t9_10 + (1 : Int))), l15), (sI hzB13).symm, wT⟩
   · refine Holds.exit ?_
     refine thenQ.exit ?_
     have hoB13_ := hoB13 _ (sI hzB13).symm
     subst hoB13_
     refine thenQ.exit ?_
     refine blockQ.out ?_
     refine Tn ⟨l1000_8_11, h, wT⟩
 · rintro l1000_8_1 hJ2
   replace hJ2 : r26_New_J2 a0 a1 a2 l1000_8_1 = some r := hJ2
   unfold r26_New_J2 at hJ2
   refine Sj (X := Int × Int) (fun v => (sl 38 [(6, vP [6] (0)), (8, vP [8] (0))] [rw_ [1000, 8] 49 14 encSPlayer l1000_8_1, bx [8] [.osl [1000, 8], .nils, .nils, .nils, .nils, .nils, .nils, .int .i64 (0 : Int), .int .i64 v.1, .int .i64 (0 : Int), .bool false, .int .i64 v.2, .int .i64 (0 : Int), .int .i64 (1 : Int), .int .i64 (1 : Int), .int .u64 a2, .nils, .int .i64 (0 : Int), .int .i64 (-1 : Int)], bx [6] [.nils, .nils, .nils, .nils, .nils, .nils, .nils, .int .i64 (0 : Int), .int .i64 (0 : Int), .int .i64 (0 : Int), .bool false, .int .i64 (0 : Int), .int .i64 (0 : Int), .int .i64 (0 : Int), .int .i64 (0 : Int), .int .u64 (0 : Int), .nils, .int .i64 (0 : Int), .int .i64 (0 : Int)]])) (fun v => r26_New_J5 a2 l1000_8_1 v.1 v.2 = some r) ?_ ?_
   · obtain ⟨b6, hb6, hJ2⟩ := bS hJ2
     refine Rg [.a, .a, .a, .a, .a, .a, (.v (vB b6))] (sl 38 [(1, vI a1), (6, vP [6] (0)), (8, vP [8] (0)), (32, vB b6)] [rw_ [1000, 8] 49 14 encSPlayer l1000_8_1, bx [8] [.osl [1000, 8], .nils, .nils, .nils, .nils, .nils, .nils, .int .i64 (0 : Int), .int .i64 (0 : Int), .int .i64 (0 : Int), .bool false, .int .i64 (0 : Int), .int .i64 (0 : Int), .int .i64 (1 : Int), .int .i64 (1 : Int), .int .u64 a2, .nils, .int .i64 (0 : Int), .int .i64 (-1 : Int)], bx [6] [.nils, .nils, .nils, .nils, .nils, .nils, .nils, .int .i64 (0 : Int), .int .i64 (0 : Int), .int .i64 (0 : Int), .bool false, .int .i64 (0 : Int), .int .i64 (0 : Int), .int .i64 (0 : Int), .int .i64 (0 : Int), .int .u64 (0 : Int), .nils, .int .i64 (0 : Int), .int .i64 (0 : Int)]]) (aH ((decide ((0 : Int) ≤ a1)) == true) <| aT (decide ((0 : Int) ≤ a1)) <| aB hb6 <| aN) ?_
     refine iB hJ2 (fun b7 hJ2 => ?_) (fun b7 hJ2 => ?_)
     · refine Rg [.a, .a, .a] (sl 38 [(1, vI a1), (6, vP [6] (0)), (8, vP [8] (0))] [rw_ [1000, 8] 49 14 encSPlayer l1000_8_1, bx [8] [.osl [1000, 8], .nils, .nils, .nils, .nils, .nils, .nils, .int .i64 (0 : Int), .int .i64 a1, .int .i64 (0 : Int), .bool false, .int .i64 (0 : Int), .int .i64 (0 : Int), .int .i64 (1 : Int), .int .i64 (1 : Int), .int .u64 a2, .nils, .int .i64 (0 : Int), .int .i64 (-1 : Int)], bx [6] [.nils, .nils, .nils, .nils, .nils, .nils, .nils, .int .i64 (0 : Int), .int .i64 (0 : Int), .int .i64 (0 : Int), .bool false, .int .i64 (0 : Int), .int .i64 (0 : Int), .int .i64 (0 : Int), .int .i64 (0 : Int), .int .u64 (0 : Int), .nils, .int .i64 (0 : Int), .int .i64 (0 : Int)]]) (aN) ?_
       refine Re [.a, .a, .a] (sl 38 [(1, vI a1), (6, vP [6] (0)), (8, vP [8] (0)), (35, vI a1), (36, vP [8] (11))] [rw_ [1000, 8] 49 14 encSPlayer l1000_8_1, bx [8] [.osl [1000, 8], .nils, .nils, .nils, .nils, .nils, .nils, .int .i64 (0 : Int), .int .i64 a1, .int .i64 (0 : Int), .bool false, .int .i64 a1, .int .i64 (0 : Int), .int .i64 (1 : Int), .int .i64 (1 : Int), .int .u64 a2, .nils, .int .i64 (0 : Int), .int .i64 (-1 : Int)], bx [6] [.nils, .nils, .nils, .nils, .nils, .nils, .nils, .int .i64 (0 : Int), .int .i64 (0 : Int), .int .i64 (0 : Int), .bool false, .int .i64 (0 : Int), .int .i64 (0 : Int), .int .i64 (0 : Int), .int .i64 (0 : Int), .int .u64 (0 : Int), .nils, .int .i64 (0 : Int), .int .i64 (0 : Int)]]) (aN) ?_
       refine Tn ⟨(a1, a1), hJ2, wT⟩
     · refine Holds.skip ?_
       refine Tn ⟨((0 : Int), (0 : Int)), hJ2, wT⟩
   · rintro ⟨b8_Active3, b8_Priority4⟩ hJ5
     replace hJ5 : r26_New_J5 a2 l1000_8_1 b8_Active3 b8_Priority4 = some r := hJ5
     unfold r26_New_J5 at hJ5
     refine Rg [.a, .a] (sl 38 [(6, vP [6] (0))] [rw_ [1000, 8] 49 14 encSPlayer l1000_8_1, bx [6] [.osl [1000, 8], .nils, .nils, .nils, .nils, .nils, .nils, .int .i64 (0 : Int), .int .i64 b8_Active3, .int .i64 (0 : Int), .bool false, .int .i64 b8_Priority4, .int .i64 (0 : Int), .int .i64 (1 : Int), .int .i64 (1 : Int), .int .u64 a2, .nils, .int .i64 (0 : Int), .int .i64 (-1 : Int)]]) (aN) ?_
     refine Holds.ret ?_
     exact bE (.agg [.osl [1000, 8], .nils, .nils, .nils, .nils, .nils, .nils, .int .i64 (0 : Int), .int .i64 b8_Active3, .int .i64 (0 : Int), .bool false, .int .i64 b8_Priority4, .int .i64 (0 : Int), .int .i64 (1 : Int), .int .i64 (1 : Int), .int .u64 a2, .nils, .int .i64 (0 : Int), .int .i64 (-1 : Int)]) (.agg (encSState (⟨l1000_8_1, ([] : List (SObject)), ([] : List (Int)), ([] : List (Int)), ([] : List (SItem)), ([] : List (SWaiting)), ([] : List (SCont)), (0 : Int), b8_Active3, (0 : Int), false, b8_Priority4, (0 : Int), (1 : Int), (1 : Int), a2, ([] : List (Int)), (0 : Int), (-1 : Int)⟩ : SState))) (congrArg (vA encSState) (sI hJ5))
def r08_Whole_J1  : Option (Bool) :=
 some true
def r08_Whole_B4 (a0 : A6 (Int)) (i_t3_3 : Int) : Option ((Int) ⊕ (Unit ⊕ Unit)) :=
 (if (decide (i_t3_3 < (6 : Int))) = true then
  (idx a0.l i_t3_3).bind fun e6 =>
  (gd ((decide (e6 < (0 : Int))) == false) (idx a0.l i_t3_3)).bind fun e7 =>
  (some (if (decide (e6 < (0 : Int))) = true then true else decide ((1000000 : Int) < e7))).bind fun b8 =>
  (if b8 = true then
   some (.inr (.inl ()))
  else
   some (.inl (wrap64 (i_t3_3 + (1 : Int)))))
 else
  some (.inr (.inr ())))
/-- cardgame/cardgameref08.Whole -/
def r08_Whole (a0 : A6 (Int)) : Option (Bool) :=
 (iter (fun (v : Int) => r08_Whole_B4 a0 v) FU (0 : Int)).bind (Sum.elim (fun o0 => some false) (fun o1 => r08_Whole_J1))
def r08_Whole_C (a0 : A6 (Int)) (r : Bool) : Prop := PCall Tryz.prog I0 67 [vA (eA6 (eI .i64)) a0] (· = vB r)
theorem r08_Whole_ok {a0 : A6 (Int)} {r : Bool} (h : r08_Whole a0 = some r) : r08_Whole_C a0 r := by
 refine PCall.body I0_stable (by kernel_rfl) Tryz.func67 rfl Tryz.ntmps67 (rs := [.tmp 2]) rfl rfl ?_
 intro w0 av old gv
 unfold r08_Whole at h
 refine Rg [.a, .a] (sl 18 [(1, vP [1] (0))] [bx [1] (eA6 (eI .i64) a0)]) (aN) ?_
 refine Sj (X := Unit) (fun v => (sl 18 [] [])) (fun v => r08_Whole_J1 = some r) ?_ ?_
 · refine Rg [.a] (sl 18 [(1, vP [1] (0)), (3, vI (0 : Int))] [bx [1] (eA6 (eI .i64) a0)]) (aN) ?_
   refine Holds.block ?_
   obtain ⟨oB4, hiB4, h⟩ := bS h
   refine It (fun (v : Int) => (sl 18 [(1, vP [1] (0)), (3, vI v)] [bx [1] (eA6 (eI .i64) a0)])) hiB4 (wT) ?_
   rintro i_t3_3 zB4 hzB4 hoB4
   replace hzB4 : r08_Whole_B4 a0 i_t3_3 = some zB4 := hzB4
   unfold r08_Whole_B4 at hzB4
   refine Holds.seq ?_
   refine Rg [.a, .a] (sl 18 [(1, vP [1] (0)), (3, vI i_t3_3), (5, vB (decide (i_t3_3 < (6 : Int))))] [bx [1] (eA6 (eI .i64) a0)]) (aN) ?_
   refine iB hzB4 (fun b5 hzB4 => ?_) (fun b5 hzB4 => ?_)
   · refine Holds.skip ?_
     refine Tn ?_
     refine Holds.seq ?_
     refine Holds.block ?_
     obtain ⟨e6, he6, hzB4⟩ := bS hzB4
     obtain ⟨e7, he7, hzB4⟩ := bS hzB4
     obtain ⟨b8, hb8, hzB4⟩ := bS hzB4
     refine Rg [.a, .a, (.v (vI e6)), .a, .a, .a, .a, (.v (vI e7)), .a, (.v (vB b8))] (sl 18 [(1, vP [1] (0)), (3, vI i_t3_3), (17, vB b8)] [bx [1] (eA6 (eI .i64) a0)]) (aC (idx_b he6) <| aC (ald he6 (lenI .i64) (eA6 (eI .i64) a0) 0 6 0 1 false (vI e6)) <| aC (Eq.refl (vI e6)) <| aC (fun hg : ((decide (e6 < (0 : Int))) == false) = true => aC (gi ((decide (e6 < (0 : Int))) == false)) <| aC (gidx_b he7 hg).1 <| aN) <| aC (fun hg : ((decide (e6 < (0 : Int))) == false) = true => aC (gi ((decide (e6 < (0 : Int))) == false)) <| aC (ald (gd_t he7 hg) (lenI .i64) (eA6 (eI .i64) a0) 0 6 0 1 false (vI e7)) <| aC (Eq.refl (vI e7)) <| aN) <| aG ((decide (e6 < (0 : Int))) == false) <| aF (decide (e6 < (0 : Int))) <| aB hb8 <| aN) ?_
     refine iB hzB4 (fun b9 hzB4 => ?_) (fun b9 hzB4 => ?_)
     · refine Rg [.a] (sl 18 [(2, vB false)] []) (aN) ?_
       refine Holds.ret ?_
       refine blockQ.ret ?_
       refine Tr ?_
       have hoB4_ := hoB4 _ (sI hzB4).symm
       subst hoB4_
       replace h := sumL h
       refine Tr ?_
       refine blockQ.ret ?_
       refine Tr ?_
       exact bQ (vB false) (congrArg vB (sI h))
     · refine Holds.skip ?_
       refine blockQ.normal ?_
       refine Tn ?_
       refine Re [.a, .a, .a] (sl 18 [(1, vP [1] (0)), (3, vI (wrap64 (i_t3_3 + (1 : Int)))), (6, vI i_t3_3), (7, vI (wrap64 (i_t3_3 + (1 : Int)))), (17, vB b8)] [bx [1] (eA6 (eI .i64) a0)]) (aN) ?_
       refine Tn ⟨(wrap64 (i_t3_3 + (1 : Int))), (sI hzB4).symm, wT⟩
   · refine Holds.exit ?_
     refine thenQ.exit ?_
     have hoB4_ := hoB4 _ (sI hzB4).symm
     subst hoB4_
     replace h := sumR h
     refine thenQ.exit ?_
     refine blockQ.out ?_
     refine Tn ⟨(), h, wT⟩
 · rintro _ hJ1
   replace hJ1 : r08_Whole_J1 = some r := hJ1
   unfold r08_Whole_J1 at hJ1
   refine Rg [.a] (sl 18 [(2, vB true)] []) (aN) ?_
   refine Holds.ret ?_
   exact bQ (vB true) (congrArg vB (sI hJ1))
def r26_times_J2  (k_t5_1 : Int) : Option (Int) :=
 some k_t5_1
def r26_times_J11 (i_t6_6 : Int) (k_t5_10 : Int) : Option ((Int × Int) ⊕ (Int)) :=
 some (.inl (k_t5_10, (wrap64 (i_t6_6 + (1 : Int)))))
def r26_times_B8 (a0 : List (Int)) (a1 : Int) (k_t5_5 : Int) (i_t6_6 : Int) : Option ((Int × Int) ⊕ (Int)) :=
 (if (decide (i_t6_6 < (a0.length : Int))) = true then
  (idx a0 i_t6_6).bind fun e12 =>
  (if (e12 == a1) = true then
   r26_times_J11 i_t6_6 (wrap64 (k_t5_5 + (1 : Int)))
  else
   r26_times_J11 i_t6_6 k_t5_5)
 else
  some (.inr k_t5_5))
/-- cardgame/cardgameref26.times -/
def r26_times (a0 : List (Int)) (a1 : Int) : Option (Int) :=
 (iter (fun (v : Int × Int) => r26_times_B8 a0 a1 v.1 v.2) FU ((0 : Int), (0 : Int))).bind (fun o0 => r26_times_J2 o0)
def r26_times_C (a0 : List (Int)) (a1 : Int) (r : Int) : Prop := PCall Tryz.prog I0 121 [vL (eI .i64) a0, vI a1] (· = vI r)
theorem r26_times_ok {a0 : List (Int)} {a1 : Int} {r : Int} (h : r26_times a0 a1 = some r) : r26_times_C a0 a1 r := by
 refine PCall.body I0_stable (by kernel_rfl) Tryz.func121 rfl Tryz.ntmps121 (rs := [.tmp 4]) rfl rfl ?_
 intro w0 av old gv
 unfold r26_times at h
 refine Rg [.a] (sl 22 [(0, vL (eI .i64) a0), (1, vI a1)] []) (aN) ?_
 refine Rg [.a] (sl 22 [(0, vL (eI .i64) a0), (1, vI a1), (5, vI (0 : Int))] []) (aN) ?_
 refine Sj (X := Int) (fun v => (sl 22 [(5, vI v)] [])) (fun v => r26_times_J2 v = some r) ?_ ?_
 · refine Rg [.a] (sl 22 [(0, vL (eI .i64) a0), (1, vI a1), (5, vI (0 : Int)), (6, vI (0 : Int))] []) (aN) ?_
   refine Holds.block ?_
   obtain ⟨oB8, hiB8, h⟩ := bS h
   refine It (fun (v : Int × Int) => (sl 22 [(0, vL (eI .i64) a0), (1, vI a1), (5, vI v.1), (6, vI v.2)] [])) hiB8 (wT) ?_
   rintro ⟨k_t5_5, i_t6_6⟩ zB8 hzB8 hoB8
   replace hzB8 : r26_times_B8 a0 a1 k_t5_5 i_t6_6 = some zB8 := hzB8
   unfold r26_times_B8 at hzB8
   refine Holds.seq ?_
   refine Rg [.a, .a, .a, .a] (sl 22 [(0, vL (eI .i64) a0), (1, vI a1), (5, vI k_t5_5), (6, vI i_t6_6), (10, vB (decide (i_t6_6 < (a0.length : Int))))] []) (aN) ?_
   refine iB hzB8 (fun b9 hzB8 => ?_) (fun b9 hzB8 => ?_)
   · refine Holds.skip ?_
     refine Tn ?_
     refine Sj (X := Int) (fun v => (sl 22 [(0, vL (eI .i64) a0), (1, vI a1), (5, vI v), (6, vI i_t6_6)] [])) (fun v => r26_times_J11 i_t6_6 v = some zB8) ?_ ?_
     · refine Holds.block ?_
       obtain ⟨e12, he12, hzB8⟩ := bS hzB8
       refine Rg [.a, .a, .a, (.v (vI e12)), .a, .a] (sl 22 [(0, vL (eI .i64) a0), (1, vI a1), (5, vI k_t5_5), (6, vI i_t6_6), (18, vB (e12 == a1))] []) (aC (idx_b he12) <| aC (eld he12 (lenI .i64) 0 1 false (vI e12)) <| aC (Eq.refl (vI e12)) <| aN) ?_
       refine iB hzB8 (fun b13 hzB8 => ?_) (fun b13 hzB8 => ?_)
       · refine Re [.a, .a, .a] (sl 22 [(0, vL (eI .i64) a0), (1, vI a1), (5, vI (wrap64 (k_t5_5 + (1 : Int)))), (6, vI i_t6_6), (18, vB (e12 == a1)), (19, vI k_t5_5), (20, vI (wrap64 (k_t5_5 + (1 : Int))))] []) (aN) ?_
         refine blockQ.normal ?_
         refine Tn ⟨(wrap64 (k_t5_5 + (1 : Int))), hzB8, wT⟩
       · refine Holds.skip ?_
         refine blockQ.normal ?_
         refine Tn ⟨k_t5_5, hzB8, wT⟩
     · rintro k_t5_10 hJ11
       replace hJ11 : r26_times_J11 i_t6_6 k_t5_10 = some zB8 := hJ11
       unfold r26_times_J11 at hJ11
       refine Re [.a, .a, .a] (sl 22 [(0, vL (eI .i64) a0), (1, vI a1), (5, vI k_t5_10), (6, vI (wrap64 (i_t6_6 + (1 : Int)))), (11, vI i_t6_6), (12, vI (wrap64 (i_t6_6 + (1 : Int))))] []) (aN) ?_
       refine Tn ⟨(k_t5_10, (wrap64 (i_t6_6 + (1 : Int)))), (sI hJ11).symm, wT⟩
   · refine Holds.exit ?_
     refine thenQ.exit ?_
     have hoB8_ := hoB8 _ (sI hzB8).symm
     subst hoB8_
     refine thenQ.exit ?_
     refine blockQ.out ?_
     refine Tn ⟨k_t5_5, h, wT⟩
 · rintro k_t5_1 hJ2
   replace hJ2 : r26_times_J2 k_t5_1 = some r := hJ2
   unfold r26_times_J2 at hJ2
   refine Rg [.a, .a] (sl 22 [(4, vI k_t5_1)] []) (aN) ?_
   refine Holds.ret ?_
   exact bQ (vI k_t5_1) (congrArg vI (sI hJ2))
def r26_objects_J2  : Option (Bool) :=
 some true
def r26_objects_B3 (a1 : SState) : Option ((Unit) ⊕ (Unit)) :=
 (if (decide ((0 : Int) < (a1.Objects.length : Int))) = true then
  (idx a1.Objects (0 : Int)).bind fun e5 =>
  none
 else
  some (.inr ()))
/-- cardgame/cardgameref26.objects -/
def r26_objects (a0 : List (SCard)) (a1 : SState) : Option (Bool) :=
 (if (decide ((2048 : Int) < (a1.Objects.length : Int))) = true then
  some false
 else
  (iter (fun (v : Unit) => r26_objects_B3 a1) FU ()).bind (fun o0 => r26_objects_J2))
def r26_objects_C (a0 : List (SCard)) (a1 : SState) (r : Bool) : Prop := PCall Tryz.prog I0 37 [vL encSCard a0, vA encSState a1] (· = vB r)
theorem r26_objects_ok {a0 : List (SCard)} {a1 : SState} {r : Bool} (h : r26_objects a0 a1 = some r) : r26_objects_C a0 a1 r := by
 refine PCall.body I0_stable (by kernel_rfl) Tryz.func37 rfl Tryz.ntmps37 (rs := [.tmp 4]) rfl rfl ?_
 intro w0 av old gv
 unfold r26_objects at h
 refine Rg [.a, .a] (sl 65 [(0, vL encSCard a0), (3, vP [3] (0))] [bx [3] (encSState a1)]) (aN) ?_
 refine Holds.seq ?_
 refine Rg [.a, .a, .a, .a] (sl 65 [(0, vL encSCard a0), (3, vP [3] (0)), (10, vB (decide ((2048 : Int) < (a1.Objects.length : Int))))] [bx [3] (encSState a1)]) (aN) ?_
 refine iB h (fun b1 h => ?_) (fun b1 h => ?_)
 · refine Rg [.a] (sl 65 [(4, vB false)] []) (aN) ?_
   refine Holds.ret ?_
   refine Tr ?_
   exact bQ (vB false) (congrArg vB (sI h))
 · refine Holds.skip ?_
   refine Tn ?_
   refine Sj (X := Unit) (fun v => (sl 65 [] [])) (fun v => r26_objects_J2 = some r) ?_ ?_
   · refine Rg [.a] (sl 65 [(0, vL encSCard a0), (3, vP [3] (0)), (5, vI (0 : Int))] [bx [3] (encSState a1)]) (aN) ?_
     refine Holds.block ?_
     obtain ⟨oB3, hiB3, h⟩ := bS h
     refine It (fun (v : Unit) => (sl 65 [(0, vL encSCard a0), (3, vP [3] (0)), (5, vI (0 : Int))] [bx [3] (encSState a1)])) hiB3 (wT) ?_
     rintro _ zB3 hzB3 hoB3
     replace hzB3 : r26_objects_B3 a1 = some zB3 := hzB3
     unfold r26_objects_B3 at hzB3
     refine Holds.seq ?_
     refine Rg [.a, .a, .a, .a, .a] (sl 65 [(0, vL encSCard a0), (3, vP [3] (0)), (5, vI (0 : Int)), (15, vB (decide ((0 : Int) < (a1.Objects.length : Int))))] [bx [3] (encSState a1)]) (aN) ?_
     refine iB hzB3 (fun b4 hzB3 => ?_) (fun b4 hzB3 => ?_)
     · refine Holds.skip ?_
       refine Tn ?_
       refine Holds.seq ?_
       refine Holds.block ?_
       obtain ⟨e5, he5, hzB3⟩ := bS hzB3
       refine Rg [.a, .a, .a, .a, (.v (vA encSObject e5)), .a, .a] (sl 65 [(0, vL encSCard a0), (3, vP [3] (0)), (5, vI (0 : Int)), (6, vP [6] (0))] [bx [6] (encSObject e5), bx [3] (encSState a1)]) (aC (idx_b he5) <| aC (eld he5 lenSObject 0 19 true (vA encSObject e5)) <| aC (Eq.refl (vA encSObject e5)) <| aN) ?_
       refine Holds.seq ?_
       cases hzB3
     · refine Holds.exit ?_
       refine thenQ.exit ?_
       have hoB3_ := hoB3 _ (sI hzB3).symm
       subst hoB3_
       refine thenQ.exit ?_
       refine blockQ.out ?_
       refine Tn ⟨(), h, wT⟩
   · rintro _ hJ2
     replace hJ2 : r26_objects_J2 = some r := hJ2
     unfold r26_objects_J2 at hJ2
     refine Rg [.a] (sl 65 [(4, vB true)] []) (aN) ?_
     refine Holds.ret ?_
     exact bQ (vB true) (congrArg vB (sI hJ2))
def r26_stack_J6  : Option (Bool) :=
 some true
def r26_stack_B7 (a0 : SState) : Option ((Unit) ⊕ (Unit)) :=
 (if (decide ((0 : Int) < (a0.Conts.length : Int))) = true then
  (idx a0.Conts (0 : Int)).bind fun e9 =>
  none
 else
  some (.inr ()))
def r26_stack_J5 (a0 : SState) : Option (Bool) :=
 (iter (fun (v : Unit) => r26_stack_B7 a0) FU ()).bind (fun o0 => r26_stack_J6)
def r26_stack_B14 (a0 : SState) : Option ((Unit) ⊕ (Unit)) :=
 (if (decide ((0 : Int) < (a0.Waiting.length : Int))) = true then
  (idx a0.Waiting (0 : Int)).bind fun e16 =>
  none
 else
  some (.inr ()))
def r26_stack_J4 (a0 : SState) : Option (Bool) :=
 (iter (fun (v : Unit) => r26_stack_B14 a0) FU ()).bind (fun o0 => r26_stack_J5 a0)
def r26_stack_B19 (a0 : SState) : Option ((Unit) ⊕ (Unit)) :=
 (if (decide ((0 : Int) < (a0.Stack.length : Int))) = true then
  none
 else
  some (.inr ()))
/-- cardgame/cardgameref26.stack -/
def r26_stack (a0 : SState) : Option (Bool) :=
 (some (if (decide ((64 : Int) < (a0.Stack.length : Int))) = true then true else decide ((64 : Int) < (a0.Waiting.length : Int)))).bind fun b1 =>
 (some (if b1 = true then true else decide ((64 : Int) < (a0.Conts.length : Int)))).bind fun b2 =>
 (if b2 = true then
  some false
 else
  (iter (fun (v : Unit) => r26_stack_B19 a0) FU ()).bind (fun o0 => r26_stack_J4 a0))
def r26_stack_C (a0 : SState) (r : Bool) : Prop := PCall Tryz.prog I0 38 [vA encSState a0] (· = vB r)
theorem r26_stack_ok {a0 : SState} {r : Bool} (h : r26_stack a0 = some r) : r26_stack_C a0 r := by
 refine PCall.body I0_stable (by kernel_rfl) Tryz.func38 rfl Tryz.ntmps38 (rs := [.tmp 2]) rfl rfl ?_
 intro w0 av old gv
 unfold r26_stack at h
 refine Rg [.a, .a] (sl 129 [(1, vP [1] (0))] [bx [1] (encSState a0)]) (aN) ?_
 refine Holds.seq ?_
 obtain ⟨b1, hb1, h⟩ := bS h
 obtain ⟨b2, hb2, h⟩ := bS h
 refine Rg [.a, .a, .a, .a, .a, .a, .a, .a, .a, (.v (vB b1)), .a, .a, .a, .a, .a, (.v (vB b2))] (sl 129 [(1, vP [1] (0)), (24, vB b2)] [bx [1] (encSState a0)]) (aG ((decide ((64 : Int) < (a0.Stack.length : Int))) == false) <| aG ((decide ((64 : Int) < (a0.Stack.length : Int))) == false) <| aG ((decide ((64 : Int) < (a0.Stack.length : Int))) == false) <| aF (decide ((64 : Int) < (a0.Stack.length : Int))) <| aB hb1 <| aG (b1 == false) <| aG (b1 == false) <| aG (b1 == false) <| aF b1 <| aB hb2 <| aN) ?_
 refine iB h (fun b3 h => ?_) (fun b3 h => ?_)
 · refine Rg [.a] (sl 129 [(2, vB false)] []) (aN) ?_
   refine Holds.ret ?_
   refine Tr ?_
   exact bQ (vB false) (congrArg vB (sI h))
 · refine Holds.skip ?_
   refine Tn ?_
   refine Sj (X := Unit) (fun v => (sl 129 [(1, vP [1] (0))] [bx [1] (encSState a0)])) (fun v => r26_stack_J4 a0 = some r) ?_ ?_
   · refine Rg [.a] (sl 129 [(1, vP [1] (0)), (3, vI (0 : Int))] [bx [1] (encSState a0)]) (aN) ?_
     refine Holds.block ?_
     obtain ⟨oB19, hiB19, h⟩ := bS h
     refine It (fun (v : Unit) => (sl 129 [(1, vP [1] (0)), (3, vI (0 : Int))] [bx [1] (encSState a0)])) hiB19 (wT) ?_
     rintro _ zB19 hzB19 hoB19
     replace hzB19 : r26_stack_B19 a0 = some zB19 := hzB19
     unfold r26_stack_B19 at hzB19
     refine Holds.seq ?_
     refine Rg [.a, .a, .a, .a, .a] (sl 129 [(1, vP [1] (0)), (3, vI (0 : Int)), (29, vB (decide ((0 : Int) < (a0.Stack.length : Int))))] [bx [1] (encSState a0)]) (aN) ?_
     refine iB hzB19 (fun b20 hzB19 => ?_) (fun b20 hzB19 => ?_)
     · refine Holds.skip ?_
       refine Tn ?_
       refine Holds.seq ?_
       refine Holds.block ?_
       refine Holds.seq ?_
       cases hzB19
     · refine Holds.exit ?_
       refine thenQ.exit ?_
       have hoB19_ := hoB19 _ (sI hzB19).symm
       subst hoB19_
       refine thenQ.exit ?_
       refine blockQ.out ?_
       refine Tn ⟨(), h, wT⟩
   · rintro _ hJ4
     replace hJ4 : r26_stack_J4 a0 = some r := hJ4
     unfold r26_stack_J4 at hJ4
     refine Sj (X := Unit) (fun v => (sl 129 [(1, vP [1] (0))] [bx [1] (encSState a0)])) (fun v => r26_stack_J5 a0 = some r) ?_ ?_
     · refine Rg [.a] (sl 129 [(1, vP [1] (0)), (5, vI (0 : Int))] [bx [1] (encSState a0)]) (aN) ?_
       refine Holds.block ?_
       obtain ⟨oB14, hiB14, hJ4⟩ := bS hJ4
       refine It (fun (v : Unit) => (sl 129 [(1, vP [1] (0)), (5, vI (0 : Int))] [bx [1] (encSState a0)])) hiB14 (wT) ?_
       rintro _ zB14 hzB14 hoB14
       replace hzB14 : r26_stack_B14 a0 = some zB14 := hzB14
       unfold r26_stack_B14 at hzB14
       refine Holds.seq ?_
       refine Rg [.a, .a, .a, .a, .a] (sl 129 [(1, vP [1] (0)), (5, vI (0 : Int)), (62, vB (decide ((0 : Int) < (a0.Waiting.length : Int))))] [bx [1] (encSState a0)]) (aN) ?_
       refine iB hzB14 (fun b15 hzB14 => ?_) (fun b15 hzB14 => ?_)
       · refine Holds.skip ?_
         refine Tn ?_
         refine Holds.seq ?_
         refine Holds.block ?_
         obtain ⟨e16, he16, hzB14⟩ := bS hzB14
         refine Rg [.a, .a, .a, .a, (.v (vA encSWaiting e16)), .a, .a] (sl 129 [(1, vP [1] (0)), (5, vI (0 : Int)), (6, vP [6] (0))] [bx [6] (encSWaiting e16), bx [1] (encSState a0)]) (aC (idx_b he16) <| aC (eld he16 lenSWaiting 0 89 true (vA encSWaiting e16)) <| aC (Eq.refl (vA encSWaiting e16)) <| aN) ?_
         cases hzB14
       · refine Holds.exit ?_
         refine thenQ.exit ?_
         have hoB14_ := hoB14 _ (sI hzB14).symm
         subst hoB14_
         refine thenQ.exit ?_
         refine blockQ.out ?_
         refine Tn ⟨(), hJ4, wT⟩
     · rintro _ hJ5
       replace hJ5 : r26_stack_J5 a0 = some r := hJ5
       unfold r26_stack_J5 at hJ5
       refine Sj (X := Unit) (fun v => (sl 129 [] [])) (fun v => r26_stack_J6 = some r) ?_ ?_
       · refine Rg [.a] (sl 129 [(1, vP [1] (0)), (7, vI (0 : Int))] [bx [1] (encSState a0)]) (aN) ?_
         refine Holds.block ?_
         obtain ⟨oB7, hiB7, hJ5⟩ := bS hJ5
         refine It (fun (v : Unit) => (sl 129 [(1, vP [1] (0)), (7, vI (0 : Int))] [bx [1] (encSState a0)])) hiB7 (wT) ?_
         rintro _ zB7 hzB7 hoB7
         replace hzB7 : r26_stack_B7 a0 = some zB7 := hzB7
         unfold r26_stack_B7 at hzB7
         refine Holds.seq ?_
         refine Rg [.a, .a, .a, .a, .a] (sl 129 [(1, vP [1] (0)), (7, vI (0 : Int)), (91, vB (decide ((0 : Int) < (a0.Conts.length : Int))))] [bx [1] (encSState a0)]) (aN) ?_
         refine iB hzB7 (fun b8 hzB7 => ?_) (fun b8 hzB7 => ?_)
         · refine Holds.skip ?_
           refine Tn ?_
           refine Holds.seq ?_
           refine Holds.block ?_
           obtain ⟨e9, he9, hzB7⟩ := bS hzB7
           refine Rg [.a, .a, .a, .a, (.v (vA encSCont e9)), .a, .a] (sl 129 [(1, vP [1] (0)), (7, vI (0 : Int)), (8, vP [8] (0))] [bx [8] (encSCont e9), bx [1] (encSState a0)]) (aC (idx_b he9) <| aC (eld he9 lenSCont 0 6 true (vA encSCont e9)) <| aC (Eq.refl (vA encSCont e9)) <| aN) ?_
           cases hzB7
         · refine Holds.exit ?_
           refine thenQ.exit ?_
           have hoB7_ := hoB7 _ (sI hzB7).symm
           subst hoB7_
           refine thenQ.exit ?_
           refine blockQ.out ?_
           refine Tn ⟨(), hJ5, wT⟩
       · rintro _ hJ6
         replace hJ6 : r26_stack_J6 = some r := hJ6
         unfold r26_stack_J6 at hJ6
         refine Rg [.a] (sl 129 [(2, vB true)] []) (aN) ?_
         refine Holds.ret ?_
         exact bQ (vB true) (congrArg vB (sI hJ6))
end Go.PL
