/- Functions of the program, as partial functions in Lean, with proofs. -/
import Derived.Test.YtipchejgnmnffaaGreatDoorPlStB
import Derived.Test.YtipchejgnmnffaaGreatDoorPlStF0
import Derived.Test.YtipchejgnmnffaaGreatDoorPlStF1
import Derived.Test.YtipchejgnmnffaaGreatDoorPlStF10
import Derived.Test.YtipchejgnmnffaaGreatDoorPlStF11
import Derived.Test.YtipchejgnmnffaaGreatDoorPlStF12
import Derived.Test.YtipchejgnmnffaaGreatDoorPlStF13
import Derived.Test.YtipchejgnmnffaaGreatDoorPlStF14
import Derived.Test.YtipchejgnmnffaaGreatDoorPlStF3
import Derived.Test.YtipchejgnmnffaaGreatDoorPlStF7
import Derived.Test.YtipchejgnmnffaaGreatDoorPlStF9
namespace Go.PL
open Go Go.RowKit Go.Proofs
set_option maxRecDepth 100000
set_option linter.all false
set_option maxHeartbeats 1000000
attribute [local irreducible] Holds thenQ blockQ
/-- cardgame/cardgamelaw26.StateTurns -/
def law26_StateTurns (a0 : SState) (a1 : Int) : Option (Bool) :=
 (law26_light ([] : List (SCard)) a0).bind fun r1 =>
 (if (!r1) = true then
  (law26_alive).bind fun r3 =>
  some r3
 else
  (state_Living a0).bind fun r4 =>
  (r26_Living a0).bind fun r5 =>
  (r03_Same r4 r5).bind fun r6 =>
  (gd (r6 == true) (state_After a0 a1)).bind fun r7 =>
  (gd (r6 == true) (r26_After a0 a1)).bind fun r8 =>
  (some (if r6 = true then r7 == r8 else false)).bind fun b9 =>
  (gd (b9 == true) (state_Others a0 a1)).bind fun r10 =>
  (gd (b9 == true) (r26_Others a0 a1)).bind fun r11 =>
  (gd (b9 == true) (r03_Same r10 r11)).bind fun r12 =>
  (some (if b9 = true then r12 else false)).bind fun b13 =>
  (gd (b13 == true) (law26_alive)).bind fun r14 =>
  (some (if b13 = true then r14 else false)).bind fun b15 =>
  some b15)
def law26_StateTurns_C (a0 : SState) (a1 : Int) (r : Bool) : Prop := PCall Tryz.prog I0 5 [vA encSState a0, vI a1] (· = vB r)
theorem law26_StateTurns_ok {a0 : SState} {a1 : Int} {r : Bool} (h : law26_StateTurns a0 a1 = some r) : law26_StateTurns_C a0 a1 r := by
 refine PCall.body I0_stable (by kernel_rfl) Tryz.func5 rfl Tryz.ntmps5 (rs := [.tmp 4]) rfl rfl ?_
 intro w0 av old gv
 unfold law26_StateTurns at h
 refine Rg [.a, .a] (sl 35 [(1, vI a1), (2, vP [2] (0))] [bx [2] (encSState a0)]) (aN) ?_
 refine Holds.seq ?_
 obtain ⟨r1, hr1, h⟩ := bS h
 refine Rg [.a, (.c (vB r1)), .a] (sl 35 [(1, vI a1), (2, vP [2] (0)), (7, vB (!r1))] [bx [2] (encSState a0)]) (aC (law26_light_ok hr1) <| aN) ?_
 refine iB h (fun b2 h => ?_) (fun b2 h => ?_)
 · obtain ⟨r3, hr3, h⟩ := bS h
   refine Rg [(.c (vB r3)), .a] (sl 35 [(4, vB r3)] []) (aC (law26_alive_ok hr3) <| aN) ?_
   refine Holds.ret ?_
   refine Tr ?_
   exact bQ (vB r3) (congrArg vB (sI h))
 · refine Holds.skip ?_
   refine Tn ?_
   refine Holds.seq ?_
   obtain ⟨r4, hr4, h⟩ := bS h
   obtain ⟨r5, hr5, h⟩ := bS h
   obtain ⟨r6, hr6, h⟩ := bS h
   obtain ⟨r7, hr7, h⟩ := bS h
   obtain ⟨r8, hr8, h⟩ := bS h
   obtain ⟨b9, hb9, h⟩ := bS h
   obtain ⟨r10, hr10, h⟩ := bS h
   obtain ⟨r11, hr11, h⟩ := bS h
   obtain ⟨r12, hr12, h⟩ := bS h
   obtain ⟨b13, hb13, h⟩ := bS h
   obtain ⟨r14, hr14, h⟩ := bS h
   obtain ⟨b15, hb15, h⟩ := bS h
   refine Holds.regS followsP [[], [0], [], [0, 1, 2], [0, 1, 2, 3], [0, 1, 2, 3, 4], [0, 1, 2, 3, 4, 5], [0, 1, 2, 3, 4, 5], [0, 1, 2, 3, 4, 5, 6, 7], [0, 1, 2, 3, 4, 5], [0, 1, 2, 3, 4, 5], [0, 1, 2, 3, 4, 5, 6, 7, 8, 9, 10], [0, 1, 2, 3, 4, 5, 6, 7, 8, 9, 10, 11], [0, 1, 2, 3, 4, 5, 6, 7, 8, 9, 10, 11, 12], [0, 1, 2, 3, 4, 5, 6, 7, 8, 9, 10, 11, 12, 13], [0, 1, 2, 3, 4, 5, 6, 7, 8, 9, 10, 11, 12, 13, 14], [0, 1, 2, 3, 4, 5, 6, 7, 8, 9, 10, 11, 12, 13, 14], [0, 1, 2, 3, 4, 5, 6, 7, 8, 9, 10, 11, 12, 13, 14, 15, 16], [0, 1, 2, 3, 4, 5, 6, 7, 8, 9, 10, 11, 12, 13, 14], [0, 1, 2, 3, 4, 5, 6, 7, 8, 9, 10, 11, 12, 13, 14], [0, 1, 2, 3, 4, 5, 6, 7, 8, 9, 10, 11, 12, 13, 14, 15, 16, 17, 18, 19], [0, 1, 2, 3, 4, 5, 6, 7, 8, 9, 10, 11, 12, 13, 14, 15, 16, 17, 18, 19, 20], [0, 1, 2, 3, 4, 5, 6, 7, 8, 9, 10, 11, 12, 13, 14, 15, 16, 17, 18, 19, 20, 21], [0, 1, 2, 3, 4, 5, 6, 7, 8, 9, 10, 11, 12, 13, 14, 15, 16, 17, 18, 19, 20, 21, 22], [0, 1, 2, 3, 4, 5, 6, 7, 8, 9, 10, 11, 12, 13, 14, 15, 16, 17, 18, 19, 20, 21, 22, 23], [0, 1, 2, 3, 4, 5, 6, 7, 8, 9, 10, 11, 12, 13, 14, 15, 16, 17, 18, 19, 20, 21, 22, 23, 24], [0, 1, 2, 3, 4, 5, 6, 7, 8, 9, 10, 11, 12, 13, 14, 15, 16, 17, 18, 19, 20, 21, 22, 23, 24, 25]] [] [[]] [.a, (.c (vL (eI .i64) r4)), .a, (.c (vL (eI .i64) r5)), (.c (vB r6)), .a, .a, .a, (.c (vI r7)), .a, .a, (.c (vI r8)), .a, (.v (vB b9)), .a, .a, .a, (.c (vL (eI .i64) r10)), .a, .a, (.c (vL (eI .i64) r11)), (.c (vB r12)), (.v (vB b13)), .a, (.c (vB r14)), (.v (vB b15)), .a] [[2]] ⟨slD 35 0 [(1, [], vI a1), (2, [], vP [2] (0)), (4, [(26, vB b15)], .undef), (7, [], vB (!r1)), (9, [(0, vA encSState a0)], .undef), (10, [(1, vL (eI .i64) r4)], .undef), (11, [(2, vA encSState a0)], .undef), (12, [(3, vL (eI .i64) r5)], .undef), (13, [(4, vB r6)], .undef), (14, [(5, vB r6)], .undef), (15, [(6, .g (r6 == true) (vA encSState a0))], .undef), (16, [(7, .g (r6 == true) (vI a1))], .undef), (17, [(8, .g (r6 == true) (vI r7))], .undef), (18, [(9, .g (r6 == true) (vA encSState a0))], .undef), (19, [(10, .g (r6 == true) (vI a1))], .undef), (20, [(11, .g (r6 == true) (vI r8))], .undef), (21, [(12, .g (r6 == true) (vB (r7 == r8)))], .undef), (22, [(13, vB b9)], .undef), (23, [(14, vB b9)], .undef), (24, [(15, .g (b9 == true) (vA encSState a0))], .undef), (25, [(16, .g (b9 == true) (vI a1))], .undef), (26, [(17, .g (b9 == true) (vL (eI .i64) r10))], .undef), (27, [(18, .g (b9 == true) (vA encSState a0))], .undef), (28, [(19, .g (b9 == true) (vI a1))], .undef), (29, [(20, .g (b9 == true) (vL (eI .i64) r11))], .undef), (30, [(21, .g (b9 == true) (vB r12))], .undef), (31, [(22, vB b13)], .undef), (32, [(23, vB b13)], .undef), (33, [(24, .g (b13 == true) (vB r14))], .undef), (34, [(25, vB b15)], .undef)], [([], some (bx [2] (encSState a0)))], [], []⟩ _ (bC (aN) <| bC (aC (state_Living_ok hr4) <| aN) <| bC (aN) <| bC (aC (r26_Living_ok hr5) <| aN) <| bC (aC (r03_Same_ok hr6) <| aN) <| bC (aN) <| bC (aN) <| bC (aN) <| bC (aC (c2 hr7 state_After_ok) <| aN) <| bC (aN) <| bC (aN) <| bC (aC (c2 hr8 r26_After_ok) <| aN) <| bC (aH (r6 == true) <| aN) <| bC (aT r6 <| aB hb9 <| aN) <| bC (aN) <| bC (aN) <| bC (aN) <| bC (aC (c2 hr10 state_Others_ok) <| aN) <| bC (aN) <| bC (aN) <| bC (aC (c2 hr11 r26_Others_ok) <| aN) <| bC (aC (c2 hr12 r03_Same_ok) <| aN) <| bC (aT b9 <| aB hb13 <| aN) <| bC (aN) <| bC (aC (c0 hr14 law26_alive_ok) <| aN) <| bC (aT b13 <| aB hb15 <| aN) <| bC (aN) <| bN) ?_
   refine Tn ?_
   refine Ls (sl 35 [(4, vB b15)] []) ?_
   refine Holds.ret ?_
   exact bQ (vB b15) (congrArg vB (sI h))
end Go.PL
