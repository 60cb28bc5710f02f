/- Functions of the program, as partial functions in Lean, with proofs. -/
import Derived.Test.YtlinpadogiggaaaGreatDoorPlEvB
import Derived.Test.YtlinpadogiggaaaGreatDoorPlEvF14
import Derived.Test.YtlinpadogiggaaaGreatDoorPlEvF15
namespace Go.PL
open Go Go.RowKit Go.Proofs
set_option maxRecDepth 100000
set_option linter.all false
set_option maxHeartbeats 1000000
attribute [local irreducible] Holds thenQ blockQ
/-- cardgame/cardgamelaw32.valid -/
def law32_valid (a0 : List (SCard)) (a1 : SState) : Option (Bool) :=
 (r22_Check a0).bind fun r1 =>
 (gd ((r1.2 == (0 : Int)) == true) (r26_Is a0 a1)).bind fun r2 =>
 (some (if (r1.2 == (0 : Int)) = true then r2 else false)).bind fun b3 =>
 some b3
def law32_valid_C (a0 : List (SCard)) (a1 : SState) (r : Bool) : Prop := PCall Tryz.prog I0 7 [vL encSCard a0, vA encSState a1] (· = vB r)
theorem law32_valid_ok {a0 : List (SCard)} {a1 : SState} {r : Bool} (h : law32_valid a0 a1 = some r) : law32_valid_C a0 a1 r := by
 refine PCall.body I0_stable (by kernel_rfl) Tryz.func7 rfl Tryz.ntmps7 (rs := [.tmp 4]) rfl rfl ?_
 intro w0 av old gv
 unfold law32_valid at h
 refine Rg [.a, .a] (sl 19 [(0, vL encSCard a0), (3, vP [3] (0))] [bx [3] (encSState a1)]) (aN) ?_
 obtain ⟨r1, hr1, h⟩ := bS h
 refine Rg [.a, (.c (.tup [vI r1.1, vI r1.2])), .a, .a, .a, .a, .a] (sl 19 [(0, vL encSCard a0), (3, vP [3] (0)), (6, vI r1.2)] [bx [3] (encSState a1)]) (aC (r22_Check_ok hr1) <| aC (show True ∧ 0 < [V.undef, V.undef].length from ⟨trivial, (by decide)⟩) <| aC (show True ∧ 1 < [V.undef, V.undef].length from ⟨trivial, (by decide)⟩) <| aN) ?_
 obtain ⟨r2, hr2, h⟩ := bS h
 obtain ⟨b3, hb3, h⟩ := bS h
 refine Rg [.a, .a, .a, .a, .a, (.c (vB r2)), (.v (vB b3)), .a] (sl 19 [(4, vB b3)] []) (aC (c2 hr2 r26_Is_ok) <| aT (r1.2 == (0 : Int)) <| aB hb3 <| aN) ?_
 refine Holds.ret ?_
 exact bQ (vB b3) (congrArg vB (sI h))
end Go.PL
