/- Functions of the program, as partial functions in Lean, with proofs. -/
import Derived.Test.YtedobbmpljbccaaGreatDoorPlDkB
import Derived.Test.YtedobbmpljbccaaGreatDoorPlDkF14
namespace Go.PL
open Go Go.RowKit Go.Proofs
set_option maxRecDepth 100000
set_option linter.all false
set_option maxHeartbeats 1000000
attribute [local irreducible] Holds thenQ blockQ
/-- cardgame/cardgameref23.Valid -/
def r23_Valid (a0 : List (SCard)) : Option (Bool) :=
 (r22_Check a0).bind fun r1 =>
 some (r1.2 == (0 : Int))
def r23_Valid_C (a0 : List (SCard)) (r : Bool) : Prop := PCall Tryz.prog I0 18 [vL encSCard a0] (· = vB r)
theorem r23_Valid_ok {a0 : List (SCard)} {r : Bool} (h : r23_Valid a0 = some r) : r23_Valid_C a0 r := by
 refine PCall.body I0_stable (by kernel_rfl) Tryz.func18 rfl Tryz.ntmps18 (rs := [.tmp 2]) rfl rfl ?_
 intro w0 av old gv
 unfold r23_Valid at h
 refine Rg [.a] (sl 12 [(0, vL encSCard a0)] []) (aN) ?_
 obtain ⟨r1, hr1, h⟩ := bS h
 refine Rg [.a, (.c (.tup [vI r1.1, vI r1.2])), .a, .a, .a, .a, .a] (sl 12 [(4, vI r1.2)] []) (aC (r22_Check_ok hr1) <| aC (show True ∧ 0 < [V.undef, V.undef].length from ⟨trivial, (by decide)⟩) <| aC (show True ∧ 1 < [V.undef, V.undef].length from ⟨trivial, (by decide)⟩) <| aN) ?_
 refine Rg [.a, .a, .a] (sl 12 [(2, vB (r1.2 == (0 : Int)))] []) (aN) ?_
 refine Holds.ret ?_
 exact bQ (vB (r1.2 == (0 : Int))) (congrArg vB (sI h))
end Go.PL
