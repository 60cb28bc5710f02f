/- Functions of the program, as partial functions in Lean, with proofs. -/
import Derived.Test.YtedobbmpljbccaaGreatDoorPlDkB
import Derived.Test.YtedobbmpljbccaaGreatDoorPlDkF8
namespace Go.PL
open Go Go.RowKit Go.Proofs
set_option maxRecDepth 100000
set_option linter.all false
set_option maxHeartbeats 1000000
attribute [local irreducible] Holds thenQ blockQ
/-- cardgame/cardgameref17.mods -/
def r17_mods (a0 : List (SMod)) : Option (Bool) :=
 (r15_ListText a0).bind fun r1 =>
 some (r1 != ([] : List UInt8))
def r17_mods_C (a0 : List (SMod)) (r : Bool) : Prop := PCall Tryz.prog I0 125 [vL encSMod a0] (· = vB r)
theorem r17_mods_ok {a0 : List (SMod)} {r : Bool} (h : r17_mods a0 = some r) : r17_mods_C a0 r := by
 refine PCall.body I0_stable (by kernel_rfl) Tryz.func125 rfl Tryz.ntmps125 (rs := [.tmp 2]) rfl rfl ?_
 intro w0 av old gv
 unfold r17_mods at h
 refine Rg [.a] (sl 6 [(0, vL encSMod a0)] []) (aN) ?_
 obtain ⟨r1, hr1, h⟩ := bS h
 refine Rg [.a, (.c (vS r1)), .a, .a] (sl 6 [(2, vB (r1 != ([] : List UInt8)))] []) (aC (r15_ListText_ok hr1) <| aN) ?_
 refine Holds.ret ?_
 exact bQ (vB (r1 != ([] : List UInt8))) (congrArg vB (sI h))
end Go.PL
