/- Functions of the program, as partial functions in Lean, with proofs. -/
import Derived.Test.YtlinpadogiggaaaGreatDoorPlEvB
import Derived.Test.YtlinpadogiggaaaGreatDoorPlEvF1
import Derived.Test.YtlinpadogiggaaaGreatDoorPlEvF16
import Derived.Test.YtlinpadogiggaaaGreatDoorPlEvF4
import Derived.Test.YtlinpadogiggaaaGreatDoorPlEvF6
import Derived.Test.YtlinpadogiggaaaGreatDoorPlEvF7
namespace Go.PL
open Go Go.RowKit Go.Proofs
set_option maxRecDepth 100000
set_option linter.all false
set_option maxHeartbeats 1000000
attribute [local irreducible] Holds thenQ blockQ
/-- cardgame/cardgamelaw32.EventIs -/
def law32_EventIs (a0 : List (SCard)) (a1 : SState) (a2 : SEvent) : Option (Bool) :=
 (law32_valid a0 a1).bind fun r1 =>
 (gd ((!r1) == false) (law32_alive)).bind fun r2 =>
 (gd (((!r1) == false) && (r2 == true)) (event_Is a0 a1 a2)).bind fun r3 =>
 (gd (((!r1) == false) && (r2 == true)) (r32_Is a0 a1 a2)).bind fun r4 =>
 (some (if r2 = true then r3 == r4 else false)).bind fun b5 =>
 (some (if (!r1) = true then true else b5)).bind fun b6 =>
 some b6
def law32_EventIs_C (a0 : List (SCard)) (a1 : SState) (a2 : SEvent) (r : Bool) : Prop := PCall Tryz.prog I0 3 [vL encSCard a0, vA encSState a1, vA encSEvent a2] (· = vB r)
theorem law32_EventIs_ok {a0 : List (SCard)} {a1 : SState} {a2 : SEvent} {r : Bool} (h : law32_EventIs a0 a1 a2 = some r) : law32_EventIs_C a0 a1 a2 r := by
 refine PCall.body I0_stable (by kernel_rfl) Tryz.func3 rfl Tryz.ntmps3 (rs := [.tmp 6]) rfl rfl ?_
 intro w0 av old gv
 unfold law32_EventIs at h
 refine Rg [.a, .a, .a] (sl 25 [(0, vL encSCard a0), (4, vP [4] (0)), (5, vP [5] (0))] [bx [5] (encSEvent a2), bx [4] (encSState a1)]) (aN) ?_
 obtain ⟨r1, hr1, h⟩ := bS h
 obtain ⟨r2, hr2, h⟩ := bS h
 obtain ⟨r3, hr3, h⟩ := bS h
 obtain ⟨r4, hr4, h⟩ := bS h
 obtain ⟨b5, hb5, h⟩ := bS h
 obtain ⟨b6, hb6, h⟩ := bS h
 refine Rq followsP [.a, .a, (.c (vB r1)), .a, .a, (.c (vB r2)), .a, .a, .a, .a, (.c (vB r3)), .a, .a, .a, (.c (vB r4)), .a, (.v (vB b5)), (.v (vB b6)), .a] (sl 25 [(6, vB b6)] []) (aC (law32_valid_ok hr1) <| aC (c0 hr2 law32_alive_ok) <| aG ((!r1) == false) <| aC (c3 hr3 event_Is_ok) <| aC (c3 hr4 r32_Is_ok) <| aC (fun hg : (((!r1) == false) && (r2 == true)) = true => aC (gi (((!r1) == false) && (r2 == true))) <| aC (gi (((!r1) == false) && (r2 == true))) <| aC isb4 <| aN) <| aC (fun hg : ((!r1) == false) = true => aC (gi ((!r1) == false)) <| aC (fun q : r2 = true => (gA hg (gT q))) <| aB hb5 <| aN) <| aF (!r1) <| aB hb6 <| aN) ?_
 refine Holds.ret ?_
 exact bQ (vB b6) (congrArg vB (sI h))
end Go.PL
