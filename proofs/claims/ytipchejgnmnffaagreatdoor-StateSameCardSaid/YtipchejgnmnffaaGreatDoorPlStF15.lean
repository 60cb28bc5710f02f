/- Functions of the program, as partial functions in Lean, with proofs. -/
import Derived.Test.YtipchejgnmnffaaGreatDoorPlStB
import Derived.Test.YtipchejgnmnffaaGreatDoorPlStF0
import Derived.Test.YtipchejgnmnffaaGreatDoorPlStF1
import Derived.Test.YtipchejgnmnffaaGreatDoorPlStF10
import Derived.Test.YtipchejgnmnffaaGreatDoorPlStF11
import Derived.Test.YtipchejgnmnffaaGreatDoorPlStF12
import Derived.Test.YtipchejgnmnffaaGreatDoorPlStF13
import Derived.Test.YtipchejgnmnffaaGreatDoorPlStF14
import Derived.Test.YtipchejgnmnffaaGreatDoorPlStF3
import Derived.Test.YtipchejgnmnffaaGreatDoorPlStF7
import Derived.Test.YtipchejgnmnffaaGreatDoorPlStF9
namespace Go.PL
open Go Go.RowKit Go.Proofs
set_option maxRecDepth 100000
set_option linter.all false
set_option maxHeartbeats 1000000
attribute [local irreducible] Holds thenQ blockQ
/-- cardgame/cardgamelaw26.StateSame -/
def law26_StateSame (a0 : SState) (a1 : SState) : Option (Bool) :=
 (law26_light ([] : List (SCard)) a0).bind fun r1 =>
 (gd ((!r1) == false) (law26_light ([] : List (SCard)) a1)).bind fun r2 =>
 (some (if (!r1) = true then true else !r2)).bind fun b3 =>
 (if b3 = true then
  (law26_alive).bind fun r5 =>
  some r5
 else
  (state_Same a0 a1).bind fun r6 =>
  (r26_Same a0 a1).bind fun r7 =>
  (gd ((r6 == r7) == true) (state_Same a1 a0)).bind fun r8 =>
  (gd ((r6 == r7) == true) (state_Same a0 a1)).bind fun r9 =>
  (some (if (r6 == r7) = true then r8 == r9 else false)).bind fun b10 =>
  (gd (b10 == true) (state_Same a0 a0)).bind fun r11 =>
  (some (if b10 = true then r11 else false)).bind fun b12 =>
  (gd (b12 == true) (law26_alive)).bind fun r13 =>
  (some (if b12 = true then r13 else false)).bind fun b14 =>
  some b14)
def law26_StateSame_C (a0 : SState) (a1 : SState) (r : Bool) : Prop := PCall Tryz.prog I0 4 [vA encSState a0, vA encSState a1] (· = vB r)
theorem law26_StateSame_ok {a0 : SState} {a1 : SState} {r : Bool} (h : law26_StateSame a0 a1 = some r) : law26_StateSame_C a0 a1 r := by
 refine PCall.body I0_stable (by kernel_rfl) Tryz.func4 rfl Tryz.ntmps4 (rs := [.tmp 4]) rfl rfl ?_
 intro w0 av old gv
 unfold law26_StateSame at h
 refine Rg [.a, .a, .a] (sl 38 [(2, vP [2] (0)), (3, vP [3] (0))] [bx [3] (encSState a1), bx [2] (encSState a0)]) (aN) ?_
 refine Holds.seq ?_
 obtain ⟨r1, hr1, h⟩ := bS h
 obtain ⟨r2, hr2, h⟩ := bS h
 obtain ⟨b3, hb3, h⟩ := bS h
 refine Rg [.a, (.c (vB r1)), .a, .a, .a, (.c (vB r2)), .a, (.v (vB b3))] (sl 38 [(2, vP [2] (0)), (3, vP [3] (0)), (12, vB b3)] [bx [3] (encSState a1), bx [2] (encSState a0)]) (aC (law26_light_ok hr1) <| aC (c1 hr2 law26_light_ok) <| aG ((!r1) == false) <| aF (!r1) <| aB hb3 <| aN) ?_
 refine iB h (fun b4 h => ?_) (fun b4 h => ?_)
 · obtain ⟨r5, hr5, h⟩ := bS h
   refine Rg [(.c (vB r5)), .a] (sl 38 [(4, vB r5)] []) (aC (law26_alive_ok hr5) <| aN) ?_
   refine Holds.ret ?_
   refine Tr ?_
   exact bQ (vB r5) (congrArg vB (sI h))
 · refine Holds.skip ?_
   refine Tn ?_
   obtain ⟨r6, hr6, h⟩ := bS h
   obtain ⟨r7, hr7, h⟩ := bS h
   obtain ⟨r8, hr8, h⟩ := bS h
   obtain ⟨r9, hr9, h⟩ := bS h
   obtain ⟨b10, hb10, h⟩ := bS h
   obtain ⟨r11, hr11, h⟩ := bS h
   obtain ⟨b12, hb12, h⟩ := bS h
   obtain ⟨r13, hr13, h⟩ := bS h
   obtain ⟨b14, hb14, h⟩ := bS h
   refine Rq followsP [.a, .a, (.c (vB r6)), .a, .a, (.c (vB r7)), .a, .a, .a, .a, (.c (vB r8)), .a, .a, (.c (vB r9)), .a, (.v (vB b10)), .a, .a, .a, (.c (vB r11)), (.v (vB b12)), .a, (.c (vB r13)), (.v (vB b14)), .a] (sl 38 [(4, vB b14)] []) (aC (state_Same_ok hr6) <| aC (r26_Same_ok hr7) <| aC isb4 <| aC (c2 hr8 state_Same_ok) <| aC (c2 hr9 state_Same_ok) <| aC (fun hg : ((r6 == r7) == true) = true => aC (gi ((r6 == r7) == true)) <| aC (gi ((r6 == r7) == true)) <| aC isb4 <| aN) <| aT (r6 == r7) <| aB hb10 <| aC (c2 hr11 state_Same_ok) <| aT b10 <| aB hb12 <| aC (c0 hr13 law26_alive_ok) <| aT b12 <| aB hb14 <| aN) ?_
   refine Holds.ret ?_
   exact bQ (vB b14) (congrArg vB (sI h))
end Go.PL
