/- Functions of the program, as partial functions in Lean, with proofs. -/
import Derived.Test.YtipchejgnmnffaaGreatDoorPlStB
import Derived.Test.YtipchejgnmnffaaGreatDoorPlStF0
import Derived.Test.YtipchejgnmnffaaGreatDoorPlStF13
import Derived.Test.YtipchejgnmnffaaGreatDoorPlStF7
import Derived.Test.YtipchejgnmnffaaGreatDoorPlStF9
namespace Go.PL
open Go Go.RowKit Go.Proofs
set_option maxRecDepth 100000
set_option linter.all false
set_option maxHeartbeats 1000000
attribute [local irreducible] Holds thenQ blockQ
/-- cardgame/cardgamelaw26.alive -/
def law26_alive : Option (Bool) :=
 (state_New (2 : Int) (1 : Int) (7 : Int)).bind fun r1 =>
 (gd (((r1.Players.length : Int) == (2 : Int)) == true) (idx r1.Players (0 : Int))).bind fun e2 =>
 (some (if ((r1.Players.length : Int) == (2 : Int)) = true then e2.Life == (20 : Int) else false)).bind fun b3 =>
 (some (if b3 = true then r1.Active == (1 : Int) else false)).bind fun b4 =>
 (some (if b4 = true then r1.Seed == (7 : Int) else false)).bind fun b5 =>
 (gd (b5 == true) (state_Is ([] : List (SCard)) r1)).bind fun r6 =>
 (some (if b5 = true then r6 else false)).bind fun b7 =>
 (gd (b7 == true) (state_Same r1 r1)).bind fun r8 =>
 (some (if b7 = true then r8 else false)).bind fun b9 =>
 (gd (b9 == true) (state_After r1 (1 : Int))).bind fun r10 =>
 (some (if b9 = true then r10 == (0 : Int) else false)).bind fun b11 =>
 (gd (b11 == true) (state_Wins r1 (1 : Int))).bind fun r12 =>
 (some (if b11 = true then r12.Winner == (1 : Int) else false)).bind fun b13 =>
 some b13
def law26_alive_C (r : Bool) : Prop := PCall Tryz.prog I0 8 [] (· = vB r)
theorem law26_alive_ok {r : Bool} (h : law26_alive  = some r) : law26_alive_C r := by
 refine PCall.body I0_stable (by kernel_rfl) Tryz.func8 rfl Tryz.ntmps8 (rs := [.tmp 0]) rfl rfl ?_
 intro w0 av old gv
 unfold law26_alive at h
 refine Rg [.a] (sl 45 [] []) (aN) ?_
 obtain ⟨r1, hr1, h⟩ := bS h
 refine Rg [(.c (vA encSState r1)), .a, .a] (sl 45 [(1, vP [1] (0))] [bx [1] (encSState r1)]) (aC (state_New_ok hr1) <| aN) ?_
 obtain ⟨e2, he2, h⟩ := bS h
 obtain ⟨b3, hb3, h⟩ := bS h
 obtain ⟨b4, hb4, h⟩ := bS h
 obtain ⟨b5, hb5, h⟩ := bS h
 obtain ⟨r6, hr6, h⟩ := bS h
 obtain ⟨b7, hb7, h⟩ := bS h
 obtain ⟨r8, hr8, h⟩ := bS h
 obtain ⟨b9, hb9, h⟩ := bS h
 obtain ⟨r10, hr10, h⟩ := bS h
 obtain ⟨b11, hb11, h⟩ := bS h
 obtain ⟨r12, hr12, h⟩ := bS h
 obtain ⟨b13, hb13, h⟩ := bS h
 refine Rg [.a, .a, .a, .a, .a, .a, .a, .a, .a, (.v (vI e2.Life)), .a, (.v (vB b3)), .a, .a, .a, .a, (.v (vB b4)), .a, .a, .a, .a, (.v (vB b5)), .a, .a, (.c (vB r6)), (.v (vB b7)), .a, .a, .a, (.c (vB r8)), (.v (vB b9)), .a, .a, (.c (vI r10)), .a, (.v (vB b11)), .a, .a, (.c (vA encSState r12)), .a, .a, (.v (vB b13)), .a] (sl 45 [(0, vB b13)] []) (aG (((r1.Players.length : Int) == (2 : Int)) == true) <| aC (fun hg : (((r1.Players.length : Int) == (2 : Int)) == true) = true => aC (gi (((r1.Players.length : Int) == (2 : Int)) == true)) <| aC (gidx_b he2 hg).1 <| aN) <| aG (((r1.Players.length : Int) == (2 : Int)) == true) <| aC (fun hg : (((r1.Players.length : Int) == (2 : Int)) == true) = true => aC (gi (((r1.Players.length : Int) == (2 : Int)) == true)) <| aC (eld (gd_t he2 hg) lenSPlayer 0 1 false (vI e2.Life)) <| aC (Eq.refl (vI e2.Life)) <| aN) <| aG (((r1.Players.length : Int) == (2 : Int)) == true) <| aT ((r1.Players.length : Int) == (2 : Int)) <| aB hb3 <| aG (b3 == true) <| aG (b3 == true) <| aT b3 <| aB hb4 <| aG (b4 == true) <| aG (b4 == true) <| aT b4 <| aB hb5 <| aC (c1 hr6 state_Is_ok) <| aT b5 <| aB hb7 <| aC (c2 hr8 state_Same_ok) <| aT b7 <| aB hb9 <| aC (c1 hr10 state_After_ok) <| aG (b9 == true) <| aT b9 <| aB hb11 <| aC (c1 hr12 state_Wins_ok) <| aG (b11 == true) <| aG (b11 == true) <| aT b11 <| aB hb13 <| aN) ?_
 refine Holds.ret ?_
 exact bQ (vB b13) (congrArg vB (sI h))
end Go.PL
