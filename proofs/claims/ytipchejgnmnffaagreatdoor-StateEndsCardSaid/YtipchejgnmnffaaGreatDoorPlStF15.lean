/- Functions of the program, as partial functions in Lean, with proofs. -/
import Derived.Test.YtipchejgnmnffaaGreatDoorPlStB
import Derived.Test.YtipchejgnmnffaaGreatDoorPlStF0
import Derived.Test.YtipchejgnmnffaaGreatDoorPlStF1
import Derived.Test.YtipchejgnmnffaaGreatDoorPlStF10
import Derived.Test.YtipchejgnmnffaaGreatDoorPlStF11
import Derived.Test.YtipchejgnmnffaaGreatDoorPlStF12
import Derived.Test.YtipchejgnmnffaaGreatDoorPlStF13
import Derived.Test.YtipchejgnmnffaaGreatDoorPlStF14
import Derived.Test.YtipchejgnmnffaaGreatDoorPlStF3
import Derived.Test.YtipchejgnmnffaaGreatDoorPlStF7
import Derived.Test.YtipchejgnmnffaaGreatDoorPlStF9
namespace Go.PL
open Go Go.RowKit Go.Proofs
set_option maxRecDepth 100000
set_option linter.all false
set_option maxHeartbeats 1000000
attribute [local irreducible] Holds thenQ blockQ
/-- cardgame/cardgamelaw26.StateEnds -/
def law26_StateEnds (a0 : SState) (a1 : Int) : Option (Bool) :=
 (law26_light ([] : List (SCard)) a0).bind fun r1 =>
 (if (!r1) = true then
  (law26_alive).bind fun r3 =>
  some r3
 else
  (state_Wins a0 a1).bind fun r4 =>
  (state_Draws a0).bind fun r5 =>
  (r26_Wins a0 a1).bind fun r6 =>
  (r26_Same r4 r6).bind fun r7 =>
  (gd ((!r7) == false) (r26_Draws a0)).bind fun r8 =>
  (gd ((!r7) == false) (r26_Same r5 r8)).bind fun r9 =>
  (some (if (!r7) = true then true else !r9)).bind fun b10 =>
  (if b10 = true then
   some false
  else
   (state_Wins r4 (0 : Int)).bind fun r12 =>
   (r26_Wins r4 (0 : Int)).bind fun r13 =>
   (r26_Same r12 r13).bind fun r14 =>
   (gd (r14 == true) (state_Draws r4)).bind fun r15 =>
   (gd (r14 == true) (r26_Draws r4)).bind fun r16 =>
   (gd (r14 == true) (r26_Same r15 r16)).bind fun r17 =>
   (some (if r14 = true then r17 else false)).bind fun b18 =>
   (some (if (a0.Over != (0 : Int)) = true then true else r5.Over == (2 : Int))).bind fun b19 =>
   (some (if b18 = true then b19 else false)).bind fun b20 =>
   (gd (b20 == true) (law26_alive)).bind fun r21 =>
   (some (if b20 = true then r21 else false)).bind fun b22 =>
   some b22))
def law26_StateEnds_C (a0 : SState) (a1 : Int) (r : Bool) : Prop := PCall Tryz.prog I0 7 [vA encSState a0, vI a1] (· = vB r)
theorem law26_StateEnds_ok {a0 : SState} {a1 : Int} {r : Bool} (h : law26_StateEnds a0 a1 = some r) : law26_StateEnds_C a0 a1 r := by
 refine PCall.body I0_stable (by kernel_rfl) Tryz.func7 rfl Tryz.ntmps7 (rs := [.tmp 4]) rfl rfl ?_
 intro w0 av old gv
 unfold law26_StateEnds at h
 refine Rg [.a, .a] (sl 54 [(1, vI a1), (2, vP [2] (0))] [bx [2] (encSState a0)]) (aN) ?_
 refine Holds.seq ?_
 obtain ⟨r1, hr1, h⟩ := bS h
 refine Rg [.a, (.c (vB r1)), .a] (sl 54 [(1, vI a1), (2, vP [2] (0)), (9, vB (!r1))] [bx [2] (encSState a0)]) (aC (law26_light_ok hr1) <| aN) ?_
 refine iB h (fun b2 h => ?_) (fun b2 h => ?_)
 · obtain ⟨r3, hr3, h⟩ := bS h
   refine Rg [(.c (vB r3)), .a] (sl 54 [(4, vB r3)] []) (aC (law26_alive_ok hr3) <| aN) ?_
   refine Holds.ret ?_
   refine Tr ?_
   exact bQ (vB r3) (congrArg vB (sI h))
 · refine Holds.skip ?_
   refine Tn ?_
   refine Holds.seq ?_
   obtain ⟨r4, hr4, h⟩ := bS h
   obtain ⟨r5, hr5, h⟩ := bS h
   refine Holds.regS followsP [[], [], [0, 1], [], [0, 1, 2, 3], [], [], [0, 1, 2, 3, 4, 5, 6], [0, 1, 2, 3, 4, 5, 6, 7]] [5, 6, 7, 8] [[false, false, false, false], [true, false, false, false], [false, true, false, false], [true, true, false, false], [true, true, true, false], [true, true, true, true]] [.a, .a, (.c (vA encSState r4)), .a, (.c (vA encSState r5)), .a, .a, .a, .a] [[5], [6], [2]] ⟨slD 54 0 [(1, [], vI a1), (2, [], vP [2] (0)), (5, [(5, vP [5] (0))], .undef), (6, [(6, vP [6] (0))], .undef), (9, [], vB (!r1)), (11, [(0, vA encSState a0)], .undef), (12, [(1, vI a1)], .undef), (13, [(2, vA encSState r4)], .undef), (14, [(3, vA encSState a0)], .undef), (15, [(4, vA encSState r5)], .undef)], [([(5, bx [5] [.nils, .nils, .nils, .nils, .nils, .nils, .nils, .int .i64 (0 : Int), .int .i64 (0 : Int), .int .i64 (0 : Int), .bool false, .int .i64 (0 : Int), .int .i64 (0 : Int), .int .i64 (0 : Int), .int .i64 (0 : Int), .int .u64 (0 : Int), .nils, .int .i64 (0 : Int), .int .i64 (0 : Int)]), (7, bx [5] (encSState r4))], none), ([(6, bx [6] [.nils, .nils, .nils, .nils, .nils, .nils, .nils, .int .i64 (0 : Int), .int .i64 (0 : Int), .int .i64 (0 : Int), .bool false, .int .i64 (0 : Int), .int .i64 (0 : Int), .int .i64 (0 : Int), .int .i64 (0 : Int), .int .u64 (0 : Int), .nils, .int .i64 (0 : Int), .int .i64 (0 : Int)]), (8, bx [6] (encSState r5))], none), ([], some (bx [2] (encSState a0)))], [], []⟩ _ (bC (aN) <| bC (aN) <| bC (aC (state_Wins_ok hr4) <| aN) <| bC (aN) <| bC (aC (state_Draws_ok hr5) <| aN) <| bC (aN) <| bC (aN) <| bC (aN) <| bC (aN) <| bN) ?_
   refine Tn ?_
   refine Ls (sl 54 [(1, vI a1), (2, vP [2] (0)), (5, vP [5] (0)), (6, vP [6] (0))] [bx [5] (encSState r4), bx [6] (encSState r5), bx [2] (encSState a0)]) ?_
   refine Holds.seq ?_
   refine Holds.seq ?_
   obtain ⟨r6, hr6, h⟩ := bS h
   obtain ⟨r7, hr7, h⟩ := bS h
   obtain ⟨r8, hr8, h⟩ := bS h
   obtain ⟨r9, hr9, h⟩ := bS h
   obtain ⟨b10, hb10, h⟩ := bS h
   refine Holds.regN [0, 1, 2, 4, 5, 6, 7, 14, 15, 31, 63, 127, 255, 383, 511, 895, 1023, 2047, 4095, 8191, 3] 8191 [.a, .a, .a, (.c (vA encSState r6)), (.c (vB r7)), .a, .a, .a, .a, (.c (vA encSState r8)), (.c (vB r9)), .a, (.v (vB b10))] [[5], [6], [2]] (fun n => ⟨[.undef, vI a1, vP [2] (0), .undef, .undef, vP [5] (0), vP [6] (0), .undef, .undef, .undef, .undef, .undef, .undef, .undef, .undef, .undef, cond (Nat.testBit n 0) (vA encSState r4) (.undef), cond (Nat.testBit n 1) (vA encSState a0) (.undef), cond (Nat.testBit n 2) (vI a1) (.undef), cond (Nat.testBit n 3) (vA encSState r6) (.undef), cond (Nat.testBit n 4) (vB r7) (.undef), cond (Nat.testBit n 5) (vB (!r7)) (.undef), cond (Nat.testBit n 6) (vB (!r7)) (.undef), cond (Nat.testBit n 7) (.g ((!r7) == false) (vA encSState r5)) (.undef), cond (Nat.testBit n 8) (.g ((!r7) == false) (vA encSState a0)) (.undef), cond (Nat.testBit n 9) (.g ((!r7) == false) (vA encSState r8)) (.undef), cond (Nat.testBit n 10) (.g ((!r7) == false) (vB r9)) (.undef), cond (Nat.testBit n 11) (.g ((!r7) == false) (vB (!r9))) (.undef), cond (Nat.testBit n 12) (vB b10) (.undef), .undef, .undef, .undef, .undef, .undef, .undef, .undef, .undef, .undef, .undef, .undef, .undef, .undef, .undef, .undef, .undef, .undef, .undef, .undef, .undef, .undef, .undef, .undef, .undef, .undef], List.filterMap id [some (bx [5] (encSState r4)), some (bx [6] (encSState r5)), some (bx [2] (encSState a0))], [], []⟩) [[], [], [], [r26_Wins_C a0 a1 r6], [r26_Same_C r4 r6 r7], [], [], [], [], [((!r7) == false) = true → andL [((!r7) == false) = true → ((!r7) == false) = true] ∧ r26_Draws_C a0 r8], [((!r7) == false) = true → andL [((!r7) == false) = true → ((!r7) == false) = true, ((!r7) == false) = true → ((!r7) == false) = true] ∧ r26_Same_C r5 r8 r9], [((!r7) == false) = true → andL [((!r7) == false) = true → ((!r7) == false) = true]], [(!r7) = false → ((!r7) == false) = true, (vB (if (!r7) = true then true else !r9) : V) = vB b10]] followsP (by kernel_rfl) (by kernel_rfl) (by decide) (Less.t (by kernel_rfl)) (by kernel_rfl) ⟨trivial, trivial, trivial, ⟨(r26_Wins_ok hr6), trivial⟩, ⟨(r26_Same_ok hr7), trivial⟩, trivial, trivial, trivial, trivial, ⟨(fun hg => ⟨⟨id, trivial⟩, r26_Draws_ok (gd_t hr8 hg)⟩), trivial⟩, ⟨(fun hg => ⟨⟨id, id, trivial⟩, r26_Same_ok (gd_t hr9 hg)⟩), trivial⟩, ⟨(fun hg => ⟨id, trivial⟩), trivial⟩, ⟨(fun q => (gF q)), (congrArg vB (sI hb10)), trivial⟩, trivial⟩ ?_
   refine Tn ?_
   refine Ls (sl 54 [(2, vP [2] (0)), (5, vP [5] (0)), (6, vP [6] (0)), (28, vB b10)] [bx [5] (encSState r4), bx [6] (encSState r5), bx [2] (encSState a0)]) ?_
   refine iB h (fun b11 h => ?_) (fun b11 h => ?_)
   · refine Rg [.a] (sl 54 [(4, vB false)] []) (aN) ?_
     refine Holds.ret ?_
     refine Tr ?_
     exact bQ (vB false) (congrArg vB (sI h))
   · refine Holds.skip ?_
     refine Tn ?_
     refine Holds.seq ?_
     obtain ⟨r12, hr12, h⟩ := bS h
     obtain ⟨r13, hr13, h⟩ := bS h
     obtain ⟨r14, hr14, h⟩ := bS h
     obtain ⟨r15, hr15, h⟩ := bS h
     obtain ⟨r16, hr16, h⟩ := bS h
     obtain ⟨r17, hr17, h⟩ := bS h
     obtain ⟨b18, hb18, h⟩ := bS h
     obtain ⟨b19, hb19, h⟩ := bS h
     obtain ⟨b20, hb20, h⟩ := bS h
     obtain ⟨r21, hr21, h⟩ := bS h
     obtain ⟨b22, hb22, h⟩ := bS h
     refine Holds.regN [0, 1, 4, 5, 7, 15, 31, 63, 127, 319, 383, 511, 1023, 2047, 4095, 8191, 16383, 32767, 65535, 131071, 262143, 524287, 1048575, 2097151, 4194303, 8388607, 16777215, 33554431, 67108863, 255, 3] 67108863 [.a, (.c (vA encSState r12)), .a, (.c (vA encSState r13)), (.c (vB r14)), .a, .a, (.c (vA encSState r15)), .a, (.c (vA encSState r16)), (.c (vB r17)), (.v (vB b18)), .a, .a, .a, .a, .a, .a, .a, .a, (.v (vB b19)), (.v (vB b20)), .a, (.c (vB r21)), (.v (vB b22)), .a] [[5], [6], [2]] (fun n => ⟨[.undef, .undef, vP [2] (0), .undef, cond (Nat.testBit n 25) (vB b22) (.undef), vP [5] (0), vP [6] (0), .undef, .undef, .undef, .undef, .undef, .undef, .undef, .undef, .undef, .undef, .undef, .undef, .undef, .undef, .undef, .undef, .undef, .undef, .undef, .undef, .undef, vB b10, cond (Nat.testBit n 0) (vA encSState r4) (.undef), cond (Nat.testBit n 1) (vA encSState r12) (.undef), cond (Nat.testBit n 2) (vA encSState r4) (.undef), cond (Nat.testBit n 3) (vA encSState r13) (.undef), cond (Nat.testBit n 4) (vB r14) (.undef), cond (Nat.testBit n 5) (vB r14) (.undef), cond (Nat.testBit n 6) (.g (r14 == true) (vA encSState r4)) (.undef), cond (Nat.testBit n 7) (.g (r14 == true) (vA encSState r15)) (.undef), cond (Nat.testBit n 8) (.g (r14 == true) (vA encSState r4)) (.undef), cond (Nat.testBit n 9) (.g (r14 == true) (vA encSState r16)) (.undef), cond (Nat.testBit n 10) (.g (r14 == true) (vB r17)) (.undef), cond (Nat.testBit n 11) (vB b18) (.undef), cond (Nat.testBit n 12) (vB b18) (.undef), cond (Nat.testBit n 13) (.g (b18 == true) (vP [2] (17))) (.undef), cond (Nat.testBit n 14) (.g (b18 == true) (vI a0.Over)) (.undef), cond (Nat.testBit n 15) (.g (b18 == true) (vB (a0.Over != (0 : Int)))) (.undef), cond (Nat.testBit n 16) (.g (b18 == true) (vB (a0.Over != (0 : Int)))) (.undef), cond (Nat.testBit n 17) (.g ((b18 == true) && ((a0.Over != (0 : Int)) == false)) (vP [6] (17))) (.undef), cond (Nat.testBit n 18) (.g ((b18 == true) && ((a0.Over != (0 : Int)) == false)) (vI r5.Over)) (.undef), cond (Nat.testBit n 19) (.g ((b18 == true) && ((a0.Over != (0 : Int)) == false)) (vB (r5.Over == (2 : Int)))) (.undef), cond (Nat.testBit n 20) (.g (b18 == true) (vB b19)) (.undef), cond (Nat.testBit n 21) (vB b20) (.undef), cond (Nat.testBit n 22) (vB b20) (.undef), cond (Nat.testBit n 23) (.g (b20 == true) (vB r21)) (.undef), cond (Nat.testBit n 24) (vB b22) (.undef)], List.filterMap id [some (bx [5] (encSState r4)), some (bx [6] (encSState r5)), some (bx [2] (encSState a0))], [], []⟩) [[], [state_Wins_C r4 (0 : Int) r12], [], [r26_Wins_C r4 (0 : Int) r13], [r26_Same_C r12 r13 r14], [], [], [(r14 == true) = true → andL [(r14 == true) = true → (r14 == true) = true] ∧ state_Draws_C r4 r15], [], [(r14 == true) = true → andL [(r14 == true) = true → (r14 == true) = true] ∧ r26_Draws_C r4 r16], [(r14 == true) = true → andL [(r14 == true) = true → (r14 == true) = true, (r14 == true) = true → (r14 == true) = true] ∧ r26_Same_C r15 r16 r17], [r14 = true → (r14 == true) = true, (vB (if r14 = true then r17 else false) : V) = vB b18], [], [], [(b18 == true) = true → andL [(b18 == true) = true → (b18 == true) = true]], [(b18 == true) = true → andL [(b18 == true) = true → (b18 == true) = true]], [(b18 == true) = true → andL [(b18 == true) = true → (b18 == true) = true]], [], [((b18 == true) && ((a0.Over != (0 : Int)) == false)) = true → andL [((b18 == true) && ((a0.Over != (0 : Int)) == false)) = true → ((b18 == true) && ((a0.Over != (0 : Int)) == false)) = true]], [((b18 == true) && ((a0.Over != (0 : Int)) == false)) = true → andL [((b18 == true) && ((a0.Over != (0 : Int)) == false)) = true → ((b18 == true) && ((a0.Over != (0 : Int)) == false)) = true]], [(b18 == true) = true → andL [(b18 == true) = true → (b18 == true) = true, (a0.Over != (0 : Int)) = false → ((b18 == true) && ((a0.Over != (0 : Int)) == false)) = true, (vB (if (a0.Over != (0 : Int)) = true then true else r5.Over == (2 : Int)) : V) = vB b19]], [b18 = true → (b18 == true) = true, (vB (if b18 = true then b19 else false) : V) = vB b20], [], [(b20 == true) = true → andL [] ∧ law26_alive_C r21], [b20 = true → (b20 == true) = true, (vB (if b20 = true then r21 else false) : V) = vB b22], []] followsP (by kernel_rfl) (by kernel_rfl) (by decide) (Less.t (by kernel_rfl)) (by kernel_rfl) ⟨trivial, ⟨(state_Wins_ok hr12), trivial⟩, trivial, ⟨(r26_Wins_ok hr13), trivial⟩, ⟨(r26_Same_ok hr14), trivial⟩, trivial, trivial, ⟨(fun hg => ⟨⟨id, trivial⟩, state_Draws_ok (gd_t hr15 hg)⟩), trivial⟩, trivial, ⟨(fun hg => ⟨⟨id, trivial⟩, r26_Draws_ok (gd_t hr16 hg)⟩), trivial⟩, ⟨(fun hg => ⟨⟨id, id, trivial⟩, r26_Same_ok (gd_t hr17 hg)⟩), trivial⟩, ⟨(fun q => (gT q)), (congrArg vB (sI hb18)), trivial⟩, trivial, trivial, ⟨(fun hg => ⟨id, trivial⟩), trivial⟩, ⟨(fun hg => ⟨id, trivial⟩), trivial⟩, ⟨(fun hg => ⟨id, trivial⟩), trivial⟩, trivial, ⟨(fun hg => ⟨id, trivial⟩), trivial⟩, ⟨(fun hg => ⟨id, trivial⟩), trivial⟩, ⟨(fun hg => ⟨id, (fun q => (gA hg (gF q))), (congrArg vB (sI hb19)), trivial⟩), trivial⟩, ⟨(fun q => (gT q)), (congrArg vB (sI hb20)), trivial⟩, trivial, ⟨(fun hg => ⟨trivial, law26_alive_ok (gd_t hr21 hg)⟩), trivial⟩, ⟨(fun q => (gT q)), (congrArg vB (sI hb22)), trivial⟩, trivial, trivial⟩ ?_
     refine Tn ?_
     refine Ls (sl 54 [(4, vB b22)] []) ?_
     refine Holds.ret ?_
     exact bQ (vB b22) (congrArg vB (sI h))
end Go.PL
