/- Functions of the program, as partial functions in Lean, with proofs. -/
import Derived.Test.YtipchejgnmnffaaGreatDoorPlStB
import Derived.Test.YtipchejgnmnffaaGreatDoorPlStF0
import Derived.Test.YtipchejgnmnffaaGreatDoorPlStF1
import Derived.Test.YtipchejgnmnffaaGreatDoorPlStF10
import Derived.Test.YtipchejgnmnffaaGreatDoorPlStF11
import Derived.Test.YtipchejgnmnffaaGreatDoorPlStF12
import Derived.Test.YtipchejgnmnffaaGreatDoorPlStF13
import Derived.Test.YtipchejgnmnffaaGreatDoorPlStF14
import Derived.Test.YtipchejgnmnffaaGreatDoorPlStF3
import Derived.Test.YtipchejgnmnffaaGreatDoorPlStF7
import Derived.Test.YtipchejgnmnffaaGreatDoorPlStF9
namespace Go.PL
open Go Go.RowKit Go.Proofs
set_option maxRecDepth 100000
set_option linter.all false
set_option maxHeartbeats 1000000
attribute [local irreducible] Holds thenQ blockQ
/-- cardgame/cardgamelaw26.StateNew -/
def law26_StateNew (a0 : List (SCard)) (a1 : A2 (Int)) (a2 : Int) : Option (Bool) :=
 (idx a1.l (0 : Int)).bind fun e1 =>
 (idx a1.l (1 : Int)).bind fun e2 =>
 (if (decide ((40 : Int) < (a0.length : Int))) = true then
  (law26_alive).bind fun r4 =>
  some r4
 else
  (state_New e1 e2 a2).bind fun r5 =>
  (r26_New e1 e2 a2).bind fun r6 =>
  (r26_Same r5 r6).bind fun r7 =>
  (gd (r7 == true) (state_Is a0 r5)).bind fun r8 =>
  (some (if r7 = true then r8 else false)).bind fun b9 =>
  (gd (b9 == true) (r26_Is a0 r5)).bind fun r10 =>
  (some (if b9 = true then r10 else false)).bind fun b11 =>
  (gd (b11 == true) (law26_alive)).bind fun r12 =>
  (some (if b11 = true then r12 else false)).bind fun b13 =>
  some b13)
def law26_StateNew_C (a0 : List (SCard)) (a1 : A2 (Int)) (a2 : Int) (r : Bool) : Prop := PCall Tryz.prog I0 3 [vL encSCard a0, vA (eA2 (eI .i64)) a1, .c (.int .u64 a2)] (· = vB r)
theorem law26_StateNew_ok {a0 : List (SCard)} {a1 : A2 (Int)} {a2 : Int} {r : Bool} (h : law26_StateNew a0 a1 a2 = some r) : law26_StateNew_C a0 a1 a2 r := by
 refine PCall.body I0_stable (by kernel_rfl) Tryz.func3 rfl Tryz.ntmps3 (rs := [.tmp 6]) rfl rfl ?_
 intro w0 av old gv
 unfold law26_StateNew at h
 refine Rg [.a, .a] (sl 41 [(0, vL encSCard a0), (2, .c (.int .u64 a2)), (4, vP [4] (0))] [bx [4] (eA2 (eI .i64) a1)]) (aN) ?_
 obtain ⟨e1, he1, h⟩ := bS h
 obtain ⟨e2, he2, h⟩ := bS h
 refine Rq followsP [.a, (.v (vI e1)), .a, (.v (vI e2)), .a, .a] (sl 41 [(0, vL encSCard a0), (2, .c (.int .u64 a2)), (7, vI e1), (8, vI e2)] []) (aC (idx_b he1) <| aC (ald he1 (lenI .i64) (eA2 (eI .i64) a1) 0 2 0 1 false (vI e1)) <| aC (Eq.refl (vI e1)) <| aC (idx_b he2) <| aC (ald he2 (lenI .i64) (eA2 (eI .i64) a1) 0 2 0 1 false (vI e2)) <| aC (Eq.refl (vI e2)) <| aN) ?_
 refine Holds.seq ?_
 refine Rg [.a, .a, .a] (sl 41 [(0, vL encSCard a0), (2, .c (.int .u64 a2)), (7, vI e1), (8, vI e2), (16, vB (decide ((40 : Int) < (a0.length : Int))))] []) (aN) ?_
 refine iB h (fun b3 h => ?_) (fun b3 h => ?_)
 · obtain ⟨r4, hr4, h⟩ := bS h
   refine Rg [(.c (vB r4)), .a] (sl 41 [(6, vB r4)] []) (aC (law26_alive_ok hr4) <| aN) ?_
   refine Holds.ret ?_
   refine Tr ?_
   exact bQ (vB r4) (congrArg vB (sI h))
 · refine Holds.skip ?_
   refine Tn ?_
   obtain ⟨r5, hr5, h⟩ := bS h
   refine Rg [.a, .a, .a, (.c (vA encSState r5)), .a, .a] (sl 41 [(0, vL encSCard a0), (2, .c (.int .u64 a2)), (7, vI e1), (8, vI e2), (9, vP [9] (0))] [bx [9] (encSState r5)]) (aC (state_New_ok hr5) <| aN) ?_
   refine Holds.seq ?_
   obtain ⟨r6, hr6, h⟩ := bS h
   obtain ⟨r7, hr7, h⟩ := bS h
   obtain ⟨r8, hr8, h⟩ := bS h
   obtain ⟨b9, hb9, h⟩ := bS h
   obtain ⟨r10, hr10, h⟩ := bS h
   obtain ⟨b11, hb11, h⟩ := bS h
   obtain ⟨r12, hr12, h⟩ := bS h
   obtain ⟨b13, hb13, h⟩ := bS h
   refine Holds.regN [0, 1, 2, 4, 8, 9, 10, 12, 13, 14, 15, 30, 31, 63, 127, 255, 383, 511, 1023, 2047, 4095, 8191, 12287, 16383, 32767, 65535, 131071, 262143, 524287, 1048575, 11, 5, 6, 7, 3] 1048575 [.a, .a, .a, .a, (.c (vA encSState r6)), (.c (vB r7)), .a, .a, .a, (.c (vB r8)), (.v (vB b9)), .a, .a, .a, (.c (vB r10)), (.v (vB b11)), .a, (.c (vB r12)), (.v (vB b13)), .a] [[9]] (fun n => ⟨[vL encSCard a0, .undef, .c (.int .u64 a2), .undef, .undef, .undef, cond (Nat.testBit n 19) (vB b13) (.undef), vI e1, vI e2, vP [9] (0), .undef, .undef, .undef, .undef, .undef, .undef, .undef, .undef, .undef, .undef, .undef, .undef, cond (Nat.testBit n 0) (vA encSState r5) (.undef), cond (Nat.testBit n 1) (vI e1) (.undef), cond (Nat.testBit n 2) (vI e2) (.undef), cond (Nat.testBit n 3) (.c (.int .u64 a2)) (.undef), cond (Nat.testBit n 4) (vA encSState r6) (.undef), cond (Nat.testBit n 5) (vB r7) (.undef), cond (Nat.testBit n 6) (vB r7) (.undef), cond (Nat.testBit n 7) (.g (r7 == true) (vL encSCard a0)) (.undef), cond (Nat.testBit n 8) (.g (r7 == true) (vA encSState r5)) (.undef), cond (Nat.testBit n 9) (.g (r7 == true) (vB r8)) (.undef), cond (Nat.testBit n 10) (vB b9) (.undef), cond (Nat.testBit n 11) (vB b9) (.undef), cond (Nat.testBit n 12) (.g (b9 == true) (vL encSCard a0)) (.undef), cond (Nat.testBit n 13) (.g (b9 == true) (vA encSState r5)) (.undef), cond (Nat.testBit n 14) (.g (b9 == true) (vB r10)) (.undef), cond (Nat.testBit n 15) (vB b11) (.undef), cond (Nat.testBit n 16) (vB b11) (.undef), cond (Nat.testBit n 17) (.g (b11 == true) (vB r12)) (.undef), cond (Nat.testBit n 18) (vB b13) (.undef)], List.filterMap id [some (bx [9] (encSState r5))], [], []⟩) [[], [], [], [], [r26_New_C e1 e2 a2 r6], [r26_Same_C r5 r6 r7], [], [], [], [(r7 == true) = true → andL [(r7 == true) = true → (r7 == true) = true, (r7 == true) = true → (r7 == true) = true] ∧ state_Is_C a0 r5 r8], [r7 = true → (r7 == true) = true, (vB (if r7 = true then r8 else false) : V) = vB b9], [], [], [], [(b9 == true) = true → andL [(b9 == true) = true → (b9 == true) = true, (b9 == true) = true → (b9 == true) = true] ∧ r26_Is_C a0 r5 r10], [b9 = true → (b9 == true) = true, (vB (if b9 = true then r10 else false) : V) = vB b11], [], [(b11 == true) = true → andL [] ∧ law26_alive_C r12], [b11 = true → (b11 == true) = true, (vB (if b11 = true then r12 else false) : V) = vB b13], []] followsP (by kernel_rfl) (by kernel_rfl) (by decide) (Less.t (by kernel_rfl)) (by kernel_rfl) ⟨trivial, trivial, trivial, trivial, ⟨(r26_New_ok hr6), trivial⟩, ⟨(r26_Same_ok hr7), trivial⟩, trivial, trivial, trivial, ⟨(fun hg => ⟨⟨id, id, trivial⟩, state_Is_ok (gd_t hr8 hg)⟩), trivial⟩, ⟨(fun q => (gT q)), (congrArg vB (sI hb9)), trivial⟩, trivial, trivial, trivial, ⟨(fun hg => ⟨⟨id, id, trivial⟩, r26_Is_ok (gd_t hr10 hg)⟩), trivial⟩, ⟨(fun q => (gT q)), (congrArg vB (sI hb11)), trivial⟩, trivial, ⟨(fun hg => ⟨trivial, law26_alive_ok (gd_t hr12 hg)⟩), trivial⟩, ⟨(fun q => (gT q)), (congrArg vB (sI hb13)), trivial⟩, trivial, trivial⟩ ?_
   refine Tn ?_
   refine Ls (sl 41 [(6, vB b13)] []) ?_
   refine Holds.ret ?_
   exact bQ (vB b13) (congrArg vB (sI h))
end Go.PL
