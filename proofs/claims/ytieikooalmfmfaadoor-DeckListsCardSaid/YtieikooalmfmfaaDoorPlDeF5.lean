/- Functions of the program, as partial functions in Lean, with proofs. -/
import Derived.Test.YtieikooalmfmfaaDoorPlDeB
import Derived.Test.YtieikooalmfmfaaDoorPlDeF0
import Derived.Test.YtieikooalmfmfaaDoorPlDeF2
import Derived.Test.YtieikooalmfmfaaDoorPlDeF4
namespace Go.PL
open Go Go.RowKit Go.Proofs
set_option maxRecDepth 100000
set_option linter.all false
set_option maxHeartbeats 1000000
attribute [local irreducible] Holds thenQ blockQ
/-- cardgame/cardgamelaw23.DeckLists -/
def law23_DeckLists (a0 : SDeck) : Option (Bool) :=
 (some (if (decide ((300 : Int) < (a0.Cards.length : Int))) = true then true else decide ((300 : Int) < (a0.Counts.length : Int)))).bind fun b1 =>
 (if b1 = true then
  (law23_alive).bind fun r3 =>
  some r3
 else
  (deck_Size a0).bind fun r4 =>
  (r23_Size a0).bind fun r5 =>
  (gd ((r4 == r5) == true) (deck_List a0)).bind fun r6 =>
  (gd ((r4 == r5) == true) (r23_List a0)).bind fun r7 =>
  (gd ((r4 == r5) == true) (r23_Ints r6 r7)).bind fun r8 =>
  (some (if (r4 == r5) = true then r8 else false)).bind fun b9 =>
  (gd (b9 == true) (law23_alive)).bind fun r10 =>
  (some (if b9 = true then r10 else false)).bind fun b11 =>
  some b11)
def law23_DeckLists_C (a0 : SDeck) (r : Bool) : Prop := PCall Tryd.prog I0 3 [vA encSDeck a0] (· = vB r)
theorem law23_DeckLists_ok {a0 : SDeck} {r : Bool} (h : law23_DeckLists a0 = some r) : law23_DeckLists_C a0 r := by
 refine PCall.body I0_stable (by kernel_rfl) Tryd.func3 rfl Tryd.ntmps3 (rs := [.tmp 2]) rfl rfl ?_
 intro w0 av old gv
 unfold law23_DeckLists at h
 refine Rg [.a, .a] (sl 29 [(1, vP [1] (0))] [bx [1] (encSDeck a0)]) (aN) ?_
 refine Holds.seq ?_
 obtain ⟨b1, hb1, h⟩ := bS h
 refine Rg [.a, .a, .a, .a, .a, .a, .a, .a, .a, (.v (vB b1))] (sl 29 [(1, vP [1] (0)), (12, vB b1)] [bx [1] (encSDeck a0)]) (aG ((decide ((300 : Int) < (a0.Cards.length : Int))) == false) <| aG ((decide ((300 : Int) < (a0.Cards.length : Int))) == false) <| aG ((decide ((300 : Int) < (a0.Cards.length : Int))) == false) <| aF (decide ((300 : Int) < (a0.Cards.length : Int))) <| aB hb1 <| aN) ?_
 refine iB h (fun b2 h => ?_) (fun b2 h => ?_)
 · obtain ⟨r3, hr3, h⟩ := bS h
   refine Rg [(.c (vB r3)), .a] (sl 29 [(2, vB r3)] []) (aC (law23_alive_ok hr3) <| aN) ?_
   refine Holds.ret ?_
   refine Tr ?_
   exact bQ (vB r3) (congrArg vB (sI h))
 · refine Holds.skip ?_
   refine Tn ?_
   refine Holds.seq ?_
   obtain ⟨r4, hr4, h⟩ := bS h
   obtain ⟨r5, hr5, h⟩ := bS h
   obtain ⟨r6, hr6, h⟩ := bS h
   obtain ⟨r7, hr7, h⟩ := bS h
   obtain ⟨r8, hr8, h⟩ := bS h
   obtain ⟨b9, hb9, h⟩ := bS h
   obtain ⟨r10, hr10, h⟩ := bS h
   obtain ⟨b11, hb11, h⟩ := bS h
   refine Holds.regN [0, 1, 4, 5, 7, 15, 31, 63, 127, 319, 383, 511, 1023, 2047, 4095, 8191, 16383, 32767, 65535, 255, 3] 65535 [.a, (.c (vI r4)), .a, (.c (vI r5)), .a, .a, .a, (.c (vL (eI .i64) r6)), .a, (.c (vL (eI .i64) r7)), (.c (vB r8)), (.v (vB b9)), .a, (.c (vB r10)), (.v (vB b11)), .a] [[1]] (fun n => ⟨[.undef, vP [1] (0), cond (Nat.testBit n 15) (vB b11) (.undef), .undef, .undef, .undef, .undef, .undef, .undef, .undef, .undef, .undef, vB b1, .undef, cond (Nat.testBit n 0) (vA encSDeck a0) (.undef), cond (Nat.testBit n 1) (vI r4) (.undef), cond (Nat.testBit n 2) (vA encSDeck a0) (.undef), cond (Nat.testBit n 3) (vI r5) (.undef), cond (Nat.testBit n 4) (vB (r4 == r5)) (.undef), cond (Nat.testBit n 5) (vB (r4 == r5)) (.undef), cond (Nat.testBit n 6) (.g ((r4 == r5) == true) (vA encSDeck a0)) (.undef), cond (Nat.testBit n 7) (.g ((r4 == r5) == true) (vL (eI .i64) r6)) (.undef), cond (Nat.testBit n 8) (.g ((r4 == r5) == true) (vA encSDeck a0)) (.undef), cond (Nat.testBit n 9) (.g ((r4 == r5) == true) (vL (eI .i64) r7)) (.undef), cond (Nat.testBit n 10) (.g ((r4 == r5) == true) (vB r8)) (.undef), cond (Nat.testBit n 11) (vB b9) (.undef), cond (Nat.testBit n 12) (vB b9) (.undef), cond (Nat.testBit n 13) (.g (b9 == true) (vB r10)) (.undef), cond (Nat.testBit n 14) (vB b11) (.undef)], List.filterMap id [some (bx [1] (encSDeck a0))], [], []⟩) [[], [deck_Size_C a0 r4], [], [r23_Size_C a0 r5], [], [], [], [((r4 == r5) == true) = true → andL [((r4 == r5) == true) = true → ((r4 == r5) == true) = true] ∧ deck_List_C a0 r6], [], [((r4 == r5) == true) = true → andL [((r4 == r5) == true) = true → ((r4 == r5) == true) = true] ∧ r23_List_C a0 r7], [((r4 == r5) == true) = true → andL [((r4 == r5) == true) = true → ((r4 == r5) == true) = true, ((r4 == r5) == true) = true → ((r4 == r5) == true) = true] ∧ r23_Ints_C r6 r7 r8], [(r4 == r5) = true → ((r4 == r5) == true) = true, (vB (if (r4 == r5) = true then r8 else false) : V) = vB b9], [], [(b9 == true) = true → andL [] ∧ law23_alive_C r10], [b9 = true → (b9 == true) = true, (vB (if b9 = true then r10 else false) : V) = vB b11], []] followsP (by kernel_rfl) (by kernel_rfl) (by decide) (Less.t (by kernel_rfl)) (by kernel_rfl) ⟨trivial, ⟨(deck_Size_ok hr4), trivial⟩, trivial, ⟨(r23_Size_ok hr5), trivial⟩, trivial, trivial, trivial, ⟨(fun hg => ⟨⟨id, trivial⟩, deck_List_ok (gd_t hr6 hg)⟩), trivial⟩, trivial, ⟨(fun hg => ⟨⟨id, trivial⟩, r23_List_ok (gd_t hr7 hg)⟩), trivial⟩, ⟨(fun hg => ⟨⟨id, id, trivial⟩, r23_Ints_ok (gd_t hr8 hg)⟩), trivial⟩, ⟨(fun q => (gT q)), (congrArg vB (sI hb9)), trivial⟩, trivial, ⟨(fun hg => ⟨trivial, law23_alive_ok (gd_t hr10 hg)⟩), trivial⟩, ⟨(fun q => (gT q)), (congrArg vB (sI hb11)), trivial⟩, trivial, trivial⟩ ?_
   refine Tn ?_
   refine Ls (sl 29 [(2, vB b11)] []) ?_
   refine Holds.ret ?_
   exact bQ (vB b11) (congrArg vB (sI h))
end Go.PL
