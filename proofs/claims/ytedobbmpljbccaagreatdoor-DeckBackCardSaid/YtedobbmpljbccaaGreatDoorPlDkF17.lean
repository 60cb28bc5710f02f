/- Functions of the program, as partial functions in Lean, with proofs. -/
import Derived.Test.YtedobbmpljbccaaGreatDoorPlDkB
import Derived.Test.YtedobbmpljbccaaGreatDoorPlDkF1
import Derived.Test.YtedobbmpljbccaaGreatDoorPlDkF16
import Derived.Test.YtedobbmpljbccaaGreatDoorPlDkF2
import Derived.Test.YtedobbmpljbccaaGreatDoorPlDkF3
import Derived.Test.YtedobbmpljbccaaGreatDoorPlDkF4
import Derived.Test.YtedobbmpljbccaaGreatDoorPlDkF6
namespace Go.PL
open Go Go.RowKit Go.Proofs
set_option maxRecDepth 100000
set_option linter.all false
set_option maxHeartbeats 1000000
attribute [local irreducible] Holds thenQ blockQ
/-- cardgame/cardgamelaw23.DeckBack -/
def law23_DeckBack (a0 : SAsk) : Option (Bool) :=
 (law23_small a0).bind fun r1 =>
 (if (!r1) = true then
  (law23_alive).bind fun r3 =>
  some r3
 else
  (deck_Text a0.Cards a0.Deck).bind fun r4 =>
  (some (if (r4 == ([] : List UInt8)) = true then decide ((0 : Int) < (a0.Deck.Cards.length : Int)) else false)).bind fun b5 =>
  (if b5 = true then
   (deck_Check a0.Cards a0.Deck a0.Format).bind fun r7 =>
   (gd ((r7 == (1 : Int)) == true) (law23_alive)).bind fun r8 =>
   (some (if (r7 == (1 : Int)) = true then r8 else false)).bind fun b9 =>
   some b9
  else
   (r23_Formed a0.Cards a0.Deck).bind fun r10 =>
   (if (!r10) = true then
    (gd ((r4 == ([] : List UInt8)) == true) (law23_alive)).bind fun r12 =>
    (some (if (r4 == ([] : List UInt8)) = true then r12 else false)).bind fun b13 =>
    some b13
   else
    (deck_Parse a0.Cards r4).bind fun r14 =>
    (gd ((r14.2 == (0 : Int)) == true) (r23_Same r14.1 a0.Deck)).bind fun r15 =>
    (some (if (r14.2 == (0 : Int)) = true then r15 else false)).bind fun b16 =>
    (gd (b16 == true) (law23_alive)).bind fun r17 =>
    (some (if b16 = true then r17 else false)).bind fun b18 =>
    some b18)))
def law23_DeckBack_C (a0 : SAsk) (r : Bool) : Prop := PCall Tryz.prog I0 5 [vA encSAsk a0] (· = vB r)
theorem law23_DeckBack_ok {a0 : SAsk} {r : Bool} (h : law23_DeckBack a0 = some r) : law23_DeckBack_C a0 r := by
 refine PCall.body I0_stable (by kernel_rfl) Tryz.func5 rfl Tryz.ntmps5 (rs := [.tmp 2]) rfl rfl ?_
 intro w0 av old gv
 unfold law23_DeckBack at h
 refine Rg [.a, .a] (sl 64 [(1, vP [1] (0))] [bx [1] (encSAsk a0)]) (aN) ?_
 refine Holds.seq ?_
 obtain ⟨r1, hr1, h⟩ := bS h
 refine Rg [.a, (.c (vB r1)), .a] (sl 64 [(1, vP [1] (0)), (8, vB (!r1))] [bx [1] (encSAsk a0)]) (aC (law23_small_ok hr1) <| aN) ?_
 refine iB h (fun b2 h => ?_) (fun b2 h => ?_)
 · obtain ⟨r3, hr3, h⟩ := bS h
   refine Rg [(.c (vB r3)), .a] (sl 64 [(2, vB r3)] []) (aC (law23_alive_ok hr3) <| aN) ?_
   refine Holds.ret ?_
   refine Tr ?_
   exact bQ (vB r3) (congrArg vB (sI h))
 · refine Holds.skip ?_
   refine Tn ?_
   obtain ⟨r4, hr4, h⟩ := bS h
   refine Rg [.a, .a, .a, .a, (.c (vS r4)), .a] (sl 64 [(1, vP [1] (0)), (3, vS r4)] [bx [1] (encSAsk a0)]) (aC (deck_Text_ok hr4) <| aN) ?_
   refine Holds.seq ?_
   obtain ⟨b5, hb5, h⟩ := bS h
   refine Rg [.a, .a, .a, .a, .a, .a, .a, .a, (.v (vB b5))] (sl 64 [(1, vP [1] (0)), (3, vS r4), (23, vB b5)] [bx [1] (encSAsk a0)]) (aG ((r4 == ([] : List UInt8)) == true) <| aG ((r4 == ([] : List UInt8)) == true) <| aG ((r4 == ([] : List UInt8)) == true) <| aG ((r4 == ([] : List UInt8)) == true) <| aT (r4 == ([] : List UInt8)) <| aB hb5 <| aN) ?_
   refine iB h (fun b6 h => ?_) (fun b6 h => ?_)
   · obtain ⟨r7, hr7, h⟩ := bS h
     obtain ⟨r8, hr8, h⟩ := bS h
     obtain ⟨b9, hb9, h⟩ := bS h
     refine Rg [.a, .a, .a, .a, .a, .a, (.c (vI r7)), .a, .a, (.c (vB r8)), (.v (vB b9)), .a] (sl 64 [(2, vB b9)] []) (aC (deck_Check_ok hr7) <| aC (c0 hr8 law23_alive_ok) <| aT (r7 == (1 : Int)) <| aB hb9 <| aN) ?_
     refine Holds.ret ?_
     refine Tr ?_
     exact bQ (vB b9) (congrArg vB (sI h))
   · refine Holds.skip ?_
     refine Tn ?_
     refine Holds.seq ?_
     obtain ⟨r10, hr10, h⟩ := bS h
     refine Rg [.a, .a, .a, .a, (.c (vB r10)), .a] (sl 64 [(1, vP [1] (0)), (3, vS r4), (40, vB (!r10))] [bx [1] (encSAsk a0)]) (aC (r23_Formed_ok hr10) <| aN) ?_
     refine iB h (fun b11 h => ?_) (fun b11 h => ?_)
     · obtain ⟨r12, hr12, h⟩ := bS h
       obtain ⟨b13, hb13, h⟩ := bS h
       refine Rg [.a, .a, .a, (.c (vB r12)), (.v (vB b13)), .a] (sl 64 [(2, vB b13)] []) (aC (c0 hr12 law23_alive_ok) <| aT (r4 == ([] : List UInt8)) <| aB hb13 <| aN) ?_
       refine Holds.ret ?_
       refine Tr ?_
       exact bQ (vB b13) (congrArg vB (sI h))
     · refine Holds.skip ?_
       refine Tn ?_
       obtain ⟨r14, hr14, h⟩ := bS h
       refine Rg [.a, .a, .a, (.c (.tup [vA encSDeck r14.1, vI r14.2])), .a, .a, .a, .a, .a, .a] (sl 64 [(1, vP [1] (0)), (4, vP [4] (0)), (5, vI r14.2)] [bx [4] (encSDeck r14.1), bx [1] (encSAsk a0)]) (aC (deck_Parse_ok hr14) <| aC (show True ∧ 0 < [V.undef, V.undef].length from ⟨trivial, (by decide)⟩) <| aC (show True ∧ 1 < [V.undef, V.undef].length from ⟨trivial, (by decide)⟩) <| aN) ?_
       obtain ⟨r15, hr15, h⟩ := bS h
       obtain ⟨b16, hb16, h⟩ := bS h
       obtain ⟨r17, hr17, h⟩ := bS h
       obtain ⟨b18, hb18, h⟩ := bS h
       refine Rg [.a, .a, .a, .a, .a, .a, (.c (vB r15)), (.v (vB b16)), .a, (.c (vB r17)), (.v (vB b18)), .a] (sl 64 [(2, vB b18)] []) (aG ((r14.2 == (0 : Int)) == true) <| aC (c2 hr15 r23_Same_ok) <| aT (r14.2 == (0 : Int)) <| aB hb16 <| aC (c0 hr17 law23_alive_ok) <| aT b16 <| aB hb18 <| aN) ?_
       refine Holds.ret ?_
       exact bQ (vB b18) (congrArg vB (sI h))
end Go.PL
