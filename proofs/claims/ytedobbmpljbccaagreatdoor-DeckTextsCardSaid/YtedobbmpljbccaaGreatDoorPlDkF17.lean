/- Functions of the program, as partial functions in Lean, with proofs. -/
import Derived.Test.YtedobbmpljbccaaGreatDoorPlDkB
import Derived.Test.YtedobbmpljbccaaGreatDoorPlDkF1
import Derived.Test.YtedobbmpljbccaaGreatDoorPlDkF16
import Derived.Test.YtedobbmpljbccaaGreatDoorPlDkF2
import Derived.Test.YtedobbmpljbccaaGreatDoorPlDkF3
import Derived.Test.YtedobbmpljbccaaGreatDoorPlDkF4
import Derived.Test.YtedobbmpljbccaaGreatDoorPlDkF6
namespace Go.PL
open Go Go.RowKit Go.Proofs
set_option maxRecDepth 100000
set_option linter.all false
set_option maxHeartbeats 1000000
attribute [local irreducible] Holds thenQ blockQ
/-- cardgame/cardgamelaw23.DeckTexts -/
def law23_DeckTexts (a0 : SAsk) : Option (Bool) :=
 (law23_small a0).bind fun r1 =>
 (if (!r1) = true then
  (law23_alive).bind fun r3 =>
  some r3
 else
  (deck_Text a0.Cards a0.Deck).bind fun r4 =>
  (r23_Text a0.Cards a0.Deck).bind fun r5 =>
  (gd ((r4 == r5) == true) (law23_alive)).bind fun r6 =>
  (some (if (r4 == r5) = true then r6 else false)).bind fun b7 =>
  some b7)
def law23_DeckTexts_C (a0 : SAsk) (r : Bool) : Prop := PCall Tryz.prog I0 4 [vA encSAsk a0] (· = vB r)
theorem law23_DeckTexts_ok {a0 : SAsk} {r : Bool} (h : law23_DeckTexts a0 = some r) : law23_DeckTexts_C a0 r := by
 refine PCall.body I0_stable (by kernel_rfl) Tryz.func4 rfl Tryz.ntmps4 (rs := [.tmp 2]) rfl rfl ?_
 intro w0 av old gv
 unfold law23_DeckTexts at h
 refine Rg [.a, .a] (sl 21 [(1, vP [1] (0))] [bx [1] (encSAsk a0)]) (aN) ?_
 refine Holds.seq ?_
 obtain ⟨r1, hr1, h⟩ := bS h
 refine Rg [.a, (.c (vB r1)), .a] (sl 21 [(1, vP [1] (0)), (5, vB (!r1))] [bx [1] (encSAsk a0)]) (aC (law23_small_ok hr1) <| aN) ?_
 refine iB h (fun b2 h => ?_) (fun b2 h => ?_)
 · obtain ⟨r3, hr3, h⟩ := bS h
   refine Rg [(.c (vB r3)), .a] (sl 21 [(2, vB r3)] []) (aC (law23_alive_ok hr3) <| aN) ?_
   refine Holds.ret ?_
   refine Tr ?_
   exact bQ (vB r3) (congrArg vB (sI h))
 · refine Holds.skip ?_
   refine Tn ?_
   obtain ⟨r4, hr4, h⟩ := bS h
   obtain ⟨r5, hr5, h⟩ := bS h
   obtain ⟨r6, hr6, h⟩ := bS h
   obtain ⟨b7, hb7, h⟩ := bS h
   refine Rq followsP [.a, .a, .a, .a, (.c (vS r4)), .a, .a, .a, .a, (.c (vS r5)), .a, .a, (.c (vB r6)), (.v (vB b7)), .a] (sl 21 [(2, vB b7)] []) (aC (deck_Text_ok hr4) <| aC (r23_Text_ok hr5) <| aC (c0 hr6 law23_alive_ok) <| aT (r4 == r5) <| aB hb7 <| aN) ?_
   refine Holds.ret ?_
   exact bQ (vB b7) (congrArg vB (sI h))
end Go.PL
