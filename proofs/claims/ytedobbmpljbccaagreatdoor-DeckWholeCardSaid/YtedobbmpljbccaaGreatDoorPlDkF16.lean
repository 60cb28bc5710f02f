/- Functions of the program, as partial functions in Lean, with proofs. -/
import Derived.Test.YtedobbmpljbccaaGreatDoorPlDkB
import Derived.Test.YtedobbmpljbccaaGreatDoorPlDkF15
namespace Go.PL
open Go Go.RowKit Go.Proofs
set_option maxRecDepth 100000
set_option linter.all false
set_option maxHeartbeats 1000000
attribute [local irreducible] Holds thenQ blockQ
/-- cardgame/cardgamelaw23.small -/
def law23_small (a0 : SAsk) : Option (Bool) :=
 (some (if (decide ((40 : Int) < (a0.Cards.length : Int))) = true then true else decide ((300 : Int) < (a0.Deck.Cards.length : Int)))).bind fun b1 =>
 (some (if b1 = true then true else decide ((300 : Int) < (a0.Deck.Counts.length : Int)))).bind fun b2 =>
 (some (if b2 = true then true else decide ((100 : Int) < (a0.Format.Banned.length : Int)))).bind fun b3 =>
 (if b3 = true then
  some false
 else
  (r23_Valid a0.Cards).bind fun r5 =>
  some r5)
def law23_small_C (a0 : SAsk) (r : Bool) : Prop := PCall Tryz.prog I0 7 [vA encSAsk a0] (· = vB r)
theorem law23_small_ok {a0 : SAsk} {r : Bool} (h : law23_small a0 = some r) : law23_small_C a0 r := by
 refine PCall.body I0_stable (by kernel_rfl) Tryz.func7 rfl Tryz.ntmps7 (rs := [.tmp 2]) rfl rfl ?_
 intro w0 av old gv
 unfold law23_small at h
 refine Rg [.a, .a] (sl 31 [(1, vP [1] (0))] [bx [1] (encSAsk a0)]) (aN) ?_
 refine Holds.seq ?_
 obtain ⟨b1, hb1, h⟩ := bS h
 obtain ⟨b2, hb2, h⟩ := bS h
 obtain ⟨b3, hb3, h⟩ := bS h
 refine Rg [.a, .a, .a, .a, .a, .a, .a, .a, .a, .a, (.v (vB b1)), .a, .a, .a, .a, .a, .a, (.v (vB b2)), .a, .a, .a, .a, .a, .a, (.v (vB b3))] (sl 31 [(1, vP [1] (0)), (27, vB b3)] [bx [1] (encSAsk a0)]) (aG ((decide ((40 : Int) < (a0.Cards.length : Int))) == false) <| aG ((decide ((40 : Int) < (a0.Cards.length : Int))) == false) <| aG ((decide ((40 : Int) < (a0.Cards.length : Int))) == false) <| aG ((decide ((40 : Int) < (a0.Cards.length : Int))) == false) <| aF (decide ((40 : Int) < (a0.Cards.length : Int))) <| aB hb1 <| aG (b1 == false) <| aG (b1 == false) <| aG (b1 == false) <| aG (b1 == false) <| aF b1 <| aB hb2 <| aG (b2 == false) <| aG (b2 == false) <| aG (b2 == false) <| aG (b2 == false) <| aF b2 <| aB hb3 <| aN) ?_
 refine iB h (fun b4 h => ?_) (fun b4 h => ?_)
 · refine Rg [.a] (sl 31 [(2, vB false)] []) (aN) ?_
   refine Holds.ret ?_
   refine Tr ?_
   exact bQ (vB false) (congrArg vB (sI h))
 · refine Holds.skip ?_
   refine Tn ?_
   obtain ⟨r5, hr5, h⟩ := bS h
   refine Rg [.a, .a, (.c (vB r5)), .a] (sl 31 [(2, vB r5)] []) (aC (r23_Valid_ok hr5) <| aN) ?_
   refine Holds.ret ?_
   exact bQ (vB r5) (congrArg vB (sI h))
end Go.PL
