/- Functions of the program, as partial functions in Lean, with proofs. -/
import Derived.Test.YtieikooalmfmfaaDoorPlMaB
import Derived.Test.YtieikooalmfmfaaDoorPlMaF0
import Derived.Test.YtieikooalmfmfaaDoorPlMaF1
import Derived.Test.YtieikooalmfmfaaDoorPlMaF2
import Derived.Test.YtieikooalmfmfaaDoorPlMaF4
namespace Go.PL
open Go Go.RowKit Go.Proofs
set_option maxRecDepth 100000
set_option linter.all false
set_option maxHeartbeats 1000000
attribute [local irreducible] Holds thenQ blockQ
/-- cardgame/cardgamelaw08.ManaTexts -/
def law08_ManaTexts (a0 : SCost) (a1 : Int) : Option (Bool) :=
 (mana_Is a0).bind fun r1 =>
 (r08_Is a0).bind fun r2 =>
 (gd ((r1 == r2) == true) (mana_Text a0)).bind fun r3 =>
 (gd ((r1 == r2) == true) (r08_Text a0)).bind fun r4 =>
 (some (if (r1 == r2) = true then r3 == r4 else false)).bind fun b5 =>
 (gd (b5 == true) (mana_Value a0 a1)).bind fun r6 =>
 (gd (b5 == true) (r08_Value a0 a1)).bind fun r7 =>
 (some (if b5 = true then r6 == r7 else false)).bind fun b8 =>
 (gd (b8 == true) (mana_Colors a0)).bind fun r9 =>
 (gd (b8 == true) (r08_Colors a0)).bind fun r10 =>
 (some (if b8 = true then r9 == r10 else false)).bind fun b11 =>
 (gd (b11 == true) (law08_alive)).bind fun r12 =>
 (some (if b11 = true then r12 else false)).bind fun b13 =>
 some b13
def law08_ManaTexts_C (a0 : SCost) (a1 : Int) (r : Bool) : Prop := PCall Tryd.prog I0 6 [vA encSCost a0, vI a1] (· = vB r)
theorem law08_ManaTexts_ok {a0 : SCost} {a1 : Int} {r : Bool} (h : law08_ManaTexts a0 a1 = some r) : law08_ManaTexts_C a0 a1 r := by
 refine PCall.body I0_stable (by kernel_rfl) Tryd.func6 rfl Tryd.ntmps6 (rs := [.tmp 4]) rfl rfl ?_
 intro w0 av old gv
 unfold law08_ManaTexts at h
 refine Rg [.a, .a] (sl 36 [(1, vI a1), (2, vP [2] (0))] [bx [2] (encSCost a0)]) (aN) ?_
 obtain ⟨r1, hr1, h⟩ := bS h
 obtain ⟨r2, hr2, h⟩ := bS h
 obtain ⟨r3, hr3, h⟩ := bS h
 obtain ⟨r4, hr4, h⟩ := bS h
 obtain ⟨b5, hb5, h⟩ := bS h
 obtain ⟨r6, hr6, h⟩ := bS h
 obtain ⟨r7, hr7, h⟩ := bS h
 obtain ⟨b8, hb8, h⟩ := bS h
 obtain ⟨r9, hr9, h⟩ := bS h
 obtain ⟨r10, hr10, h⟩ := bS h
 obtain ⟨b11, hb11, h⟩ := bS h
 obtain ⟨r12, hr12, h⟩ := bS h
 obtain ⟨b13, hb13, h⟩ := bS h
 refine Rq followsP [.a, (.c (vB r1)), .a, (.c (vB r2)), .a, .a, .a, (.c (vS r3)), .a, (.c (vS r4)), .a, (.v (vB b5)), .a, .a, .a, (.c (vI r6)), .a, .a, (.c (vI r7)), .a, (.v (vB b8)), .a, .a, (.c (vI r9)), .a, (.c (vI r10)), .a, (.v (vB b11)), .a, (.c (vB r12)), (.v (vB b13)), .a] (sl 36 [(4, vB b13)] []) (aC (mana_Is_ok hr1) <| aC (r08_Is_ok hr2) <| aC isb4 <| aC (c1 hr3 mana_Text_ok) <| aC (c1 hr4 r08_Text_ok) <| aH ((r1 == r2) == true) <| aT (r1 == r2) <| aB hb5 <| aC (c2 hr6 mana_Value_ok) <| aC (c2 hr7 r08_Value_ok) <| aH (b5 == true) <| aT b5 <| aB hb8 <| aC (c1 hr9 mana_Colors_ok) <| aC (c1 hr10 r08_Colors_ok) <| aH (b8 == true) <| aT b8 <| aB hb11 <| aC (c0 hr12 law08_alive_ok) <| aT b11 <| aB hb13 <| aN) ?_
 refine Holds.ret ?_
 exact bQ (vB b13) (congrArg vB (sI h))
end Go.PL
