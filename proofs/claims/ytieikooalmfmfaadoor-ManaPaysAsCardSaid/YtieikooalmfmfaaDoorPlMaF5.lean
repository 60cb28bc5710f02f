/- Functions of the program, as partial functions in Lean, with proofs. -/
import Derived.Test.YtieikooalmfmfaaDoorPlMaB
import Derived.Test.YtieikooalmfmfaaDoorPlMaF0
import Derived.Test.YtieikooalmfmfaaDoorPlMaF1
import Derived.Test.YtieikooalmfmfaaDoorPlMaF2
import Derived.Test.YtieikooalmfmfaaDoorPlMaF4
namespace Go.PL
open Go Go.RowKit Go.Proofs
set_option maxRecDepth 100000
set_option linter.all false
set_option maxHeartbeats 1000000
attribute [local irreducible] Holds thenQ blockQ
/-- cardgame/cardgamelaw08.ManaPaysAs -/
def law08_ManaPaysAs (a0 : A6 (Int)) (a1 : SCost) (a2 : Int) : Option (Bool) :=
 (mana_Pay a0 a1 a2).bind fun r1 =>
 (r08_Pay a0 a1 a2).bind fun r2 =>
 (some (if (r1.1 == r2.1) = true then r1.2 == r2.2 else false)).bind fun b3 =>
 (gd (b3 == true) (mana_CanPay a0 a1 a2)).bind fun r4 =>
 (some (if b3 = true then r4 == (r2.2 == (0 : Int)) else false)).bind fun b5 =>
 (gd (b5 == true) (law08_alive)).bind fun r6 =>
 (some (if b5 = true then r6 else false)).bind fun b7 =>
 some b7
def law08_ManaPaysAs_C (a0 : A6 (Int)) (a1 : SCost) (a2 : Int) (r : Bool) : Prop := PCall Tryd.prog I0 5 [vA (eA6 (eI .i64)) a0, vA encSCost a1, vI a2] (· = vB r)
theorem law08_ManaPaysAs_ok {a0 : A6 (Int)} {a1 : SCost} {a2 : Int} {r : Bool} (h : law08_ManaPaysAs a0 a1 a2 = some r) : law08_ManaPaysAs_C a0 a1 a2 r := by
 refine PCall.body I0_stable (by kernel_rfl) Tryd.func5 rfl Tryd.ntmps5 (rs := [.tmp 6]) rfl rfl ?_
 intro w0 av old gv
 unfold law08_ManaPaysAs at h
 refine Rg [.a, .a, .a] (sl 45 [(2, vI a2), (3, vP [3] (0)), (4, vP [4] (0))] [bx [4] (encSCost a1), bx [3] (eA6 (eI .i64) a0)]) (aN) ?_
 obtain ⟨r1, hr1, h⟩ := bS h
 refine Rg [.a, .a, .a, (.c (.tup [vA (eA6 (eI .i64)) r1.1, vI r1.2])), .a, .a, .a, .a, .a, .a] (sl 45 [(2, vI a2), (3, vP [3] (0)), (4, vP [4] (0)), (7, vP [7] (0)), (8, vI r1.2)] [bx [7] (eA6 (eI .i64) r1.1), bx [4] (encSCost a1), bx [3] (eA6 (eI .i64) a0)]) (aC (mana_Pay_ok hr1) <| aC (show True ∧ 0 < [V.undef, V.undef].length from ⟨trivial, (by decide)⟩) <| aC (show True ∧ 1 < [V.undef, V.undef].length from ⟨trivial, (by decide)⟩) <| aN) ?_
 obtain ⟨r2, hr2, h⟩ := bS h
 refine Rg [.a, .a, .a, (.c (.tup [vA (eA6 (eI .i64)) r2.1, vI r2.2])), .a, .a, .a, .a, .a, .a] (sl 45 [(2, vI a2), (3, vP [3] (0)), (4, vP [4] (0)), (7, vP [7] (0)), (8, vI r1.2), (9, vP [9] (0)), (10, vI r2.2)] [bx [9] (eA6 (eI .i64) r2.1), bx [7] (eA6 (eI .i64) r1.1), bx [4] (encSCost a1), bx [3] (eA6 (eI .i64) a0)]) (aC (r08_Pay_ok hr2) <| aC (show True ∧ 0 < [V.undef, V.undef].length from ⟨trivial, (by decide)⟩) <| aC (show True ∧ 1 < [V.undef, V.undef].length from ⟨trivial, (by decide)⟩) <| aN) ?_
 obtain ⟨b3, hb3, h⟩ := bS h
 obtain ⟨r4, hr4, h⟩ := bS h
 obtain ⟨b5, hb5, h⟩ := bS h
 obtain ⟨r6, hr6, h⟩ := bS h
 obtain ⟨b7, hb7, h⟩ := bS h
 refine Rg [.a, .a, (.v (vB (r1.1 == r2.1))), .a, .a, .a, .a, (.v (vB b3)), .a, .a, .a, .a, (.c (vB r4)), .a, .a, .a, (.v (vB b5)), .a, (.c (vB r6)), (.v (vB b7)), .a] (sl 45 [(6, vB b7)] []) (aC (congrArg (fun z => V.c (.bool (z))) (eqT31 r1.1 r2.1)) <| aH ((r1.1 == r2.1) == true) <| aT (r1.1 == r2.1) <| aB hb3 <| aC (c3 hr4 mana_CanPay_ok) <| aG (b3 == true) <| aC (fun hg : (b3 == true) = true => aC (gi (b3 == true)) <| aC (gi (b3 == true)) <| aC isb4 <| aN) <| aT b3 <| aB hb5 <| aC (c0 hr6 law08_alive_ok) <| aT b5 <| aB hb7 <| aN) ?_
 refine Holds.ret ?_
 exact bQ (vB b7) (congrArg vB (sI h))
end Go.PL
