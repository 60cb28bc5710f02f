/- Functions of the program, as partial functions in Lean, with proofs. -/
import Derived.Test.YtieikooalmfmfaaDoorPlMaB
import Derived.Test.YtieikooalmfmfaaDoorPlMaF0
import Derived.Test.YtieikooalmfmfaaDoorPlMaF1
import Derived.Test.YtieikooalmfmfaaDoorPlMaF2
import Derived.Test.YtieikooalmfmfaaDoorPlMaF3
import Derived.Test.YtieikooalmfmfaaDoorPlMaF4
namespace Go.PL
open Go Go.RowKit Go.Proofs
set_option maxRecDepth 100000
set_option linter.all false
set_option maxHeartbeats 1000000
attribute [local irreducible] Holds thenQ blockQ
/-- cardgame/cardgamelaw08.ManaPools -/
def law08_ManaPools (a0 : A6 (Int)) (a1 : A6 (Int)) : Option (Bool) :=
 (mana_Whole a0).bind fun r1 =>
 (r08_Whole a0).bind fun r2 =>
 (gd ((r1 == r2) == true) (mana_PoolText a0)).bind fun r3 =>
 (gd ((r1 == r2) == true) (r08_PoolText a0)).bind fun r4 =>
 (some (if (r1 == r2) = true then r3 == r4 else false)).bind fun b5 =>
 (gd (b5 == true) (mana_Add a0 a1)).bind fun r6 =>
 (gd (b5 == true) (r08_Add a0 a1)).bind fun r7 =>
 (some (if b5 = true then r6 == r7 else false)).bind fun b8 =>
 (gd (b8 == true) (law08_alive)).bind fun r9 =>
 (some (if b8 = true then r9 else false)).bind fun b10 =>
 some b10
def law08_ManaPools_C (a0 : A6 (Int)) (a1 : A6 (Int)) (r : Bool) : Prop := PCall Tryd.prog I0 7 [vA (eA6 (eI .i64)) a0, vA (eA6 (eI .i64)) a1] (· = vB r)
theorem law08_ManaPools_ok {a0 : A6 (Int)} {a1 : A6 (Int)} {r : Bool} (h : law08_ManaPools a0 a1 = some r) : law08_ManaPools_C a0 a1 r := by
 refine PCall.body I0_stable (by kernel_rfl) Tryd.func7 rfl Tryd.ntmps7 (rs := [.tmp 4]) rfl rfl ?_
 intro w0 av old gv
 unfold law08_ManaPools at h
 refine Rg [.a, .a, .a] (sl 29 [(2, vP [2] (0)), (3, vP [3] (0))] [bx [3] (eA6 (eI .i64) a1), bx [2] (eA6 (eI .i64) a0)]) (aN) ?_
 obtain ⟨r1, hr1, h⟩ := bS h
 obtain ⟨r2, hr2, h⟩ := bS h
 obtain ⟨r3, hr3, h⟩ := bS h
 obtain ⟨r4, hr4, h⟩ := bS h
 obtain ⟨b5, hb5, h⟩ := bS h
 obtain ⟨r6, hr6, h⟩ := bS h
 obtain ⟨r7, hr7, h⟩ := bS h
 obtain ⟨b8, hb8, h⟩ := bS h
 obtain ⟨r9, hr9, h⟩ := bS h
 obtain ⟨b10, hb10, h⟩ := bS h
 refine Rq followsP [.a, (.c (vB r1)), .a, (.c (vB r2)), .a, .a, .a, (.c (vS r3)), .a, (.c (vS r4)), .a, (.v (vB b5)), .a, .a, .a, (.c (vA (eA6 (eI .i64)) r6)), .a, .a, (.c (vA (eA6 (eI .i64)) r7)), (.v (vB (r6 == r7))), (.v (vB b8)), .a, (.c (vB r9)), (.v (vB b10)), .a] (sl 29 [(4, vB b10)] []) (aC (mana_Whole_ok hr1) <| aC (r08_Whole_ok hr2) <| aC isb4 <| aC (c1 hr3 mana_PoolText_ok) <| aC (c1 hr4 r08_PoolText_ok) <| aH ((r1 == r2) == true) <| aT (r1 == r2) <| aB hb5 <| aC (c2 hr6 mana_Add_ok) <| aC (c2 hr7 r08_Add_ok) <| aC (fun hg : (b5 == true) = true => aC (gi (b5 == true)) <| aC (gi (b5 == true)) <| aC (congrArg (fun z => V.c (.bool (z))) (eqT31 r6 r7)) <| aN) <| aT b5 <| aB hb8 <| aC (c0 hr9 law08_alive_ok) <| aT b8 <| aB hb10 <| aN) ?_
 refine Holds.ret ?_
 exact bQ (vB b10) (congrArg vB (sI h))
end Go.PL
