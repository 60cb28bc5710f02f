/- Functions of the program, as partial functions in Lean, with proofs. -/
import Derived.Test.YtieikooalmfmfaaDoorPlMaB
import Derived.Test.YtieikooalmfmfaaDoorPlMaF0
import Derived.Test.YtieikooalmfmfaaDoorPlMaF1
import Derived.Test.YtieikooalmfmfaaDoorPlMaF2
import Derived.Test.YtieikooalmfmfaaDoorPlMaF3
import Derived.Test.YtieikooalmfmfaaDoorPlMaF4
namespace Go.PL
open Go Go.RowKit Go.Proofs
set_option maxRecDepth 100000
set_option linter.all false
set_option maxHeartbeats 1000000
attribute [local irreducible] Holds thenQ blockQ
/-- cardgame/cardgamelaw08.ManaParses -/
def law08_ManaParses (a0 : List UInt8) : Option (Bool) :=
 (if (decide ((500 : Int) < (a0.length : Int))) = true then
  (law08_alive).bind fun r2 =>
  some r2
 else
  (mana_Parse a0).bind fun r3 =>
  (r08_Parse a0).bind fun r4 =>
  (mana_ParsePool a0).bind fun r5 =>
  (r08_ParsePool a0).bind fun r6 =>
  (some (if (r3.1 == r4.1) = true then r3.2 == r4.2 else false)).bind fun b7 =>
  (some (if b7 = true then r5.1 == r6.1 else false)).bind fun b8 =>
  (some (if b8 = true then r5.2 == r6.2 else false)).bind fun b9 =>
  (gd (b9 == true) (law08_alive)).bind fun r10 =>
  (some (if b9 = true then r10 else false)).bind fun b11 =>
  some b11)
def law08_ManaParses_C (a0 : List UInt8) (r : Bool) : Prop := PCall Tryd.prog I0 8 [vS a0] (· = vB r)
theorem law08_ManaParses_ok {a0 : List UInt8} {r : Bool} (h : law08_ManaParses a0 = some r) : law08_ManaParses_C a0 r := by
 refine PCall.body I0_stable (by kernel_rfl) Tryd.func8 rfl Tryd.ntmps8 (rs := [.tmp 2]) rfl rfl ?_
 intro w0 av old gv
 unfold law08_ManaParses at h
 refine Rg [.a] (sl 56 [(0, vS a0)] []) (aN) ?_
 refine Holds.seq ?_
 refine Rg [.a, .a, .a] (sl 56 [(0, vS a0), (13, vB (decide ((500 : Int) < (a0.length : Int))))] []) (aN) ?_
 refine iB h (fun b1 h => ?_) (fun b1 h => ?_)
 · obtain ⟨r2, hr2, h⟩ := bS h
   refine Rg [(.c (vB r2)), .a] (sl 56 [(2, vB r2)] []) (aC (law08_alive_ok hr2) <| aN) ?_
   refine Holds.ret ?_
   refine Tr ?_
   exact bQ (vB r2) (congrArg vB (sI h))
 · refine Holds.skip ?_
   refine Tn ?_
   obtain ⟨r3, hr3, h⟩ := bS h
   refine Rg [.a, (.c (.tup [vA encSCost r3.1, vI r3.2])), .a, .a, .a, .a, .a, .a] (sl 56 [(0, vS a0), (3, vP [3] (0)), (4, vI r3.2)] [bx [3] (encSCost r3.1)]) (aC (mana_Parse_ok hr3) <| aC (show True ∧ 0 < [V.undef, V.undef].length from ⟨trivial, (by decide)⟩) <| aC (show True ∧ 1 < [V.undef, V.undef].length from ⟨trivial, (by decide)⟩) <| aN) ?_
   obtain ⟨r4, hr4, h⟩ := bS h
   refine Rg [.a, (.c (.tup [vA encSCost r4.1, vI r4.2])), .a, .a, .a, .a, .a, .a] (sl 56 [(0, vS a0), (3, vP [3] (0)), (4, vI r3.2), (5, vP [5] (0)), (6, vI r4.2)] [bx [5] (encSCost r4.1), bx [3] (encSCost r3.1)]) (aC (r08_Parse_ok hr4) <| aC (show True ∧ 0 < [V.undef, V.undef].length from ⟨trivial, (by decide)⟩) <| aC (show True ∧ 1 < [V.undef, V.undef].length from ⟨trivial, (by decide)⟩) <| aN) ?_
   obtain ⟨r5, hr5, h⟩ := bS h
   refine Rg [.a, (.c (.tup [vA (eA6 (eI .i64)) r5.1, vI r5.2])), .a, .a, .a, .a, .a, .a] (sl 56 [(0, vS a0), (3, vP [3] (0)), (4, vI r3.2), (5, vP [5] (0)), (6, vI r4.2), (7, vP [7] (0)), (8, vI r5.2)] [bx [7] (eA6 (eI .i64) r5.1), bx [5] (encSCost r4.1), bx [3] (encSCost r3.1)]) (aC (mana_ParsePool_ok hr5) <| aC (show True ∧ 0 < [V.undef, V.undef].length from ⟨trivial, (by decide)⟩) <| aC (show True ∧ 1 < [V.undef, V.undef].length from ⟨trivial, (by decide)⟩) <| aN) ?_
   obtain ⟨r6, hr6, h⟩ := bS h
   refine Rg [.a, (.c (.tup [vA (eA6 (eI .i64)) r6.1, vI r6.2])), .a, .a, .a, .a, .a, .a] (sl 56 [(3, vP [3] (0)), (4, vI r3.2), (5, vP [5] (0)), (6, vI r4.2), (7, vP [7] (0)), (8, vI r5.2), (9, vP [9] (0)), (10, vI r6.2)] [bx [9] (eA6 (eI .i64) r6.1), bx [7] (eA6 (eI .i64) r5.1), bx [5] (encSCost r4.1), bx [3] (encSCost r3.1)]) (aC (r08_ParsePool_ok hr6) <| aC (show True ∧ 0 < [V.undef, V.undef].length from ⟨trivial, (by decide)⟩) <| aC (show True ∧ 1 < [V.undef, V.undef].length from ⟨trivial, (by decide)⟩) <| aN) ?_
   obtain ⟨b7, hb7, h⟩ := bS h
   obtain ⟨b8, hb8, h⟩ := bS h
   obtain ⟨b9, hb9, h⟩ := bS h
   obtain ⟨r10, hr10, h⟩ := bS h
   obtain ⟨b11, hb11, h⟩ := bS h
   refine Rg [.a, .a, (.v (vB (r3.1 == r4.1))), .a, .a, .a, .a, (.v (vB b7)), .a, .a, .a, (.v (vB (r5.1 == r6.1))), (.v (vB b8)), .a, .a, .a, .a, (.v (vB b9)), .a, (.c (vB r10)), (.v (vB b11)), .a] (sl 56 [(2, vB b11)] []) (aC (congrArg (fun z => V.c (.bool (z))) (eqT34 r3.1 r4.1)) <| aH ((r3.1 == r4.1) == true) <| aT (r3.1 == r4.1) <| aB hb7 <| aC (fun hg : (b7 == true) = true => aC (gi (b7 == true)) <| aC (gi (b7 == true)) <| aC (congrArg (fun z => V.c (.bool (z))) (eqT31 r5.1 r6.1)) <| aN) <| aT b7 <| aB hb8 <| aH (b8 == true) <| aT b8 <| aB hb9 <| aC (c0 hr10 law08_alive_ok) <| aT b9 <| aB hb11 <| aN) ?_
   refine Holds.ret ?_
   exact bQ (vB b11) (congrArg vB (sI h))
end Go.PL
