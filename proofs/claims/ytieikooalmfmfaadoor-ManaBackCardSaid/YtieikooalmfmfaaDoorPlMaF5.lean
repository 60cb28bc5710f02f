/- Functions of the program, as partial functions in Lean, with proofs. -/
import Derived.Test.YtieikooalmfmfaaDoorPlMaB
import Derived.Test.YtieikooalmfmfaaDoorPlMaF0
import Derived.Test.YtieikooalmfmfaaDoorPlMaF1
import Derived.Test.YtieikooalmfmfaaDoorPlMaF2
import Derived.Test.YtieikooalmfmfaaDoorPlMaF3
import Derived.Test.YtieikooalmfmfaaDoorPlMaF4
namespace Go.PL
open Go Go.RowKit Go.Proofs
set_option maxRecDepth 100000
set_option linter.all false
set_option maxHeartbeats 1000000
attribute [local irreducible] Holds thenQ blockQ
def law08_ManaBack_J2 (a0 : SCost) : Option (Bool) :=
 (mana_Text a0).bind fun r3 =>
 (mana_Is a0).bind fun r4 =>
 (gd (((r3 != ([] : List UInt8)) == r4) == true) (law08_alive)).bind fun r5 =>
 (some (if ((r3 != ([] : List UInt8)) == r4) = true then r5 else false)).bind fun b6 =>
 some b6
def law08_ManaBack_J1 (a0 : SCost) (a1 : A6 (Int)) : Option (Bool) :=
 (mana_PoolText a1).bind fun r7 =>
 (if (r7 != ([] : List UInt8)) = true then
  (mana_ParsePool r7).bind fun r9 =>
  (some (if (!(r9.1 == a1)) = true then true else r9.2 != (0 : Int))).bind fun b10 =>
  (if b10 = true then
   some false
  else
   law08_ManaBack_J2 a0)
 else
  law08_ManaBack_J2 a0)
/-- cardgame/cardgamelaw08.ManaBack -/
def law08_ManaBack (a0 : SCost) (a1 : A6 (Int)) : Option (Bool) :=
 (mana_Text a0).bind fun r12 =>
 (if (r12 != ([] : List UInt8)) = true then
  (mana_Parse r12).bind fun r14 =>
  (some (if (!(r14.1 == a0)) = true then true else r14.2 != (0 : Int))).bind fun b15 =>
  (if b15 = true then
   some false
  else
   law08_ManaBack_J1 a0 a1)
 else
  law08_ManaBack_J1 a0 a1)
def law08_ManaBack_C (a0 : SCost) (a1 : A6 (Int)) (r : Bool) : Prop := PCall Tryd.prog I0 9 [vA encSCost a0, vA (eA6 (eI .i64)) a1] (· = vB r)
theorem law08_ManaBack_ok {a0 : SCost} {a1 : A6 (Int)} {r : Bool} (h : law08_ManaBack a0 a1 = some r) : law08_ManaBack_C a0 a1 r := by
 refine PCall.body I0_stable (by kernel_rfl) Tryd.func9 rfl Tryd.ntmps9 (rs := [.tmp 4]) rfl rfl ?_
 intro w0 av old gv
 unfold law08_ManaBack at h
 refine Rg [.a, .a, .a] (sl 52 [(2, vP [2] (0)), (3, vP [3] (0))] [bx [3] (eA6 (eI .i64) a1), bx [2] (encSCost a0)]) (aN) ?_
 refine Sj (X := Unit) (fun v => (sl 52 [(2, vP [2] (0)), (3, vP [3] (0))] [bx [3] (eA6 (eI .i64) a1), bx [2] (encSCost a0)])) (fun v => law08_ManaBack_J1 a0 a1 = some r) ?_ ?_
 · obtain ⟨r12, hr12, h⟩ := bS h
   refine Rg [.a, (.c (vS r12)), .a] (sl 52 [(2, vP [2] (0)), (3, vP [3] (0)), (5, vS r12)] [bx [3] (eA6 (eI .i64) a1), bx [2] (encSCost a0)]) (aC (mana_Text_ok hr12) <| aN) ?_
   refine Rg [.a, .a] (sl 52 [(2, vP [2] (0)), (3, vP [3] (0)), (5, vS r12), (14, vB (r12 != ([] : List UInt8)))] [bx [3] (eA6 (eI .i64) a1), bx [2] (encSCost a0)]) (aN) ?_
   refine iB h (fun b13 h => ?_) (fun b13 h => ?_)
   · obtain ⟨r14, hr14, h⟩ := bS h
     refine Rg [.a, (.c (.tup [vA encSCost r14.1, vI r14.2])), .a, .a, .a, .a, .a, .a] (sl 52 [(2, vP [2] (0)), (3, vP [3] (0)), (6, vP [6] (0)), (7, vI r14.2)] [bx [6] (encSCost r14.1), bx [3] (eA6 (eI .i64) a1), bx [2] (encSCost a0)]) (aC (mana_Parse_ok hr14) <| aC (show True ∧ 0 < [V.undef, V.undef].length from ⟨trivial, (by decide)⟩) <| aC (show True ∧ 1 < [V.undef, V.undef].length from ⟨trivial, (by decide)⟩) <| aN) ?_
     obtain ⟨b15, hb15, h⟩ := bS h
     refine Rg [.a, .a, (.v (vB (!(r14.1 == a0)))), .a, .a, .a, (.v (vB b15))] (sl 52 [(2, vP [2] (0)), (3, vP [3] (0)), (26, vB b15)] [bx [3] (eA6 (eI .i64) a1), bx [2] (encSCost a0)]) (aC (congrArg (fun z => V.c (.bool (!z))) (eqT34 r14.1 a0)) <| aG ((!(r14.1 == a0)) == false) <| aF (!(r14.1 == a0)) <| aB hb15 <| aN) ?_
     refine iB h (fun b16 h => ?_) (fun b16 h => ?_)
     · refine Rg [.a] (sl 52 [(4, vB false)] []) (aN) ?_
       refine Holds.ret ?_
       refine Tr ?_
       exact bQ (vB false) (congrArg vB (sI h))
     · refine Holds.skip ?_
       refine Tn ⟨(), h, wT⟩
   · refine Holds.skip ?_
     refine Tn ⟨(), h, wT⟩
 · rintro _ hJ1
   replace hJ1 : law08_ManaBack_J1 a0 a1 = some r := hJ1
   unfold law08_ManaBack_J1 at hJ1
   refine Sj (X := Unit) (fun v => (sl 52 [(2, vP [2] (0))] [bx [2] (encSCost a0)])) (fun v => law08_ManaBack_J2 a0 = some r) ?_ ?_
   · obtain ⟨r7, hr7, hJ1⟩ := bS hJ1
     refine Rg [.a, (.c (vS r7)), .a] (sl 52 [(2, vP [2] (0)), (3, vP [3] (0)), (8, vS r7)] [bx [3] (eA6 (eI .i64) a1), bx [2] (encSCost a0)]) (aC (mana_PoolText_ok hr7) <| aN) ?_
     refine Rg [.a, .a] (sl 52 [(2, vP [2] (0)), (3, vP [3] (0)), (8, vS r7), (30, vB (r7 != ([] : List UInt8)))] [bx [3] (eA6 (eI .i64) a1), bx [2] (encSCost a0)]) (aN) ?_
     refine iB hJ1 (fun b8 hJ1 => ?_) (fun b8 hJ1 => ?_)
     · obtain ⟨r9, hr9, hJ1⟩ := bS hJ1
       refine Rg [.a, (.c (.tup [vA (eA6 (eI .i64)) r9.1, vI r9.2])), .a, .a, .a, .a, .a, .a] (sl 52 [(2, vP [2] (0)), (3, vP [3] (0)), (9, vP [9] (0)), (10, vI r9.2)] [bx [9] (eA6 (eI .i64) r9.1), bx [3] (eA6 (eI .i64) a1), bx [2] (encSCost a0)]) (aC (mana_ParsePool_ok hr9) <| aC (show True ∧ 0 < [V.undef, V.undef].length from ⟨trivial, (by decide)⟩) <| aC (show True ∧ 1 < [V.undef, V.undef].length from ⟨trivial, (by decide)⟩) <| aN) ?_
       obtain ⟨b10, hb10, hJ1⟩ := bS hJ1
       refine Rg [.a, .a, (.v (vB (!(r9.1 == a1)))), .a, .a, .a, (.v (vB b10))] (sl 52 [(2, vP [2] (0)), (42, vB b10)] [bx [2] (encSCost a0)]) (aC (congrArg (fun z => V.c (.bool (!z))) (eqT31 r9.1 a1)) <| aG ((!(r9.1 == a1)) == false) <| aF (!(r9.1 == a1)) <| aB hb10 <| aN) ?_
       refine iB hJ1 (fun b11 hJ1 => ?_) (fun b11 hJ1 => ?_)
       · refine Rg [.a] (sl 52 [(4, vB false)] []) (aN) ?_
         refine Holds.ret ?_
         refine Tr ?_
         exact bQ (vB false) (congrArg vB (sI hJ1))
       · refine Holds.skip ?_
         refine Tn ⟨(), hJ1, wT⟩
     · refine Holds.skip ?_
       refine Tn ⟨(), hJ1, wT⟩
   · rintro _ hJ2
     replace hJ2 : law08_ManaBack_J2 a0 = some r := hJ2
     unfold law08_ManaBack_J2 at hJ2
     obtain ⟨r3, hr3, hJ2⟩ := bS hJ2
     obtain ⟨r4, hr4, hJ2⟩ := bS hJ2
     obtain ⟨r5, hr5, hJ2⟩ := bS hJ2
     obtain ⟨b6, hb6, hJ2⟩ := bS hJ2
     refine Rq followsP [.a, (.c (vS r3)), .a, .a, (.c (vB r4)), .a, .a, (.c (vB r5)), (.v (vB b6)), .a] (sl 52 [(4, vB b6)] []) (aC (mana_Text_ok hr3) <| aC (mana_Is_ok hr4) <| aC isb4 <| aC (c0 hr5 law08_alive_ok) <| aT ((r3 != ([] : List UInt8)) == r4) <| aB hb6 <| aN) ?_
     refine Holds.ret ?_
     exact bQ (vB b6) (congrArg vB (sI hJ2))
end Go.PL
