/- Functions of the program, as partial functions in Lean, with proofs. -/
import Derived.Test.YtieikooalmfmfaaDoorPlMaB
import Derived.Test.YtieikooalmfmfaaDoorPlMaF0
import Derived.Test.YtieikooalmfmfaaDoorPlMaF1
import Derived.Test.YtieikooalmfmfaaDoorPlMaF2
import Derived.Test.YtieikooalmfmfaaDoorPlMaF3
namespace Go.PL
open Go Go.RowKit Go.Proofs
set_option maxRecDepth 100000
set_option linter.all false
set_option maxHeartbeats 1000000
attribute [local irreducible] Holds thenQ blockQ
/-- cardgame/cardgamelaw08.alive -/
def law08_alive : Option (Bool) :=
 (mana_Pay (⟨(1 : Int), (1 : Int), (0 : Int), (0 : Int), (2 : Int), (0 : Int)⟩ : A6 (Int)) (⟨(1 : Int), (0 : Int), (⟨(0 : Int), (0 : Int), (0 : Int), (1 : Int), (0 : Int)⟩ : A5 (Int))⟩ : SCost) (0 : Int)).bind fun r1 =>
 (mana_Parse str_XX3R).bind fun r2 =>
 (mana_Parse str_R3).bind fun r3 =>
 (mana_Value (⟨(2 : Int), (0 : Int), (⟨(2 : Int), (0 : Int), (0 : Int), (0 : Int), (0 : Int)⟩ : A5 (Int))⟩ : SCost) (5 : Int)).bind fun r4 =>
 (some (if (r4 == (4 : Int)) = true then r1.2 == (0 : Int) else false)).bind fun b5 =>
 (some (if b5 = true then r1.1 == (⟨(0 : Int), (1 : Int), (0 : Int), (0 : Int), (1 : Int), (0 : Int)⟩ : A6 (Int)) else false)).bind fun b6 =>
 (some (if b6 = true then r2.2 == (0 : Int) else false)).bind fun b7 =>
 (some (if b7 = true then r2.1 == (⟨(3 : Int), (2 : Int), (⟨(0 : Int), (0 : Int), (0 : Int), (1 : Int), (0 : Int)⟩ : A5 (Int))⟩ : SCost) else false)).bind fun b8 =>
 (some (if b8 = true then r3.2 == (3 : Int) else false)).bind fun b9 =>
 (gd (b9 == true) (mana_Text (⟨(0 : Int), (0 : Int), (⟨(0 : Int), (0 : Int), (0 : Int), (0 : Int), (0 : Int)⟩ : A5 (Int))⟩ : SCost))).bind fun r10 =>
 (some (if b9 = true then r10 == str_0 else false)).bind fun b11 =>
 some b11
def law08_alive_C (r : Bool) : Prop := PCall Tryd.prog I0 17 [] (· = vB r)
theorem law08_alive_ok {r : Bool} (h : law08_alive  = some r) : law08_alive_C r := by
 refine PCall.body I0_stable (by kernel_rfl) Tryd.func17 rfl Tryd.ntmps17 (rs := [.tmp 0]) rfl rfl ?_
 intro w0 av old gv
 unfold law08_alive at h
 refine Rg [.a] (sl 54 [] []) (aN) ?_
 obtain ⟨r1, hr1, h⟩ := bS h
 refine Rg [.a, .a, .a, (.c (.tup [vA (eA6 (eI .i64)) r1.1, vI r1.2])), .a, .a, .a, .a, .a, .a] (sl 54 [(1, vP [1] (0)), (2, vI r1.2)] [bx [1] (eA6 (eI .i64) r1.1)]) (aC (And.intro (show True ∧ (True ∧ (True ∧ (True ∧ (True ∧ (True ∧ True))))) from ⟨trivial, ⟨trivial, ⟨trivial, ⟨trivial, ⟨trivial, ⟨trivial, trivial⟩⟩⟩⟩⟩⟩) okp31) <| aC (And.intro (show True ∧ (True ∧ (True ∧ (True ∧ (True ∧ True)))) from ⟨trivial, ⟨trivial, ⟨trivial, ⟨trivial, ⟨trivial, trivial⟩⟩⟩⟩⟩) okp32) <| aC (And.intro (show True ∧ (True ∧ True) from ⟨trivial, ⟨trivial, trivial⟩⟩) okp34) <| aC (mana_Pay_ok hr1) <| aC (show True ∧ 0 < [V.undef, V.undef].length from ⟨trivial, (by decide)⟩) <| aC (show True ∧ 1 < [V.undef, V.undef].length from ⟨trivial, (by decide)⟩) <| aN) ?_
 obtain ⟨r2, hr2, h⟩ := bS h
 refine Rg [(.c (.tup [vA encSCost r2.1, vI r2.2])), .a, .a, .a, .a, .a, .a] (sl 54 [(1, vP [1] (0)), (2, vI r1.2), (3, vP [3] (0)), (4, vI r2.2)] [bx [3] (encSCost r2.1), bx [1] (eA6 (eI .i64) r1.1)]) (aC (mana_Parse_ok hr2) <| aC (show True ∧ 0 < [V.undef, V.undef].length from ⟨trivial, (by decide)⟩) <| aC (show True ∧ 1 < [V.undef, V.undef].length from ⟨trivial, (by decide)⟩) <| aN) ?_
 obtain ⟨r3, hr3, h⟩ := bS h
 refine Rg [(.c (.tup [vA encSCost r3.1, vI r3.2])), .a, .a, .a, .a, .a, .a] (sl 54 [(1, vP [1] (0)), (2, vI r1.2), (3, vP [3] (0)), (4, vI r2.2), (6, vI r3.2)] [bx [3] (encSCost r2.1), bx [1] (eA6 (eI .i64) r1.1)]) (aC (mana_Parse_ok hr3) <| aC (show True ∧ 0 < [V.undef, V.undef].length from ⟨trivial, (by decide)⟩) <| aC (show True ∧ 1 < [V.undef, V.undef].length from ⟨trivial, (by decide)⟩) <| aN) ?_
 obtain ⟨r4, hr4, h⟩ := bS h
 obtain ⟨b5, hb5, h⟩ := bS h
 obtain ⟨b6, hb6, h⟩ := bS h
 obtain ⟨b7, hb7, h⟩ := bS h
 obtain ⟨b8, hb8, h⟩ := bS h
 obtain ⟨b9, hb9, h⟩ := bS h
 obtain ⟨r10, hr10, h⟩ := bS h
 obtain ⟨b11, hb11, h⟩ := bS h
 refine Rg [.a, .a, (.c (vI r4)), .a, .a, .a, .a, (.v (vB b5)), .a, .a, .a, (.v (vB (r1.1 == (⟨(0 : Int), (1 : Int), (0 : Int), (0 : Int), (1 : Int), (0 : Int)⟩ : A6 (Int))))), (.v (vB b6)), .a, .a, .a, (.v (vB b7)), .a, .a, .a, .a, (.v (vB (r2.1 == (⟨(3 : Int), (2 : Int), (⟨(0 : Int), (0 : Int), (0 : Int), (1 : Int), (0 : Int)⟩ : A5 (Int))⟩ : SCost)))), (.v (vB b8)), .a, .a, .a, (.v (vB b9)), .a, .a, (.c (vS r10)), .a, (.v (vB b11)), .a] (sl 54 [(0, vB b11)] []) (aC (And.intro (show True ∧ (True ∧ (True ∧ (True ∧ (True ∧ True)))) from ⟨trivial, ⟨trivial, ⟨trivial, ⟨trivial, ⟨trivial, trivial⟩⟩⟩⟩⟩) okp32) <| aC (And.intro (show True ∧ (True ∧ True) from ⟨trivial, ⟨trivial, trivial⟩⟩) okp34) <| aC (mana_Value_ok hr4) <| aG ((r4 == (4 : Int)) == true) <| aT (r4 == (4 : Int)) <| aB hb5 <| aC (fun hg : (b5 == true) = true => aC (And.intro (show True ∧ (True ∧ (True ∧ (True ∧ (True ∧ (True ∧ True))))) from ⟨trivial, ⟨trivial, ⟨trivial, ⟨trivial, ⟨trivial, ⟨trivial, trivial⟩⟩⟩⟩⟩⟩) okp31) <| aN) <| aC (fun hg : (b5 == true) = true => aC (gi (b5 == true)) <| aC (gi (b5 == true)) <| aC (congrArg (fun z => V.c (.bool (z))) (eqT31 r1.1 (⟨(0 : Int), (1 : Int), (0 : Int), (0 : Int), (1 : Int), (0 : Int)⟩ : A6 (Int)))) <| aN) <| aT b5 <| aB hb6 <| aG (b6 == true) <| aT b6 <| aB hb7 <| aC (fun hg : (b7 == true) = true => aC (And.intro (show True ∧ (True ∧ (True ∧ (True ∧ (True ∧ True)))) from ⟨trivial, ⟨trivial, ⟨trivial, ⟨trivial, ⟨trivial, trivial⟩⟩⟩⟩⟩) okp32) <| aN) <| aC (fun hg : (b7 == true) = true => aC (And.intro (show True ∧ (True ∧ (((b7 == true) = true → (b7 == true) = true) ∧ True)) from ⟨trivial, ⟨trivial, ⟨id, trivial⟩⟩⟩) okp34) <| aN) <| aC (fun hg : (b7 == true) = true => aC (gi (b7 == true)) <| aC (gi (b7 == true)) <| aC (congrArg (fun z => V.c (.bool (z))) (eqT34 r2.1 (⟨(3 : Int), (2 : Int), (⟨(0 : Int), (0 : Int), (0 : Int), (1 : Int), (0 : Int)⟩ : A5 (Int))⟩ : SCost))) <| aN) <| aT b7 <| aB hb8 <| aG (b8 == true) <| aT b8 <| aB hb9 <| aC (fun hg : (b9 == true) = true => aC (And.intro trivial okp34) <| aN) <| aC (c1 hr10 mana_Text_ok) <| aG (b9 == true) <| aT b9 <| aB hb11 <| aN) ?_
 refine Holds.ret ?_
 exact bQ (vB b11) (congrArg vB (sI h))
/-- cardgame/mana.ParsePool -/
def mana_ParsePool (a0 : List UInt8) : Option ((A6 (Int)) × Int) :=
 (mana_Parse a0).bind fun r1 =>
 (gd ((r1.2 != (0 : Int)) == false) (mana_cost (⟨(⟨r1.1.Generic, (0 : Int), (0 : Int), (0 : Int), (0 : Int), (0 : Int)⟩ : A6 (Int)).x0, r1.1.Color.x0, r1.1.Color.x1, r1.1.Color.x2, r1.1.Color.x3, r1.1.Color.x4⟩ : A6 (Int)))).bind fun r2 =>
 (some (if (r1.2 != (0 : Int)) = true then true else !(r2 == r1.1))).bind fun b3 =>
 (if b3 = true then
  some ((⟨(0 : Int), (0 : Int), (0 : Int), (0 : Int), (0 : Int), (0 : Int)⟩ : A6 (Int)), (3 : Int))
 else
  some ((⟨(⟨r1.1.Generic, (0 : Int), (0 : Int), (0 : Int), (0 : Int), (0 : Int)⟩ : A6 (Int)).x0, r1.1.Color.x0, r1.1.Color.x1, r1.1.Color.x2, r1.1.Color.x3, r1.1.Color.x4⟩ : A6 (Int)), (0 : Int)))
def mana_ParsePool_C (a0 : List UInt8) (r : (A6 (Int)) × Int) : Prop := PCall Tryd.prog I0 36 [vS a0] (· = .tup [vA (eA6 (eI .i64)) r.1, vI r.2])
theorem mana_ParsePool_ok {a0 : List UInt8} {r : (A6 (Int)) × Int} (h : mana_ParsePool a0 = some r) : mana_ParsePool_C a0 r := by
 refine PCall.body I0_stable (by kernel_rfl) Tryd.func36 rfl Tryd.ntmps36 (rs := [.cell 2 31, .tmp 3]) rfl rfl ?_
 intro w0 av old gv
 unfold mana_ParsePool at h
 refine Rg [.a, .a] (sl 29 [(0, vS a0), (2, vP [2] (0))] [bx [2] (eA6 (eI .i64) (⟨(0 : Int), (0 : Int), (0 : Int), (0 : Int), (0 : Int), (0 : Int)⟩ : A6 (Int)))]) (aN) ?_
 obtain ⟨r1, hr1, h⟩ := bS h
 refine Rg [.a, (.c (.tup [vA encSCost r1.1, vI r1.2])), .a, .a, .a, .a, .a, .a] (sl 29 [(2, vP [2] (0)), (4, vP [4] (0)), (5, vI r1.2)] [bx [4] (encSCost r1.1), bx [2] (eA6 (eI .i64) (⟨(0 : Int), (0 : Int), (0 : Int), (0 : Int), (0 : Int), (0 : Int)⟩ : A6 (Int)))]) (aC (mana_Parse_ok hr1) <| aC (show True ∧ 0 < [V.undef, V.undef].length from ⟨trivial, (by decide)⟩) <| aC (show True ∧ 1 < [V.undef, V.undef].length from ⟨trivial, (by decide)⟩) <| aN) ?_
 refine Rg [.a, .a, .a, .a, .a] (sl 29 [(2, vP [2] (0)), (4, vP [4] (0)), (5, vI r1.2), (6, vP [6] (0))] [bx [6] (eA6 (eI .i64) (⟨r1.1.Generic, (0 : Int), (0 : Int), (0 : Int), (0 : Int), (0 : Int)⟩ : A6 (Int))), bx [4] (encSCost r1.1), bx [2] (eA6 (eI .i64) (⟨(0 : Int), (0 : Int), (0 : Int), (0 : Int), (0 : Int), (0 : Int)⟩ : A6 (Int)))]) (aC (And.intro (show True ∧ True from ⟨trivial, trivial⟩) okp31) <| aN) ?_
 refine Holds.seq ?_
 refine Holds.regN [0, 1, 2, 3, 6, 7, 15] 15 [.a, .a, .a, (.e 0 (eA6 (eI .i64) (⟨(⟨r1.1.Generic, (0 : Int), (0 : Int), (0 : Int), (0 : Int), (0 : Int)⟩ : A6 (Int)).x0, r1.1.Color.x0, r1.1.Color.x1, r1.1.Color.x2, r1.1.Color.x3, r1.1.Color.x4⟩ : A6 (Int))))] [[6], [4], [2]] (fun n => ⟨[.undef, .undef, vP [2] (0), .undef, vP [4] (0), vI r1.2, vP [6] (0), .undef, .undef, .undef, .undef, .undef, .undef, .undef, .undef, cond (Nat.testBit n 0) (.c (.bsl [6] 1 5)) (.undef), cond (Nat.testBit n 1) (vP [4] (2)) (.undef), cond (Nat.testBit n 2) (.c (.bsl [4] 2 5)) (.undef), cond (Nat.testBit n 3) (vI (5 : Int)) (.undef), .undef, .undef, .undef, .undef, .undef, .undef, .undef, .undef, .undef, .undef], List.filterMap id [cond (Nat.testBit n 3) (some (bx [6] (eA6 (eI .i64) (⟨(⟨r1.1.Generic, (0 : Int), (0 : Int), (0 : Int), (0 : Int), (0 : Int)⟩ : A6 (Int)).x0, r1.1.Color.x0, r1.1.Color.x1, r1.1.Color.x2, r1.1.Color.x3, r1.1.Color.x4⟩ : A6 (Int))))) (some (bx [6] (eA6 (eI .i64) (⟨r1.1.Generic, (0 : Int), (0 : Int), (0 : Int), (0 : Int), (0 : Int)⟩ : A6 (Int))))), some (bx [4] (encSCost r1.1)), some (bx [2] (eA6 (eI .i64) (⟨(0 : Int), (0 : Int), (0 : Int), (0 : Int), (0 : Int), (0 : Int)⟩ : A6 (Int))))], [], []⟩) [[0 ≤ (1 : Int) ∧ (1 : Int) < ((6 : Nat) : Int) ∧ (1 : Int) ≤ ((6 : Nat) : Int) ∧ ((6 : Nat) : Int) ≤ ((6 : Nat) : Int)], [], [0 ≤ (0 : Int) ∧ (0 : Int) < ((5 : Nat) : Int) ∧ (0 : Int) ≤ ((5 : Nat) : Int) ∧ ((5 : Nat) : Int) ≤ ((5 : Nat) : Int)], [(eA6 (eI .i64) (⟨r1.1.Generic, (0 : Int), (0 : Int), (0 : Int), (0 : Int), (0 : Int)⟩ : A6 (Int))).take 1 ++ ((encSCost r1.1).drop 2).take 5 ++ (eA6 (eI .i64) (⟨r1.1.Generic, (0 : Int), (0 : Int), (0 : Int), (0 : Int), (0 : Int)⟩ : A6 (Int))).drop (1 + (((encSCost r1.1).drop 2).take 5).length) = (eA6 (eI .i64) (⟨(⟨r1.1.Generic, (0 : Int), (0 : Int), (0 : Int), (0 : Int), (0 : Int)⟩ : A6 (Int)).x0, r1.1.Color.x0, r1.1.Color.x1, r1.1.Color.x2, r1.1.Color.x3, r1.1.Color.x4⟩ : A6 (Int))), ((none : Option (TypeId × Nat × Nat)) = none) ∧ True]] followsP (by kernel_rfl) (by kernel_rfl) (by decide) (Less.t (by kernel_rfl)) (by kernel_rfl) ⟨⟨(by decide), trivial⟩, trivial, ⟨(by decide), trivial⟩, ⟨(by kernel_rfl), ⟨rfl, trivial⟩, trivial⟩, trivial⟩ ?_
 refine Tn ?_
 refine Ls (sl 29 [(2, vP [2] (0)), (4, vP [4] (0)), (5, vI r1.2), (6, vP [6] (0))] [bx [6] (eA6 (eI .i64) (⟨(⟨r1.1.Generic, (0 : Int), (0 : Int), (0 : Int), (0 : Int), (0 : Int)⟩ : A6 (Int)).x0, r1.1.Color.x0, r1.1.Color.x1, r1.1.Color.x2, r1.1.Color.x3, r1.1.Color.x4⟩ : A6 (Int))), bx [4] (encSCost r1.1), bx [2] (eA6 (eI .i64) (⟨(0 : Int), (0 : Int), (0 : Int), (0 : Int), (0 : Int), (0 : Int)⟩ : A6 (Int)))]) ?_
 refine Holds.seq ?_
 obtain ⟨r2, hr2, h⟩ := bS h
 obtain ⟨b3, hb3, h⟩ := bS h
 refine Rq followsP [.a, .a, .a, .a, (.c (vA encSCost r2)), .a, (.v (vB (!(r2 == r1.1)))), (.v (vB b3))] (sl 29 [(2, vP [2] (0)), (6, vP [6] (0)), (26, vB b3)] [bx [6] (eA6 (eI .i64) (⟨(⟨r1.1.Generic, (0 : Int), (0 : Int), (0 : Int), (0 : Int), (0 : Int)⟩ : A6 (Int)).x0, r1.1.Color.x0, r1.1.Color.x1, r1.1.Color.x2, r1.1.Color.x3, r1.1.Color.x4⟩ : A6 (Int))), bx [2] (eA6 (eI .i64) (⟨(0 : Int), (0 : Int), (0 : Int), (0 : Int), (0 : Int), (0 : Int)⟩ : A6 (Int)))]) (aC (c1 hr2 mana_cost_ok) <| aC (fun hg : ((r1.2 != (0 : Int)) == false) = true => aC (gi ((r1.2 != (0 : Int)) == false)) <| aC (gi ((r1.2 != (0 : Int)) == false)) <| aC (congrArg (fun z => V.c (.bool (!z))) (eqT34 r2 r1.1)) <| aN) <| aF (r1.2 != (0 : Int)) <| aB hb3 <| aN) ?_
 refine iB h (fun b4 h => ?_) (fun b4 h => ?_)
 · refine Rg [.a, .a, .a] (sl 29 [(2, vP [2] (0)), (3, vI (3 : Int))] [bx [2] (eA6 (eI .i64) (⟨(0 : Int), (0 : Int), (0 : Int), (0 : Int), (0 : Int), (0 : Int)⟩ : A6 (Int)))]) (aC (And.intro trivial okp31) <| aN) ?_
   refine Holds.ret ?_
   refine Tr ?_
   exact bE (.tup [vA (eA6 (eI .i64)) (⟨(0 : Int), (0 : Int), (0 : Int), (0 : Int), (0 : Int), (0 : Int)⟩ : A6 (Int)), vI (3 : Int)]) (.tup [.agg (eA6 (eI .i64) (⟨(0 : Int), (0 : Int), (0 : Int), (0 : Int), (0 : Int), (0 : Int)⟩ : A6 (Int))), vI (3 : Int)]) (congrArg (fun (q : (A6 (Int)) × Int) => (.tup [vA (eA6 (eI .i64)) q.1, vI q.2] : V)) (sI h))
 · refine Holds.skip ?_
   refine Tn ?_
   refine Rg [.a, .a, .a] (sl 29 [(2, vP [2] (0)), (3, vI (0 : Int))] [bx [2] (eA6 (eI .i64) (⟨(⟨r1.1.Generic, (0 : Int), (0 : Int), (0 : Int), (0 : Int), (0 : Int)⟩ : A6 (Int)).x0, r1.1.Color.x0, r1.1.Color.x1, r1.1.Color.x2, r1.1.Color.x3, r1.1.Color.x4⟩ : A6 (Int)))]) (aN) ?_
   refine Holds.ret ?_
   exact bE (.tup [vA (eA6 (eI .i64)) (⟨(⟨r1.1.Generic, (0 : Int), (0 : Int), (0 : Int), (0 : Int), (0 : Int)⟩ : A6 (Int)).x0, r1.1.Color.x0, r1.1.Color.x1, r1.1.Color.x2, r1.1.Color.x3, r1.1.Color.x4⟩ : A6 (Int)), vI (0 : Int)]) (.tup [.agg (eA6 (eI .i64) (⟨(⟨r1.1.Generic, (0 : Int), (0 : Int), (0 : Int), (0 : Int), (0 : Int)⟩ : A6 (Int)).x0, r1.1.Color.x0, r1.1.Color.x1, r1.1.Color.x2, r1.1.Color.x3, r1.1.Color.x4⟩ : A6 (Int))), vI (0 : Int)]) (congrArg (fun (q : (A6 (Int)) × Int) => (.tup [vA (eA6 (eI .i64)) q.1, vI q.2] : V)) (sI h))
def r08_ParsePool_J5  (b6_4 : A6 (Int)) : Option ((A6 (Int)) × Int) :=
 some (b6_4, (0 : Int))
def r08_ParsePool_B11 (r1 : SCost × Int) (i_t7_8 : Int) (b6_9 : A6 (Int)) : Option ((Int × (A6 (Int))) ⊕ ((A6 (Int)))) :=
 (if (decide (i_t7_8 < (5 : Int))) = true then
  (idx r1.1.Color.l i_t7_8).bind fun e13 =>
  (idx b6_9.l (wrap64 (i_t7_8 + (1 : Int)))).bind fun e14 =>
  some (.inl ((wrap64 (i_t7_8 + (1 : Int))), (b6_9.set (wrap64 (i_t7_8 + (1 : Int))).toNat e13)))
 else
  some (.inr b6_9))
/-- cardgame/cardgameref08.ParsePool -/
def r08_ParsePool (a0 : List UInt8) : Option ((A6 (Int)) × Int) :=
 (r08_Parse a0).bind fun r1 =>
 (some (if (r1.2 != (0 : Int)) = true then true else decide ((0 : Int) < r1.1.X))).bind fun b2 =>
 (if b2 = true then
  some ((⟨(0 : Int), (0 : Int), (0 : Int), (0 : Int), (0 : Int), (0 : Int)⟩ : A6 (Int)), (3 : Int))
 else
  (iter (fun (v : Int × (A6 (Int))) => r08_ParsePool_B11 r1 v.1 v.2) FU ((0 : Int), (⟨r1.1.Generic, (0 : Int), (0 : Int), (0 : Int), (0 : Int), (0 : Int)⟩ : A6 (Int)))).bind (fun o0 => r08_ParsePool_J5 o0))
def r08_ParsePool_C (a0 : List UInt8) (r : (A6 (Int)) × Int) : Prop := PCall Tryd.prog I0 37 [vS a0] (· = .tup [vA (eA6 (eI .i64)) r.1, vI r.2])
theorem r08_ParsePool_ok {a0 : List UInt8} {r : (A6 (Int)) × Int} (h : r08_ParsePool a0 = some r) : r08_ParsePool_C a0 r := by
 refine PCall.body I0_stable (by kernel_rfl) Tryd.func37 rfl Tryd.ntmps37 (rs := [.cell 2 31, .tmp 3]) rfl rfl ?_
 intro w0 av old gv
 unfold r08_ParsePool at h
 refine Rg [.a, .a] (sl 36 [(0, vS a0), (2, vP [2] (0))] [bx [2] (eA6 (eI .i64) (⟨(0 : Int), (0 : Int), (0 : Int), (0 : Int), (0 : Int), (0 : Int)⟩ : A6 (Int)))]) (aN) ?_
 obtain ⟨r1, hr1, h⟩ := bS h
 refine Rg [.a, (.c (.tup [vA encSCost r1.1, vI r1.2])), .a, .a, .a, .a, .a, .a] (sl 36 [(2, vP [2] (0)), (4, vP [4] (0)), (5, vI r1.2)] [bx [4] (encSCost r1.1), bx [2] (eA6 (eI .i64) (⟨(0 : Int), (0 : Int), (0 : Int), (0 : Int), (0 : Int), (0 : Int)⟩ : A6 (Int)))]) (aC (r08_Parse_ok hr1) <| aC (show True ∧ 0 < [V.undef, V.undef].length from ⟨trivial, (by decide)⟩) <| aC (show True ∧ 1 < [V.undef, V.undef].length from ⟨trivial, (by decide)⟩) <| aN) ?_
 refine Holds.seq ?_
 obtain ⟨b2, hb2, h⟩ := bS h
 refine Rg [.a, .a, .a, .a, .a, .a, (.v (vB b2))] (sl 36 [(2, vP [2] (0)), (4, vP [4] (0)), (19, vB b2)] [bx [4] (encSCost r1.1), bx [2] (eA6 (eI .i64) (⟨(0 : Int), (0 : Int), (0 : Int), (0 : Int), (0 : Int), (0 : Int)⟩ : A6 (Int)))]) (aG ((r1.2 != (0 : Int)) == false) <| aG ((r1.2 != (0 : Int)) == false) <| aF (r1.2 != (0 : Int)) <| aB hb2 <| aN) ?_
 refine iB h (fun b3 h => ?_) (fun b3 h => ?_)
 · refine Rg [.a, .a, .a] (sl 36 [(2, vP [2] (0)), (3, vI (3 : Int))] [bx [2] (eA6 (eI .i64) (⟨(0 : Int), (0 : Int), (0 : Int), (0 : Int), (0 : Int), (0 : Int)⟩ : A6 (Int)))]) (aC (And.intro trivial okp31) <| aN) ?_
   refine Holds.ret ?_
   refine Tr ?_
   exact bE (.tup [vA (eA6 (eI .i64)) (⟨(0 : Int), (0 : Int), (0 : Int), (0 : Int), (0 : Int), (0 : Int)⟩ : A6 (Int)), vI (3 : Int)]) (.tup [.agg (eA6 (eI .i64) (⟨(0 : Int), (0 : Int), (0 : Int), (0 : Int), (0 : Int), (0 : Int)⟩ : A6 (Int))), vI (3 : Int)]) (congrArg (fun (q : (A6 (Int)) × Int) => (.tup [vA (eA6 (eI .i64)) q.1, vI q.2] : V)) (sI h))
 · refine Holds.skip ?_
   refine Tn ?_
   refine Rg [.a, .a, .a, .a, .a] (sl 36 [(2, vP [2] (0)), (4, vP [4] (0)), (6, vP [6] (0))] [bx [6] (eA6 (eI .i64) (⟨r1.1.Generic, (0 : Int), (0 : Int), (0 : Int), (0 : Int), (0 : Int)⟩ : A6 (Int))), bx [4] (encSCost r1.1), bx [2] (eA6 (eI .i64) (⟨(0 : Int), (0 : Int), (0 : Int), (0 : Int), (0 : Int), (0 : Int)⟩ : A6 (Int)))]) (aC (And.intro (show True ∧ True from ⟨trivial, trivial⟩) okp31) <| aN) ?_
   refine Sj (X := (A6 (Int))) (fun v => (sl 36 [(2, vP [2] (0)), (6, vP [6] (0))] [bx [6] (eA6 (eI .i64) v), bx [2] (eA6 (eI .i64) (⟨(0 : Int), (0 : Int), (0 : Int), (0 : Int), (0 : Int), (0 : Int)⟩ : A6 (Int)))])) (fun v => r08_ParsePool_J5 v = some r) ?_ ?_
   · refine Rg [.a] (sl 36 [(2, vP [2] (0)), (4, vP [4] (0)), (6, vP [6] (0)), (7, vI (0 : Int))] [bx [6] (eA6 (eI .i64) (⟨r1.1.Generic, (0 : Int), (0 : Int), (0 : Int), (0 : Int), (0 : Int)⟩ : A6 (Int))), bx [4] (encSCost r1.1), bx [2] (eA6 (eI .i64) (⟨(0 : Int), (0 : Int), (0 : Int), (0 : Int), (0 : Int), (0 : Int)⟩ : A6 (Int)))]) (aN) ?_
     refine Holds.block ?_
     obtain ⟨oB11, hiB11, h⟩ := bS h
     refine It (fun (v : Int × (A6 (Int))) => (sl 36 [(2, vP [2] (0)), (4, vP [4] (0)), (6, vP [6] (0)), (7, vI v.1)] [bx [6] (eA6 (eI .i64) v.2), bx [4] (encSCost r1.1), bx [2] (eA6 (eI .i64) (⟨(0 : Int), (0 : Int), (0 : Int), (0 : Int), (0 : Int), (0 : Int)⟩ : A6 (Int)))])) hiB11 (wT) ?_
     rintro ⟨i_t7_8, b6_9⟩ zB11 hzB11 hoB11
     replace hzB11 : r08_ParsePool_B11 r1 i_t7_8 b6_9 = some zB11 := hzB11
     unfold r08_ParsePool_B11 at hzB11
     refine Holds.seq ?_
     refine Rg [.a, .a] (sl 36 [(2, vP [2] (0)), (4, vP [4] (0)), (6, vP [6] (0)), (7, vI i_t7_8), (25, vB (decide (i_t7_8 < (5 : Int))))] [bx [6] (eA6 (eI .i64) b6_9), bx [4] (encSCost r1.1), bx [2] (eA6 (eI .i64) (⟨(0 : Int), (0 : Int), (0 : Int), (0 : Int), (0 : Int), (0 : Int)⟩ : A6 (Int)))]) (aN) ?_
     refine iB hzB11 (fun b12 hzB11 => ?_) (fun b12 hzB11 => ?_)
     · refine Holds.skip ?_
       refine Tn ?_
       refine Holds.seq ?_
       refine Holds.block ?_
       obtain ⟨e13, he13, hzB11⟩ := bS hzB11
       obtain ⟨e14, he14, hzB11⟩ := bS hzB11
       refine Re [.a, .a, .a, .a, .a, (.v (vI e13)), .a, (.e 0 (eA6 (eI .i64) (b6_9.set (wrap64 (i_t7_8 + (1 : Int))).toNat e13)))] (sl 36 [(2, vP [2] (0)), (4, vP [4] (0)), (6, vP [6] (0)), (7, vI i_t7_8), (25, vB (decide (i_t7_8 < (5 : Int)))), (28, vI i_t7_8), (29, vI (wrap64 (i_t7_8 + (1 : Int)))), (30, vI i_t7_8), (31, vP [4] (2)), (32, vP [4] (2 + (i_t7_8).toNat * 1)), (33, vI e13), (34, vP [6] (0 + (wrap64 (i_t7_8 + (1 : Int))).toNat * 1))] [bx [6] (eA6 (eI .i64) (b6_9.set (wrap64 (i_t7_8 + (1 : Int))).toNat e13)), bx [4] (encSCost r1.1), bx [2] (eA6 (eI .i64) (⟨(0 : Int), (0 : Int), (0 : Int), (0 : Int), (0 : Int), (0 : Int)⟩ : A6 (Int)))]) (aC (idx_b he13) <| aC (ald he13 (lenI .i64) (encSCost r1.1) 2 7 0 1 false (vI e13)) <| aC (Eq.refl (vI e13)) <| aC (idx_b he14) <| aC (show 0 + (wrap64 (i_t7_8 + (1 : Int))).toNat * 1 + 1 ≤ (eA6 (eI .i64) b6_9).length ∧ (eA6 (eI .i64) b6_9).take (0 + (wrap64 (i_t7_8 + (1 : Int))).toNat * 1) ++ ([.int .i64 e13] : List C) ++ (eA6 (eI .i64) b6_9).drop (0 + (wrap64 (i_t7_8 + (1 : Int))).toNat * 1 + ([.int .i64 e13] : List C).length) = (eA6 (eI .i64) (b6_9.set (wrap64 (i_t7_8 + (1 : Int))).toNat e13)) from (arr_st (e := eI .i64) (N := 1) (l := b6_9.l) (i := wrap64 (i_t7_8 + (1 : Int))) (x' := e13) (o := 0) (base := 0) (cs := ([.int .i64 e13] : List C)) (pre := (eA6 (eI .i64) b6_9).take 0) (post := (eA6 (eI .i64) b6_9).drop 6) (by kernel_rfl) (by kernel_rfl) (by kernel_rfl) (A6.l_set _ _ _) he14 (lenI .i64) (by omega) (Nat.le_of_ble_eq_true (by kernel_rfl)) (by kernel_rfl))) <| aC (show ((none : Option (TypeId × Nat × Nat)) = none) ∧ True from ⟨rfl, trivial⟩) <| aN) ?_
       refine blockQ.normal ?_
       refine Tn ?_
       refine Re [.a, .a, .a] (sl 36 [(2, vP [2] (0)), (4, vP [4] (0)), (6, vP [6] (0)), (7, vI (wrap64 (i_t7_8 + (1 : Int)))), (25, vB (decide (i_t7_8 < (5 : Int)))), (26, vI i_t7_8), (27, vI (wrap64 (i_t7_8 + (1 : Int)))), (28, vI i_t7_8), (29, vI (wrap64 (i_t7_8 + (1 : Int)))), (30, vI i_t7_8), (31, vP [4] (2)), (32, vP [4] (2 + (i_t7_8).toNat * 1)), (33, vI e13), (34, vP [6] (0 + (wrap64 (i_t7_8 + (1 : Int))).toNat * 1))] [bx [6] (eA6 (eI .i64) (b6_9.set (wrap64 (i_t7_8 + (1 : Int))).toNat e13)), bx [4] (encSCost r1.1), bx [2] (eA6 (eI .i64) (⟨(0 : Int), (0 : Int), (0 : Int), (0 : Int), (0 : Int), (0 : Int)⟩ : A6 (Int)))]) (aN) ?_
       refine Tn ⟨((wrap64 (i_t7_8 + (1 : Int))), (b6_9.set (wrap64 (i_t7_8 + (1 : Int))).toNat e13)), (sI hzB11).symm, wT⟩
     · refine Holds.exit ?_
       refine thenQ.exit ?_
       have hoB11_ := hoB11 _ (sI hzB11).symm
       subst hoB11_
       refine thenQ.exit ?_
       refine blockQ.out ?_
       refine Tn ⟨b6_9, h, wT⟩
   · rintro b6_4 hJ5
     replace hJ5 : r08_ParsePool_J5 b6_4 = some r := hJ5
     unfold r08_ParsePool_J5 at hJ5
     refine Rg [.a, .a, .a] (sl 36 [(2, vP [2] (0)), (3, vI (0 : Int))] [bx [2] (eA6 (eI .i64) b6_4)]) (aN) ?_
     refine Holds.ret ?_
     exact bE (.tup [vA (eA6 (eI .i64)) b6_4, vI (0 : Int)]) (.tup [.agg (eA6 (eI .i64) b6_4), vI (0 : Int)]) (congrArg (fun (q : (A6 (Int)) × Int) => (.tup [vA (eA6 (eI .i64)) q.1, vI q.2] : V)) (sI hJ5))
end Go.PL
