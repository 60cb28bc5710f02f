/- Functions of the program, as partial functions in Lean, with proofs. -/
import Derived.Test.YtedobbmpljbccaaGreatDoorPlDkB
import Derived.Test.YtedobbmpljbccaaGreatDoorPlDkF0
import Derived.Test.YtedobbmpljbccaaGreatDoorPlDkF2
import Derived.Test.YtedobbmpljbccaaGreatDoorPlDkF4
import Derived.Test.YtedobbmpljbccaaGreatDoorPlDkF5
import Derived.Test.YtedobbmpljbccaaGreatDoorPlDkF6
import Derived.Test.YtedobbmpljbccaaGreatDoorPlDkF9
namespace Go.PL
open Go Go.RowKit Go.Proofs
set_option maxRecDepth 100000
set_option linter.all false
set_option maxHeartbeats 1000000
attribute [local irreducible] Holds thenQ blockQ
def r17_Is_J22 (vt5_3 : Bool) (b8 : Bool) (b12 : Bool) (vt8_13 : Bool) (vt9_15 : Bool) (vt10_17 : Bool) (vt11_19 : Bool) (vt12_21 : Bool) : Option (Bool) :=
 (some (if vt5_3 = true then b8 else false)).bind fun b23 =>
 (some (if b23 = true then b12 else false)).bind fun b24 =>
 (some (if b24 = true then vt8_13 else false)).bind fun b25 =>
 (some (if b25 = true then vt9_15 else false)).bind fun b26 =>
 (some (if b26 = true then vt10_17 else false)).bind fun b27 =>
 (some (if b27 = true then vt11_19 else false)).bind fun b28 =>
 (some (if b28 = true then vt12_21 else false)).bind fun b29 =>
 some b29
def r17_Is_J20 (a0 : SEffect) (vt5_3 : Bool) (b8 : Bool) (b12 : Bool) (vt8_13 : Bool) (vt9_15 : Bool) (vt10_17 : Bool) (vt11_19 : Bool) : Option (Bool) :=
 (r17_uses a0.Op (102 : Int)).bind fun r30 =>
 (if r30 = true then
  (r17_filter a0.Op a0.Filter).bind fun r32 =>
  r17_Is_J22 vt5_3 b8 b12 vt8_13 vt9_15 vt10_17 vt11_19 r32
 else
  r17_Is_J22 vt5_3 b8 b12 vt8_13 vt9_15 vt10_17 vt11_19 (a0.Filter == (⟨(0 : Int), (0 : Int), (0 : Int), (0 : Int), (0 : Int), (0 : Int), (0 : Int), [], (0 : Int), (0 : Int), (⟨(0 : Int), (0 : Int)⟩ : SBound), (⟨(0 : Int), (0 : Int)⟩ : SBound), (⟨(0 : Int), (0 : Int)⟩ : SBound)⟩ : SFilter)))
def r17_Is_J18 (a0 : SEffect) (vt5_3 : Bool) (b8 : Bool) (b12 : Bool) (vt8_13 : Bool) (vt9_15 : Bool) (vt10_17 : Bool) : Option (Bool) :=
 (r17_uses a0.Op (112 : Int)).bind fun r33 =>
 (if r33 = true then
  (gd ((!(a0.Pool == (⟨(0 : Int), (0 : Int), (0 : Int), (0 : Int), (0 : Int), (0 : Int)⟩ : A6 (Int)))) == true) (r08_PoolText a0.Pool)).bind fun r35 =>
  (some (if (!(a0.Pool == (⟨(0 : Int), (0 : Int), (0 : Int), (0 : Int), (0 : Int), (0 : Int)⟩ : A6 (Int)))) = true then r35 != ([] : List UInt8) else false)).bind fun b36 =>
  r17_Is_J20 a0 vt5_3 b8 b12 vt8_13 vt9_15 vt10_17 b36
 else
  r17_Is_J20 a0 vt5_3 b8 b12 vt8_13 vt9_15 vt10_17 (a0.Pool == (⟨(0 : Int), (0 : Int), (0 : Int), (0 : Int), (0 : Int), (0 : Int)⟩ : A6 (Int))))
def r17_Is_J16 (a0 : SEffect) (vt5_3 : Bool) (b8 : Bool) (b12 : Bool) (vt8_13 : Bool) (vt9_15 : Bool) : Option (Bool) :=
 (r17_uses a0.Op (109 : Int)).bind fun r37 =>
 (if r37 = true then
  (r17_mods a0.Mods).bind fun r39 =>
  r17_Is_J18 a0 vt5_3 b8 b12 vt8_13 vt9_15 r39
 else
  r17_Is_J18 a0 vt5_3 b8 b12 vt8_13 vt9_15 ((a0.Mods.length : Int) == (0 : Int)))
def r17_Is_J14 (a0 : SEffect) (vt5_3 : Bool) (b8 : Bool) (b12 : Bool) (vt8_13 : Bool) : Option (Bool) :=
 (r17_uses a0.Op (97 : Int)).bind fun r40 =>
 (if r40 = true then
  (r14_Is a0.Amount).bind fun r42 =>
  r17_Is_J16 a0 vt5_3 b8 b12 vt8_13 r42
 else
  r17_Is_J16 a0 vt5_3 b8 b12 vt8_13 (a0.Amount == (⟨(0 : Int), (0 : Int), (0 : Int), (⟨(0 : Int), (0 : Int), (0 : Int), (0 : Int), (0 : Int), (0 : Int), (0 : Int), [], (0 : Int), (0 : Int), (⟨(0 : Int), (0 : Int)⟩ : SBound), (⟨(0 : Int), (0 : Int)⟩ : SBound), (⟨(0 : Int), (0 : Int)⟩ : SBound)⟩ : SFilter)⟩ : SAmount)))
def r17_Is_J4 (a0 : SEffect) (vt5_3 : Bool) : Option (Bool) :=
 (gd ((a0.Zone == (0 : Int)) == false) (r17_uses a0.Op (122 : Int))).bind fun r5 =>
 (some (if r5 = true then decide ((0 : Int) < a0.Zone) else false)).bind fun b6 =>
 (some (if b6 = true then decide (a0.Zone ≤ (4 : Int)) else false)).bind fun b7 =>
 (some (if (a0.Zone == (0 : Int)) = true then true else b7)).bind fun b8 =>
 (gd ((a0.Counter == (0 : Int)) == false) (r17_uses a0.Op (107 : Int))).bind fun r9 =>
 (gd (((a0.Counter == (0 : Int)) == false) && (r9 == true)) (r12_Name a0.Counter)).bind fun r10 =>
 (some (if r9 = true then r10 != ([] : List UInt8) else false)).bind fun b11 =>
 (some (if (a0.Counter == (0 : Int)) = true then true else b11)).bind fun b12 =>
 (r17_uses a0.Op (99 : Int)).bind fun r43 =>
 (if r43 = true then
  (r02_Is a0.Card).bind fun r45 =>
  r17_Is_J14 a0 vt5_3 b8 b12 r45
 else
  r17_Is_J14 a0 vt5_3 b8 b12 (a0.Card == ([] : List UInt8)))
/-- cardgame/cardgameref17.Is -/
def r17_Is (a0 : SEffect) (a1 : Int) : Option (Bool) :=
 (r17_Word a0.Op).bind fun r1 =>
 (if (r1 == ([] : List UInt8)) = true then
  some false
 else
  (r17_uses a0.Op (114 : Int)).bind fun r46 =>
  (if r46 = true then
   (r16_Is a0.Ref a1).bind fun r48 =>
   r17_Is_J4 a0 r48
  else
   r17_Is_J4 a0 (a0.Ref == (⟨(0 : Int), (0 : Int), (⟨(0 : Int), (0 : Int), (0 : Int), (0 : Int), (0 : Int), (0 : Int), (0 : Int), [], (0 : Int), (0 : Int), (⟨(0 : Int), (0 : Int)⟩ : SBound), (⟨(0 : Int), (0 : Int)⟩ : SBound), (⟨(0 : Int), (0 : Int)⟩ : SBound)⟩ : SFilter)⟩ : SRef))))
def r17_Is_C (a0 : SEffect) (a1 : Int) (r : Bool) : Prop := PCall Tryz.prog I0 106 [vA encSEffect a0, vI a1] (· = vB r)
theorem r17_Is_ok {a0 : SEffect} {a1 : Int} {r : Bool} (h : r17_Is a0 a1 = some r) : r17_Is_C a0 a1 r := by
 refine PCall.body I0_stable (by kernel_rfl) Tryz.func106 rfl Tryz.ntmps106 (rs := [.tmp 4]) rfl rfl ?_
 intro w0 av old gv
 unfold r17_Is at h
 refine Rg [.a, .a] (sl 138 [(1, vI a1), (2, vP [2] (0))] [bx [2] (encSEffect a0)]) (aN) ?_
 refine Holds.seq ?_
 obtain ⟨r1, hr1, h⟩ := bS h
 refine Rg [.a, .a, (.c (vS r1)), .a] (sl 138 [(1, vI a1), (2, vP [2] (0)), (16, vB (r1 == ([] : List UInt8)))] [bx [2] (encSEffect a0)]) (aC (r17_Word_ok hr1) <| aN) ?_
 refine iB h (fun b2 h => ?_) (fun b2 h => ?_)
 · refine Rg [.a] (sl 138 [(4, vB false)] []) (aN) ?_
   refine Holds.ret ?_
   refine Tr ?_
   exact bQ (vB false) (congrArg vB (sI h))
 · refine Holds.skip ?_
   refine Tn ?_
   refine Rg [.a, .a, .a, (.v (vB (a0.Ref == (⟨(0 : Int), (0 : Int), (⟨(0 : Int), (0 : Int), (0 : Int), (0 : Int), (0 : Int), (0 : Int), (0 : Int), [], (0 : Int), (0 : Int), (⟨(0 : Int), (0 : Int)⟩ : SBound), (⟨(0 : Int), (0 : Int)⟩ : SBound), (⟨(0 : Int), (0 : Int)⟩ : SBound)⟩ : SFilter)⟩ : SRef)))), .a] (sl 138 [(1, vI a1), (2, vP [2] (0)), (5, vB (a0.Ref == (⟨(0 : Int), (0 : Int), (⟨(0 : Int), (0 : Int), (0 : Int), (0 : Int), (0 : Int), (0 : Int), (0 : Int), [], (0 : Int), (0 : Int), (⟨(0 : Int), (0 : Int)⟩ : SBound), (⟨(0 : Int), (0 : Int)⟩ : SBound), (⟨(0 : Int), (0 : Int)⟩ : SBound)⟩ : SFilter)⟩ : SRef)))] [bx [2] (encSEffect a0)]) (aC (And.intro trivial okp107) <| aC (congrArg (fun z => V.c (.bool (z))) (eqT107 a0.Ref (⟨(0 : Int), (0 : Int), (⟨(0 : Int), (0 : Int), (0 : Int), (0 : Int), (0 : Int), (0 : Int), (0 : Int), [], (0 : Int), (0 : Int), (⟨(0 : Int), (0 : Int)⟩ : SBound), (⟨(0 : Int), (0 : Int)⟩ : SBound), (⟨(0 : Int), (0 : Int)⟩ : SBound)⟩ : SFilter)⟩ : SRef))) <| aN) ?_
   refine Sj (X := Bool) (fun v => (sl 138 [(2, vP [2] (0)), (5, vB v)] [bx [2] (encSEffect a0)])) (fun v => r17_Is_J4 a0 v = some r) ?_ ?_
   · obtain ⟨r46, hr46, h⟩ := bS h
     refine Rg [.a, .a, (.c (vB r46))] (sl 138 [(1, vI a1), (2, vP [2] (0)), (5, vB (a0.Ref == (⟨(0 : Int), (0 : Int), (⟨(0 : Int), (0 : Int), (0 : Int), (0 : Int), (0 : Int), (0 : Int), (0 : Int), [], (0 : Int), (0 : Int), (⟨(0 : Int), (0 : Int)⟩ : SBound), (⟨(0 : Int), (0 : Int)⟩ : SBound), (⟨(0 : Int), (0 : Int)⟩ : SBound)⟩ : SFilter)⟩ : SRef))), (23, vB r46)] [bx [2] (encSEffect a0)]) (aC (r17_uses_ok hr46) <| aN) ?_
     refine iB h (fun b47 h => ?_) (fun b47 h => ?_)
     · obtain ⟨r48, hr48, h⟩ := bS h
       refine Re [.a, .a, .a, (.c (vB r48)), .a] (sl 138 [(1, vI a1), (2, vP [2] (0)), (5, vB r48), (23, vB r46), (24, vP [2] (1)), (25, vA encSRef a0.Ref), (26, vI a1), (27, vB r48)] [bx [2] (encSEffect a0)]) (aC (r16_Is_ok hr48) <| aN) ?_
       refine Tn ⟨r48, h, wT⟩
     · refine Holds.skip ?_
       refine Tn ⟨(a0.Ref == (⟨(0 : Int), (0 : Int), (⟨(0 : Int), (0 : Int), (0 : Int), (0 : Int), (0 : Int), (0 : Int), (0 : Int), [], (0 : Int), (0 : Int), (⟨(0 : Int), (0 : Int)⟩ : SBound), (⟨(0 : Int), (0 : Int)⟩ : SBound), (⟨(0 : Int), (0 : Int)⟩ : SBound)⟩ : SFilter)⟩ : SRef)), h, wT⟩
   · rintro vt5_3 hJ4
     replace hJ4 : r17_Is_J4 a0 vt5_3 = some r := hJ4
     unfold r17_Is_J4 at hJ4
     obtain ⟨r5, hr5, hJ4⟩ := bS hJ4
     obtain ⟨b6, hb6, hJ4⟩ := bS hJ4
     obtain ⟨b7, hb7, hJ4⟩ := bS hJ4
     obtain ⟨b8, hb8, hJ4⟩ := bS hJ4
     refine Rg [.a, .a, .a, .a, .a, .a, (.c (vB r5)), .a, .a, .a, .a, (.v (vB b6)), .a, .a, .a, .a, (.v (vB b7)), (.v (vB b8)), .a] (sl 138 [(2, vP [2] (0)), (5, vB vt5_3), (6, vB b8)] [bx [2] (encSEffect a0)]) (aG ((a0.Zone == (0 : Int)) == false) <| aC (c1 hr5 r17_uses_ok) <| aG ((a0.Zone == (0 : Int)) == false) <| aG (((a0.Zone == (0 : Int)) == false) && (r5 == true)) <| aG (((a0.Zone == (0 : Int)) == false) && (r5 == true)) <| aC (fun hg : ((a0.Zone == (0 : Int)) == false) = true => aC (gi ((a0.Zone == (0 : Int)) == false)) <| aC (fun q : r5 = true => (gA hg (gT q))) <| aB hb6 <| aN) <| aG ((a0.Zone == (0 : Int)) == false) <| aG (((a0.Zone == (0 : Int)) == false) && (b6 == true)) <| aG (((a0.Zone == (0 : Int)) == false) && (b6 == true)) <| aC (fun hg : ((a0.Zone == (0 : Int)) == false) = true => aC (gi ((a0.Zone == (0 : Int)) == false)) <| aC (fun q : b6 = true => (gA hg (gT q))) <| aB hb7 <| aN) <| aF (a0.Zone == (0 : Int)) <| aB hb8 <| aN) ?_
     obtain ⟨r9, hr9, hJ4⟩ := bS hJ4
     obtain ⟨r10, hr10, hJ4⟩ := bS hJ4
     obtain ⟨b11, hb11, hJ4⟩ := bS hJ4
     obtain ⟨b12, hb12, hJ4⟩ := bS hJ4
     refine Rg [.a, .a, .a, .a, .a, .a, (.c (vB r9)), .a, .a, .a, (.c (vS r10)), .a, (.v (vB b11)), (.v (vB b12)), .a] (sl 138 [(2, vP [2] (0)), (5, vB vt5_3), (6, vB b8), (7, vB b12)] [bx [2] (encSEffect a0)]) (aG ((a0.Counter == (0 : Int)) == false) <| aC (c1 hr9 r17_uses_ok) <| aG ((a0.Counter == (0 : Int)) == false) <| aG (((a0.Counter == (0 : Int)) == false) && (r9 == true)) <| aC (c1 hr10 r12_Name_ok) <| aG (((a0.Counter == (0 : Int)) == false) && (r9 == true)) <| aC (fun hg : ((a0.Counter == (0 : Int)) == false) = true => aC (gi ((a0.Counter == (0 : Int)) == false)) <| aC (fun q : r9 = true => (gA hg (gT q))) <| aB hb11 <| aN) <| aF (a0.Counter == (0 : Int)) <| aB hb12 <| aN) ?_
     refine Rg [.a, .a, .a, .a] (sl 138 [(2, vP [2] (0)), (5, vB vt5_3), (6, vB b8), (7, vB b12), (8, vB (a0.Card == ([] : List UInt8)))] [bx [2] (encSEffect a0)]) (aN) ?_
     refine Sj (X := Bool) (fun v => (sl 138 [(2, vP [2] (0)), (5, vB vt5_3), (6, vB b8), (7, vB b12), (8, vB v)] [bx [2] (encSEffect a0)])) (fun v => r17_Is_J14 a0 vt5_3 b8 b12 v = some r) ?_ ?_
     · obtain ⟨r43, hr43, hJ4⟩ := bS hJ4
       refine Rg [.a, .a, (.c (vB r43))] (sl 138 [(2, vP [2] (0)), (5, vB vt5_3), (6, vB b8), (7, vB b12), (8, vB (a0.Card == ([] : List UInt8))), (65, vB r43)] [bx [2] (encSEffect a0)]) (aC (r17_uses_ok hr43) <| aN) ?_
       refine iB hJ4 (fun b44 hJ4 => ?_) (fun b44 hJ4 => ?_)
       · obtain ⟨r45, hr45, hJ4⟩ := bS hJ4
         refine Re [.a, .a, (.c (vB r45)), .a] (sl 138 [(2, vP [2] (0)), (5, vB vt5_3), (6, vB b8), (7, vB b12), (8, vB r45), (65, vB r43), (66, vP [2] (40)), (67, vS a0.Card), (68, vB r45)] [bx [2] (encSEffect a0)]) (aC (r02_Is_ok hr45) <| aN) ?_
         refine Tn ⟨r45, hJ4, wT⟩
       · refine Holds.skip ?_
         refine Tn ⟨(a0.Card == ([] : List UInt8)), hJ4, wT⟩
     · rintro vt8_13 hJ14
       replace hJ14 : r17_Is_J14 a0 vt5_3 b8 b12 vt8_13 = some r := hJ14
       unfold r17_Is_J14 at hJ14
       refine Rg [.a, .a, .a, (.v (vB (a0.Amount == (⟨(0 : Int), (0 : Int), (0 : Int), (⟨(0 : Int), (0 : Int), (0 : Int), (0 : Int), (0 : Int), (0 : Int), (0 : Int), [], (0 : Int), (0 : Int), (⟨(0 : Int), (0 : Int)⟩ : SBound), (⟨(0 : Int), (0 : Int)⟩ : SBound), (⟨(0 : Int), (0 : Int)⟩ : SBound)⟩ : SFilter)⟩ : SAmount)))), .a] (sl 138 [(2, vP [2] (0)), (5, vB vt5_3), (6, vB b8), (7, vB b12), (8, vB vt8_13), (9, vB (a0.Amount == (⟨(0 : Int), (0 : Int), (0 : Int), (⟨(0 : Int), (0 : Int), (0 : Int), (0 : Int), (0 : Int), (0 : Int), (0 : Int), [], (0 : Int), (0 : Int), (⟨(0 : Int), (0 : Int)⟩ : SBound), (⟨(0 : Int), (0 : Int)⟩ : SBound), (⟨(0 : Int), (0 : Int)⟩ : SBound)⟩ : SFilter)⟩ : SAmount)))] [bx [2] (encSEffect a0)]) (aC (And.intro trivial okp109) <| aC (congrArg (fun z => V.c (.bool (z))) (eqT109 a0.Amount (⟨(0 : Int), (0 : Int), (0 : Int), (⟨(0 : Int), (0 : Int), (0 : Int), (0 : Int), (0 : Int), (0 : Int), (0 : Int), [], (0 : Int), (0 : Int), (⟨(0 : Int), (0 : Int)⟩ : SBound), (⟨(0 : Int), (0 : Int)⟩ : SBound), (⟨(0 : Int), (0 : Int)⟩ : SBound)⟩ : SFilter)⟩ : SAmount))) <| aN) ?_
       refine Sj (X := Bool) (fun v => (sl 138 [(2, vP [2] (0)), (5, vB vt5_3), (6, vB b8), (7, vB b12), (8, vB vt8_13), (9, vB v)] [bx [2] (encSEffect a0)])) (fun v => r17_Is_J16 a0 vt5_3 b8 b12 vt8_13 v = some r) ?_ ?_
       · obtain ⟨r40, hr40, hJ14⟩ := bS hJ14
         refine Rg [.a, .a, (.c (vB r40))] (sl 138 [(2, vP [2] (0)), (5, vB vt5_3), (6, vB b8), (7, vB b12), (8, vB vt8_13), (9, vB (a0.Amount == (⟨(0 : Int), (0 : Int), (0 : Int), (⟨(0 : Int), (0 : Int), (0 : Int), (0 : Int), (0 : Int), (0 : Int), (0 : Int), [], (0 : Int), (0 : Int), (⟨(0 : Int), (0 : Int)⟩ : SBound), (⟨(0 : Int), (0 : Int)⟩ : SBound), (⟨(0 : Int), (0 : Int)⟩ : SBound)⟩ : SFilter)⟩ : SAmount))), (75, vB r40)] [bx [2] (encSEffect a0)]) (aC (r17_uses_ok hr40) <| aN) ?_
         refine iB hJ14 (fun b41 hJ14 => ?_) (fun b41 hJ14 => ?_)
         · obtain ⟨r42, hr42, hJ14⟩ := bS hJ14
           refine Re [.a, .a, (.c (vB r42)), .a] (sl 138 [(2, vP [2] (0)), (5, vB vt5_3), (6, vB b8), (7, vB b12), (8, vB vt8_13), (9, vB r42), (75, vB r40), (76, vP [2] (19)), (77, vA encSAmount a0.Amount), (78, vB r42)] [bx [2] (encSEffect a0)]) (aC (r14_Is_ok hr42) <| aN) ?_
           refine Tn ⟨r42, hJ14, wT⟩
         · refine Holds.skip ?_
           refine Tn ⟨(a0.Amount == (⟨(0 : Int), (0 : Int), (0 : Int), (⟨(0 : Int), (0 : Int), (0 : Int), (0 : Int), (0 : Int), (0 : Int), (0 : Int), [], (0 : Int), (0 : Int), (⟨(0 : Int), (0 : Int)⟩ : SBound), (⟨(0 : Int), (0 : Int)⟩ : SBound), (⟨(0 : Int), (0 : Int)⟩ : SBound)⟩ : SFilter)⟩ : SAmount)), hJ14, wT⟩
       · rintro vt9_15 hJ16
         replace hJ16 : r17_Is_J16 a0 vt5_3 b8 b12 vt8_13 vt9_15 = some r := hJ16
         unfold r17_Is_J16 at hJ16
         refine Rg [.a, .a, .a, .a, .a] (sl 138 [(2, vP [2] (0)), (5, vB vt5_3), (6, vB b8), (7, vB b12), (8, vB vt8_13), (9, vB vt9_15), (10, vB ((a0.Mods.length : Int) == (0 : Int)))] [bx [2] (encSEffect a0)]) (aN) ?_
         refine Sj (X := Bool) (fun v => (sl 138 [(2, vP [2] (0)), (5, vB vt5_3), (6, vB b8), (7, vB b12), (8, vB vt8_13), (9, vB vt9_15), (10, vB v)] [bx [2] (encSEffect a0)])) (fun v => r17_Is_J18 a0 vt5_3 b8 b12 vt8_13 vt9_15 v = some r) ?_ ?_
         · obtain ⟨r37, hr37, hJ16⟩ := bS hJ16
           refine Rg [.a, .a, (.c (vB r37))] (sl 138 [(2, vP [2] (0)), (5, vB vt5_3), (6, vB b8), (7, vB b12), (8, vB vt8_13), (9, vB vt9_15), (10, vB ((a0.Mods.length : Int) == (0 : Int))), (85, vB r37)] [bx [2] (encSEffect a0)]) (aC (r17_uses_ok hr37) <| aN) ?_
           refine iB hJ16 (fun b38 hJ16 => ?_) (fun b38 hJ16 => ?_)
           · obtain ⟨r39, hr39, hJ16⟩ := bS hJ16
             refine Re [.a, .a, (.c (vB r39)), .a] (sl 138 [(2, vP [2] (0)), (5, vB vt5_3), (6, vB b8), (7, vB b12), (8, vB vt8_13), (9, vB vt9_15), (10, vB r39), (85, vB r37), (86, vP [2] (63)), (87, vL encSMod a0.Mods), (88, vB r39)] [bx [2] (encSEffect a0)]) (aC (r17_mods_ok hr39) <| aN) ?_
             refine Tn ⟨r39, hJ16, wT⟩
           · refine Holds.skip ?_
             refine Tn ⟨((a0.Mods.length : Int) == (0 : Int)), hJ16, wT⟩
         · rintro vt10_17 hJ18
           replace hJ18 : r17_Is_J18 a0 vt5_3 b8 b12 vt8_13 vt9_15 vt10_17 = some r := hJ18
           unfold r17_Is_J18 at hJ18
           refine Rg [.a, .a, .a, (.v (vB (a0.Pool == (⟨(0 : Int), (0 : Int), (0 : Int), (0 : Int), (0 : Int), (0 : Int)⟩ : A6 (Int))))), .a] (sl 138 [(2, vP [2] (0)), (5, vB vt5_3), (6, vB b8), (7, vB b12), (8, vB vt8_13), (9, vB vt9_15), (10, vB vt10_17), (11, vB (a0.Pool == (⟨(0 : Int), (0 : Int), (0 : Int), (0 : Int), (0 : Int), (0 : Int)⟩ : A6 (Int))))] [bx [2] (encSEffect a0)]) (aC (And.intro trivial okp111) <| aC (congrArg (fun z => V.c (.bool (z))) (eqT111 a0.Pool (⟨(0 : Int), (0 : Int), (0 : Int), (0 : Int), (0 : Int), (0 : Int)⟩ : A6 (Int)))) <| aN) ?_
           refine Sj (X := Bool) (fun v => (sl 138 [(2, vP [2] (0)), (5, vB vt5_3), (6, vB b8), (7, vB b12), (8, vB vt8_13), (9, vB vt9_15), (10, vB vt10_17), (11, vB v)] [bx [2] (encSEffect a0)])) (fun v => r17_Is_J20 a0 vt5_3 b8 b12 vt8_13 vt9_15 vt10_17 v = some r) ?_ ?_
           · obtain ⟨r33, hr33, hJ18⟩ := bS hJ18
             refine Rg [.a, .a, (.c (vB r33))] (sl 138 [(2, vP [2] (0)), (5, vB vt5_3), (6, vB b8), (7, vB b12), (8, vB vt8_13), (9, vB vt9_15), (10, vB vt10_17), (11, vB (a0.Pool == (⟨(0 : Int), (0 : Int), (0 : Int), (0 : Int), (0 : Int), (0 : Int)⟩ : A6 (Int)))), (95, vB r33)] [bx [2] (encSEffect a0)]) (aC (r17_uses_ok hr33) <| aN) ?_
             refine iB hJ18 (fun b34 hJ18 => ?_) (fun b34 hJ18 => ?_)
             · obtain ⟨r35, hr35, hJ18⟩ := bS hJ18
               obtain ⟨b36, hb36, hJ18⟩ := bS hJ18
               refine Re [.a, .a, .a, .a, .a, (.c (vS r35)), .a, (.v (vB b36)), .a] (sl 138 [(2, vP [2] (0)), (5, vB vt5_3), (6, vB b8), (7, vB b12), (8, vB vt8_13), (9, vB vt9_15), (10, vB vt10_17), (11, vB b36), (95, vB r33), (96, vB (a0.Pool == (⟨(0 : Int), (0 : Int), (0 : Int), (0 : Int), (0 : Int), (0 : Int)⟩ : A6 (Int)))), (97, vB (!(a0.Pool == (⟨(0 : Int), (0 : Int), (0 : Int), (0 : Int), (0 : Int), (0 : Int)⟩ : A6 (Int))))), (98, vB (!(a0.Pool == (⟨(0 : Int), (0 : Int), (0 : Int), (0 : Int), (0 : Int), (0 : Int)⟩ : A6 (Int))))), (99, .g ((!(a0.Pool == (⟨(0 : Int), (0 : Int), (0 : Int), (0 : Int), (0 : Int), (0 : Int)⟩ : A6 (Int)))) == true) (vP [2] (57))), (100, .g ((!(a0.Pool == (⟨(0 : Int), (0 : Int), (0 : Int), (0 : Int), (0 : Int), (0 : Int)⟩ : A6 (Int)))) == true) (vA (eA6 (eI .i64)) a0.Pool)), (101, .g ((!(a0.Pool == (⟨(0 : Int), (0 : Int), (0 : Int), (0 : Int), (0 : Int), (0 : Int)⟩ : A6 (Int)))) == true) (vS r35)), (102, .g ((!(a0.Pool == (⟨(0 : Int), (0 : Int), (0 : Int), (0 : Int), (0 : Int), (0 : Int)⟩ : A6 (Int)))) == true) (vB (r35 != ([] : List UInt8)))), (103, vB b36)] [bx [2] (encSEffect a0)]) (aG ((!(a0.Pool == (⟨(0 : Int), (0 : Int), (0 : Int), (0 : Int), (0 : Int), (0 : Int)⟩ : A6 (Int)))) == true) <| aC (c1 hr35 r08_PoolText_ok) <| aG ((!(a0.Pool == (⟨(0 : Int), (0 : Int), (0 : Int), (0 : Int), (0 : Int), (0 : Int)⟩ : A6 (Int)))) == true) <| aT (!(a0.Pool == (⟨(0 : Int), (0 : Int), (0 : Int), (0 : Int), (0 : Int), (0 : Int)⟩ : A6 (Int)))) <| aB hb36 <| aN) ?_
               refine Tn ⟨b36, hJ18, wT⟩
             · refine Holds.skip ?_
               refine Tn ⟨(a0.Pool == (⟨(0 : Int), (0 : Int), (0 : Int), (0 : Int), (0 : Int), (0 : Int)⟩ : A6 (Int))), hJ18, wT⟩
           · rintro vt11_19 hJ20
             replace hJ20 : r17_Is_J20 a0 vt5_3 b8 b12 vt8_13 vt9_15 vt10_17 vt11_19 = some r := hJ20
             unfold r17_Is_J20 at hJ20
             refine Rg [.a, .a, .a, (.v (vB (a0.Filter == (⟨(0 : Int), (0 : Int), (0 : Int), (0 : Int), (0 : Int), (0 : Int), (0 : Int), [], (0 : Int), (0 : Int), (⟨(0 : Int), (0 : Int)⟩ : SBound), (⟨(0 : Int), (0 : Int)⟩ : SBound), (⟨(0 : Int), (0 : Int)⟩ : SBound)⟩ : SFilter)))), .a] (sl 138 [(2, vP [2] (0)), (5, vB vt5_3), (6, vB b8), (7, vB b12), (8, vB vt8_13), (9, vB vt9_15), (10, vB vt10_17), (11, vB vt11_19), (12, vB (a0.Filter == (⟨(0 : Int), (0 : Int), (0 : Int), (0 : Int), (0 : Int), (0 : Int), (0 : Int), [], (0 : Int), (0 : Int), (⟨(0 : Int), (0 : Int)⟩ : SBound), (⟨(0 : Int), (0 : Int)⟩ : SBound), (⟨(0 : Int), (0 : Int)⟩ : SBound)⟩ : SFilter)))] [bx [2] (encSEffect a0)]) (aC (And.intro trivial okp94) <| aC (congrArg (fun z => V.c (.bool (z))) (eqT94 a0.Filter (⟨(0 : Int), (0 : Int), (0 : Int), (0 : Int), (0 : Int), (0 : Int), (0 : Int), [], (0 : Int), (0 : Int), (⟨(0 : Int), (0 : Int)⟩ : SBound), (⟨(0 : Int), (0 : Int)⟩ : SBound), (⟨(0 : Int), (0 : Int)⟩ : SBound)⟩ : SFilter))) <| aN) ?_
             refine Sj (X := Bool) (fun v => (sl 138 [(5, vB vt5_3), (6, vB b8), (7, vB b12), (8, vB vt8_13), (9, vB vt9_15), (10, vB vt10_17), (11, vB vt11_19), (12, vB v)] [])) (fun v => r17_Is_J22 vt5_3 b8 b12 vt8_13 vt9_15 vt10_17 vt11_19 v = some r) ?_ ?_
             · obtain ⟨r30, hr30, hJ20⟩ := bS hJ20
               refine Rg [.a, .a, (.c (vB r30))] (sl 138 [(2, vP [2] (0)), (5, vB vt5_3), (6, vB b8), (7, vB b12), (8, vB vt8_13), (9, vB vt9_15), (10, vB vt10_17), (11, vB vt11_19), (12, vB (a0.Filter == (⟨(0 : Int), (0 : Int), (0 : Int), (0 : Int), (0 : Int), (0 : Int), (0 : Int), [], (0 : Int), (0 : Int), (⟨(0 : Int), (0 : Int)⟩ : SBound), (⟨(0 : Int), (0 : Int)⟩ : SBound), (⟨(0 : Int), (0 : Int)⟩ : SBound)⟩ : SFilter))), (110, vB r30)] [bx [2] (encSEffect a0)]) (aC (r17_uses_ok hr30) <| aN) ?_
               refine iB hJ20 (fun b31 hJ20 => ?_) (fun b31 hJ20 => ?_)
               · obtain ⟨r32, hr32, hJ20⟩ := bS hJ20
                 refine Re [.a, .a, .a, .a, (.c (vB r32)), .a] (sl 138 [(2, vP [2] (0)), (5, vB vt5_3), (6, vB b8), (7, vB b12), (8, vB vt8_13), (9, vB vt9_15), (10, vB vt10_17), (11, vB vt11_19), (12, vB r32), (110, vB r30), (111, vP [2] (0)), (112, vI a0.Op), (113, vP [2] (41)), (114, vA encSFilter a0.Filter), (115, vB r32)] [bx [2] (encSEffect a0)]) (aC (r17_filter_ok hr32) <| aN) ?_
                 refine Tn ⟨r32, hJ20, wT⟩
               · refine Holds.skip ?_
                 refine Tn ⟨(a0.Filter == (⟨(0 : Int), (0 : Int), (0 : Int), (0 : Int), (0 : Int), (0 : Int), (0 : Int), [], (0 : Int), (0 : Int), (⟨(0 : Int), (0 : Int)⟩ : SBound), (⟨(0 : Int), (0 : Int)⟩ : SBound), (⟨(0 : Int), (0 : Int)⟩ : SBound)⟩ : SFilter)), hJ20, wT⟩
             · rintro vt12_21 hJ22
               replace hJ22 : r17_Is_J22 vt5_3 b8 b12 vt8_13 vt9_15 vt10_17 vt11_19 vt12_21 = some r := hJ22
               unfold r17_Is_J22 at hJ22
               obtain ⟨b23, hb23, hJ22⟩ := bS hJ22
               obtain ⟨b24, hb24, hJ22⟩ := bS hJ22
               obtain ⟨b25, hb25, hJ22⟩ := bS hJ22
               obtain ⟨b26, hb26, hJ22⟩ := bS hJ22
               obtain ⟨b27, hb27, hJ22⟩ := bS hJ22
               obtain ⟨b28, hb28, hJ22⟩ := bS hJ22
               obtain ⟨b29, hb29, hJ22⟩ := bS hJ22
               refine Rg [.a, .a, .a, (.v (vB b23)), .a, .a, (.v (vB b24)), .a, .a, (.v (vB b25)), .a, .a, (.v (vB b26)), .a, .a, (.v (vB b27)), .a, .a, (.v (vB b28)), .a, .a, (.v (vB b29)), .a] (sl 138 [(4, vB b29)] []) (aT vt5_3 <| aB hb23 <| aT b23 <| aB hb24 <| aT b24 <| aB hb25 <| aT b25 <| aB hb26 <| aT b26 <| aB hb27 <| aT b27 <| aB hb28 <| aT b28 <| aB hb29 <| aN) ?_
               refine Holds.ret ?_
               exact bQ (vB b29) (congrArg vB (sI hJ22))
end Go.PL
