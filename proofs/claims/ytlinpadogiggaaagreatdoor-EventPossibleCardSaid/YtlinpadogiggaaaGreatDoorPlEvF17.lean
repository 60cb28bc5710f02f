/- Functions of the program, as partial functions in Lean, with proofs. -/
import Derived.Test.YtlinpadogiggaaaGreatDoorPlEvB
import Derived.Test.YtlinpadogiggaaaGreatDoorPlEvF1
import Derived.Test.YtlinpadogiggaaaGreatDoorPlEvF16
import Derived.Test.YtlinpadogiggaaaGreatDoorPlEvF4
import Derived.Test.YtlinpadogiggaaaGreatDoorPlEvF6
import Derived.Test.YtlinpadogiggaaaGreatDoorPlEvF7
namespace Go.PL
open Go Go.RowKit Go.Proofs
set_option maxRecDepth 100000
set_option linter.all false
set_option maxHeartbeats 1000000
attribute [local irreducible] Holds thenQ blockQ
def law32_EventPossible_J22 (a0 : List (SCard)) (a1 : SState) (a2 : SEvent) (vt9_4 : Bool) (vt10_5 : Bool) (r14 : Bool) (vt92_21 : Bool) : Option (Bool) :=
 (if vt92_21 = true then
  (law32_alive).bind fun r24 =>
  (some (if (!r14) = true then true else vt9_4)).bind fun b25 =>
  (some (if r24 = true then b25 else false)).bind fun b26 =>
  some b26
 else
  (if (a2.Kind == (1 : Int)) = true then
   (law32_alive).bind fun r28 =>
   (some (if (!r14) = true then true else vt10_5)).bind fun b29 =>
   (some (if b29 = true then true else a2.Object == (0 : Int))).bind fun b30 =>
   (some (if r28 = true then b30 else false)).bind fun b31 =>
   some b31
  else
   (law32_alive).bind fun r32 =>
   (gd (r32 == true) (event_Is a0 a1 ({ a2 with Object := (1073741824 : Int) }))).bind fun r33 =>
   (some (if r32 = true then r33 == r14 else false)).bind fun b34 =>
   some b34))
def law32_EventPossible_J7 (a0 : List (SCard)) (a1 : SState) (a2 : SEvent) (vt9_4 : Bool) (vt10_5 : Bool) (vt11_6 : Bool) : Option (Bool) :=
 (event_Is a0 a1 ({ a2 with Kind := (6 : Int) })).bind fun r8 =>
 (some (if vt10_5 = true then !vt11_6 else false)).bind fun b9 =>
 (gd ((r8 != b9) == false) (event_Is a0 a1 ({ a2 with Kind := (7 : Int) }))).bind fun r10 =>
 (some (if vt10_5 = true then vt11_6 else false)).bind fun b11 =>
 (some (if (r8 != b9) = true then true else r10 != b11)).bind fun b12 =>
 (if b12 = true then
  some false
 else
  (event_Is a0 a1 a2).bind fun r14 =>
  (gd (r14 == true) (event_Name a2.Kind)).bind fun r15 =>
  (some (if r14 = true then r15 == ([] : List UInt8) else false)).bind fun b16 =>
  (some (if r14 = true then a2.Kind == (2 : Int) else false)).bind fun b17 =>
  (some (if b17 = true then a2.From == a2.To else false)).bind fun b18 =>
  (some (if b16 = true then true else b18)).bind fun b19 =>
  (if b19 = true then
   some false
  else
   (if (a2.Kind == (2 : Int)) = true then
    law32_EventPossible_J22 a0 a1 a2 vt9_4 vt10_5 r14 (a2.Kind == (2 : Int))
   else
    (if (a2.Kind == (6 : Int)) = true then
     law32_EventPossible_J22 a0 a1 a2 vt9_4 vt10_5 r14 (a2.Kind == (6 : Int))
    else
     (if (a2.Kind == (7 : Int)) = true then
      law32_EventPossible_J22 a0 a1 a2 vt9_4 vt10_5 r14 (a2.Kind == (7 : Int))
     else
      (if (a2.Kind == (8 : Int)) = true then
       law32_EventPossible_J22 a0 a1 a2 vt9_4 vt10_5 r14 (a2.Kind == (8 : Int))
      else
       (if (a2.Kind == (9 : Int)) = true then
        law32_EventPossible_J22 a0 a1 a2 vt9_4 vt10_5 r14 (a2.Kind == (9 : Int))
       else
        (if (a2.Kind == (11 : Int)) = true then
         law32_EventPossible_J22 a0 a1 a2 vt9_4 vt10_5 r14 (a2.Kind == (11 : Int))
        else
         (if (a2.Kind == (12 : Int)) = true then
          law32_EventPossible_J22 a0 a1 a2 vt9_4 vt10_5 r14 (a2.Kind == (12 : Int))
         else
          law32_EventPossible_J22 a0 a1 a2 vt9_4 vt10_5 r14 (a2.Kind == (13 : Int)))))))))))
def law32_EventPossible_J58 (vt28_49 : Int) (vt9_55 : Bool) (vt10_56 : Bool) (vt11_57 : Bool) : Option ((Bool × Bool × Bool × Int) ⊕ ((Bool × Bool × Bool))) :=
 some (.inl (vt9_55, vt10_56, vt11_57, (wrap64 (vt28_49 + (1 : Int)))))
def law32_EventPossible_B53 (a1 : SState) (a2 : SEvent) (vt9_46 : Bool) (vt10_47 : Bool) (vt11_48 : Bool) (vt28_49 : Int) : Option ((Bool × Bool × Bool × Int) ⊕ ((Bool × Bool × Bool))) :=
 (if (decide (vt28_49 < (a1.Objects.length : Int))) = true then
  (idx a1.Objects vt28_49).bind fun e59 =>
  (if (e59.Id == a2.Object) = true then
   law32_EventPossible_J58 vt28_49 true (e59.Zone == (0 : Int)) e59.Tapped
  else
   law32_EventPossible_J58 vt28_49 vt9_46 vt10_47 vt11_48)
 else
  some (.inr (vt9_46, vt10_47, vt11_48)))
/-- cardgame/cardgamelaw32.EventPossible -/
def law32_EventPossible (a0 : List (SCard)) (a1 : SState) (a2 : SEvent) : Option (Bool) :=
 (law32_valid a0 a1).bind fun r1 =>
 (if (!r1) = true then
  (law32_alive).bind fun r3 =>
  some r3
 else
  (iter (fun (v : Bool × Bool × Bool × Int) => law32_EventPossible_B53 a1 a2 v.1 v.2.1 v.2.2.1 v.2.2.2) FU (false, false, false, (0 : Int))).bind (fun o0 => law32_EventPossible_J7 a0 a1 a2 o0.1 o0.2.1 o0.2.2))
def law32_EventPossible_C (a0 : List (SCard)) (a1 : SState) (a2 : SEvent) (r : Bool) : Prop := PCall Tryz.prog I0 5 [vL encSCard a0, vA encSState a1, vA encSEvent a2] (· = vB r)
theorem law32_EventPossible_ok {a0 : List (SCard)} {a1 : SState} {a2 : SEvent} {r : Bool} (h : law32_EventPossible a0 a1 a2 = some r) : law32_EventPossible_C a0 a1 a2 r := by
 refine PCall.body I0_stable (by kernel_rfl) Tryz.func5 rfl Tryz.ntmps5 (rs := [.tmp 6]) rfl rfl ?_
 intro w0 av old gv
 unfold law32_EventPossible at h
 refine Rg [.a, .a, .a] (sl 135 [(0, vL encSCard a0), (4, vP [4] (0)), (5, vP [5] (0))] [bx [5] (encSEvent a2), bx [4] (encSState a1)]) (aN) ?_
 refine Holds.seq ?_
 obtain ⟨r1, hr1, h⟩ := bS h
 refine Rg [.a, .a, (.c (vB r1)), .a] (sl 135 [(0, vL encSCard a0), (4, vP [4] (0)), (5, vP [5] (0)), (19, vB (!r1))] [bx [5] (encSEvent a2), bx [4] (encSState a1)]) (aC (law32_valid_ok hr1) <| aN) ?_
 refine iB h (fun b2 h => ?_) (fun b2 h => ?_)
 · obtain ⟨r3, hr3, h⟩ := bS h
   refine Rg [(.c (vB r3)), .a] (sl 135 [(6, vB r3)] []) (aC (law32_alive_ok hr3) <| aN) ?_
   refine Holds.ret ?_
   refine Tr ?_
   exact bQ (vB r3) (congrArg vB (sI h))
 · refine Holds.skip ?_
   refine Tn ?_
   refine Holds.seq ?_
   refine Holds.regN [0, 1, 2, 4, 8, 9, 10, 12, 13, 14, 15, 31, 63, 29, 11, 5, 6, 7, 3] 63 [.a, .a, .a, .a, .a, .a] [[7], [8], [5], [4]] (fun n => ⟨[vL encSCard a0, .undef, .undef, .undef, vP [4] (0), vP [5] (0), .undef, cond (Nat.testBit n 2) (vP [7] (0)) (.undef), cond (Nat.testBit n 3) (vP [8] (0)) (.undef), .undef, .undef, .undef, .undef, .undef, .undef, .undef, .undef, .undef, .undef, vB (!r1), .undef, cond (Nat.testBit n 0) (vA encSEvent a2) (.undef), cond (Nat.testBit n 1) (vA encSEvent a2) (.undef), .undef, .undef, .undef, .undef, .undef, .undef, .undef, .undef, .undef, .undef, .undef, .undef, .undef, .undef, .undef, .undef, .undef, .undef, .undef, .undef, .undef, .undef, .undef, .undef, .undef, .undef, .undef, .undef, .undef, .undef, .undef, .undef, .undef, .undef, .undef, .undef, .undef, .undef, .undef, .undef, .undef, .undef, .undef, .undef, .undef, .undef, .undef, .undef, .undef, .undef, .undef, .undef, .undef, .undef, .undef, .undef, .undef, .undef, .undef, .undef, .undef, .undef, .undef, .undef, .undef, .undef, .undef, .undef, .undef, .undef, .undef, .undef, .undef, .undef, .undef, .undef, .undef, .undef, .undef, .undef, .undef, .undef, .undef, .undef, .undef, .undef, .undef, .undef, .undef, .undef, .undef, .undef, .undef, .undef, .undef, .undef, .undef, .undef, .undef, .undef, .undef, .undef, .undef, .undef, .undef, .undef, .undef, .undef, .undef, .undef, .undef, .undef], List.filterMap id [cond (Nat.testBit n 4) (some (bx [7] (encSEvent a2))) (cond (Nat.testBit n 2) (some (bx [7] [.int .i64 (0 : Int), .int .i64 (0 : Int), .int .i64 (0 : Int), .int .i64 (0 : Int), .int .i64 (0 : Int), .int .i64 (0 : Int), .int .i64 (0 : Int), .int .i64 (0 : Int), .int .i64 (0 : Int), .int .i64 (0 : Int), .bool false, .bool false, .int .i64 (((⟨(0 : Int), (0 : Int), (0 : Int)⟩ : A3 (Int))).x0), .int .i64 (((⟨(0 : Int), (0 : Int), (0 : Int)⟩ : A3 (Int))).x1), .int .i64 (((⟨(0 : Int), (0 : Int), (0 : Int)⟩ : A3 (Int))).x2)])) ((none : Option Ent))), cond (Nat.testBit n 5) (some (bx [8] (encSEvent a2))) (cond (Nat.testBit n 3) (some (bx [8] [.int .i64 (0 : Int), .int .i64 (0 : Int), .int .i64 (0 : Int), .int .i64 (0 : Int), .int .i64 (0 : Int), .int .i64 (0 : Int), .int .i64 (0 : Int), .int .i64 (0 : Int), .int .i64 (0 : Int), .int .i64 (0 : Int), .bool false, .bool false, .int .i64 (((⟨(0 : Int), (0 : Int), (0 : Int)⟩ : A3 (Int))).x0), .int .i64 (((⟨(0 : Int), (0 : Int), (0 : Int)⟩ : A3 (Int))).x1), .int .i64 (((⟨(0 : Int), (0 : Int), (0 : Int)⟩ : A3 (Int))).x2)])) ((none : Option Ent))), some (bx [5] (encSEvent a2)), some (bx [4] (encSState a1))], [], []⟩) [[], [], [], [], [], []] followsP (by kernel_rfl) (by kernel_rfl) (by decide) (Less.t (by kernel_rfl)) (by kernel_rfl) ⟨trivial, trivial, trivial, trivial, trivial, trivial, trivial⟩ ?_
   refine Tn ?_
   refine Ls (sl 135 [(0, vL encSCard a0), (4, vP [4] (0)), (5, vP [5] (0)), (7, vP [7] (0)), (8, vP [8] (0))] [bx [7] (encSEvent a2), bx [8] (encSEvent a2), bx [5] (encSEvent a2), bx [4] (encSState a1)]) ?_
   refine Rg [.a, .a] (sl 135 [(0, vL encSCard a0), (4, vP [4] (0)), (5, vP [5] (0)), (7, vP [7] (0)), (8, vP [8] (0))] [bx [7] (encSEvent ({ a2 with Kind := (6 : Int) })), bx [8] (encSEvent a2), bx [5] (encSEvent a2), bx [4] (encSState a1)]) (aN) ?_
   refine Rg [.a, .a] (sl 135 [(0, vL encSCard a0), (4, vP [4] (0)), (5, vP [5] (0)), (7, vP [7] (0)), (8, vP [8] (0))] [bx [7] (encSEvent ({ a2 with Kind := (6 : Int) })), bx [8] (encSEvent ({ a2 with Kind := (7 : Int) })), bx [5] (encSEvent a2), bx [4] (encSState a1)]) (aN) ?_
   refine Rg [.a, .a, .a] (sl 135 [(0, vL encSCard a0), (4, vP [4] (0)), (5, vP [5] (0)), (7, vP [7] (0)), (8, vP [8] (0)), (9, vB false), (10, vB false), (11, vB false)] [bx [7] (encSEvent ({ a2 with Kind := (6 : Int) })), bx [8] (encSEvent ({ a2 with Kind := (7 : Int) })), bx [5] (encSEvent a2), bx [4] (encSState a1)]) (aN) ?_
   refine Holds.seqJ (X := Bool × Bool × Bool) (fun v => (sl 135 [(0, vL encSCard a0), (4, vP [4] (0)), (5, vP [5] (0)), (7, vP [7] (0)), (8, vP [8] (0)), (9, vB v.1), (10, vB v.2.1), (11, vB v.2.2)] [bx [7] (encSEvent ({ a2 with Kind := (6 : Int) })), bx [8] (encSEvent ({ a2 with Kind := (7 : Int) })), bx [5] (encSEvent a2), bx [4] (encSState a1)])) (fun v => law32_EventPossible_J7 a0 a1 a2 v.1 v.2.1 v.2.2 = some r) ?_ ?_
   · refine Rg [.a, .a, .a, .a] (sl 135 [(0, vL encSCard a0), (4, vP [4] (0)), (5, vP [5] (0)), (7, vP [7] (0)), (8, vP [8] (0)), (9, vB false), (10, vB false), (11, vB false), (26, vL encSObject a1.Objects), (27, vI (a1.Objects.length : Int)), (28, vI (0 : Int))] [bx [7] (encSEvent ({ a2 with Kind := (6 : Int) })), bx [8] (encSEvent ({ a2 with Kind := (7 : Int) })), bx [5] (encSEvent a2), bx [4] (encSState a1)]) (aN) ?_
     refine Holds.block ?_
     obtain ⟨oB53, hiB53, h⟩ := bS h
     refine Holds.iter (fun (v : Bool × Bool × Bool × Int) => (sl 135 [(0, vL encSCard a0), (4, vP [4] (0)), (5, vP [5] (0)), (7, vP [7] (0)), (8, vP [8] (0)), (9, vB v.1), (10, vB v.2.1), (11, vB v.2.2.1), (26, vL encSObject a1.Objects), (27, vI (a1.Objects.length : Int)), (28, vI v.2.2.2)] [bx [7] (encSEvent ({ a2 with Kind := (6 : Int) })), bx [8] (encSEvent ({ a2 with Kind := (7 : Int) })), bx [5] (encSEvent a2), bx [4] (encSState a1)])) hiB53 (lT) ?_
     rintro ⟨vt9_46, vt10_47, vt11_48, vt28_49⟩ zB53 hzB53 hoB53
     replace hzB53 : law32_EventPossible_B53 a1 a2 vt9_46 vt10_47 vt11_48 vt28_49 = some zB53 := hzB53
     unfold law32_EventPossible_B53 at hzB53
     refine Rg [.a] (sl 135 [(0, vL encSCard a0), (4, vP [4] (0)), (5, vP [5] (0)), (7, vP [7] (0)), (8, vP [8] (0)), (9, vB vt9_46), (10, vB vt10_47), (11, vB vt11_48), (26, vL encSObject a1.Objects), (27, vI (a1.Objects.length : Int)), (28, vI vt28_49), (29, vB (decide (vt28_49 < (a1.Objects.length : Int))))] [bx [7] (encSEvent ({ a2 with Kind := (6 : Int) })), bx [8] (encSEvent ({ a2 with Kind := (7 : Int) })), bx [5] (encSEvent a2), bx [4] (encSState a1)]) (aN) ?_
     refine Holds.seq ?_
     refine iB hzB53 (fun b54 hzB53 => ?_) (fun b54 hzB53 => ?_)
     · refine Holds.skip ?_
       refine Tn ?_
       refine Holds.seqJ (X := Bool × Bool × Bool) (fun v => (sl 135 [(0, vL encSCard a0), (4, vP [4] (0)), (5, vP [5] (0)), (7, vP [7] (0)), (8, vP [8] (0)), (9, vB v.1), (10, vB v.2.1), (11, vB v.2.2), (26, vL encSObject a1.Objects), (27, vI (a1.Objects.length : Int)), (28, vI vt28_49)] [bx [7] (encSEvent ({ a2 with Kind := (6 : Int) })), bx [8] (encSEvent ({ a2 with Kind := (7 : Int) })), bx [5] (encSEvent a2), bx [4] (encSState a1)])) (fun v => law32_EventPossible_J58 vt28_49 v.1 v.2.1 v.2.2 = some zB53) ?_ ?_
       · refine Holds.block ?_
         obtain ⟨e59, he59, hzB53⟩ := bS hzB53
         refine Rg [.a, (.v (vA encSObject e59)), .a, .a] (sl 135 [(0, vL encSCard a0), (4, vP [4] (0)), (5, vP [5] (0)), (7, vP [7] (0)), (8, vP [8] (0)), (9, vB vt9_46), (10, vB vt10_47), (11, vB vt11_48), (13, vP [13] (0)), (26, vL encSObject a1.Objects), (27, vI (a1.Objects.length : Int)), (28, vI vt28_49)] [bx [13] (encSObject e59), bx [7] (encSEvent ({ a2 with Kind := (6 : Int) })), bx [8] (encSEvent ({ a2 with Kind := (7 : Int) })), bx [5] (encSEvent a2), bx [4] (encSState a1)]) (aC (idx_b he59) <| aC (eld he59 lenSObject 0 19 true (vA encSObject e59)) <| aC (Eq.refl (vA encSObject e59)) <| aN) ?_
         refine Rg [.a, .a, .a, .a, .a] (sl 135 [(0, vL encSCard a0), (4, vP [4] (0)), (5, vP [5] (0)), (7, vP [7] (0)), (8, vP [8] (0)), (9, vB vt9_46), (10, vB vt10_47), (11, vB vt11_48), (13, vP [13] (0)), (26, vL encSObject a1.Objects), (27, vI (a1.Objects.length : Int)), (28, vI vt28_49), (36, vB (e59.Id == a2.Object))] [bx [13] (encSObject e59), bx [7] (encSEvent ({ a2 with Kind := (6 : Int) })), bx [8] (encSEvent ({ a2 with Kind := (7 : Int) })), bx [5] (encSEvent a2), bx [4] (encSState a1)]) (aN) ?_
         refine iB hzB53 (fun b60 hzB53 => ?_) (fun b60 hzB53 => ?_)
         · refine Rf followsP [.a, .a, .a, .a, .a, .a, .a, .a] (sl 135 [(0, vL encSCard a0), (4, vP [4] (0)), (5, vP [5] (0)), (7, vP [7] (0)), (8, vP [8] (0)), (9, vB true), (10, vB (e59.Zone == (0 : Int))), (11, vB e59.Tapped), (13, vP [13] (0)), (26, vL encSObject a1.Objects), (27, vI (a1.Objects.length : Int)), (28, vI vt28_49), (36, vB (e59.Id == a2.Object)), (37, vP [13] (4)), (38, vI e59.Zone), (39, vB (e59.Zone == (0 : Int))), (40, vP [13] (6)), (41, vB e59.Tapped)] [bx [13] (encSObject e59), bx [7] (encSEvent ({ a2 with Kind := (6 : Int) })), bx [8] (encSEvent ({ a2 with Kind := (7 : Int) })), bx [5] (encSEvent a2), bx [4] (encSState a1)]) (aN) ?_
           refine blockQ.normal ?_
           refine Tn ⟨(true, (e59.Zone == (0 : Int)), e59.Tapped), hzB53, lT⟩
         · refine Holds.skip ?_
           refine blockQ.normal ?_
           refine Tn ⟨(vt9_46, vt10_47, vt11_48), hzB53, lT⟩
       · rintro ⟨vt9_55, vt10_56, vt11_57⟩ hJ58
         replace hJ58 : law32_EventPossible_J58 vt28_49 vt9_55 vt10_56 vt11_57 = some zB53 := hJ58
         unfold law32_EventPossible_J58 at hJ58
         refine Re [.a, .a] (sl 135 [(0, vL encSCard a0), (4, vP [4] (0)), (5, vP [5] (0)), (7, vP [7] (0)), (8, vP [8] (0)), (9, vB vt9_55), (10, vB vt10_56), (11, vB vt11_57), (26, vL encSObject a1.Objects), (27, vI (a1.Objects.length : Int)), (28, vI (wrap64 (vt28_49 + (1 : Int)))), (42, vI (wrap64 (vt28_49 + (1 : Int))))] [bx [7] (encSEvent ({ a2 with Kind := (6 : Int) })), bx [8] (encSEvent ({ a2 with Kind := (7 : Int) })), bx [5] (encSEvent a2), bx [4] (encSState a1)]) (aN) ?_
         refine Tn ⟨(vt9_55, vt10_56, vt11_57, (wrap64 (vt28_49 + (1 : Int)))), (sI hJ58).symm, lT⟩
     · refine Holds.exit ?_
       refine thenQ.exit ?_
       have hoB53_ := hoB53 _ (sI hzB53).symm
       subst hoB53_
       refine thenQ.exit ?_
       refine blockQ.out ?_
       refine Tn ⟨(vt9_46, vt10_47, vt11_48), h, lT⟩
   · rintro ⟨vt9_4, vt10_5, vt11_6⟩ hJ7
     replace hJ7 : law32_EventPossible_J7 a0 a1 a2 vt9_4 vt10_5 vt11_6 = some r := hJ7
     unfold law32_EventPossible_J7 at hJ7
     refine Holds.seq ?_
     obtain ⟨r8, hr8, hJ7⟩ := bS hJ7
     obtain ⟨b9, hb9, hJ7⟩ := bS hJ7
     obtain ⟨r10, hr10, hJ7⟩ := bS hJ7
     obtain ⟨b11, hb11, hJ7⟩ := bS hJ7
     obtain ⟨b12, hb12, hJ7⟩ := bS hJ7
     refine Rg [.a, .a, .a, (.c (vB r8)), .a, .a, .a, .a, (.v (vB b9)), .a, .a, .a, .a, .a, (.c (vB r10)), .a, .a, .a, (.v (vB b11)), .a, (.v (vB b12))] (sl 135 [(0, vL encSCard a0), (4, vP [4] (0)), (5, vP [5] (0)), (9, vB vt9_4), (10, vB vt10_5), (63, vB b12)] [bx [5] (encSEvent a2), bx [4] (encSState a1)]) (aC (event_Is_ok hr8) <| aG (vt10_5 == true) <| aT vt10_5 <| aB hb9 <| aC isb4 <| aC (c3 hr10 event_Is_ok) <| aG ((r8 != b9) == false) <| aC (fun hg : ((r8 != b9) == false) = true => aC (gi ((r8 != b9) == false)) <| aC (fun q : vt10_5 = true => (gA hg (gT q))) <| aB hb11 <| aN) <| aC (fun hg : ((r8 != b9) == false) = true => aC (gi ((r8 != b9) == false)) <| aC (gi ((r8 != b9) == false)) <| aC isb4 <| aN) <| aF (r8 != b9) <| aB hb12 <| aN) ?_
     refine iB hJ7 (fun b13 hJ7 => ?_) (fun b13 hJ7 => ?_)
     · refine Rg [.a] (sl 135 [(6, vB false)] []) (aN) ?_
       refine Holds.ret ?_
       refine Tr ?_
       exact bQ (vB false) (congrArg vB (sI hJ7))
     · refine Holds.skip ?_
       refine Tn ?_
       obtain ⟨r14, hr14, hJ7⟩ := bS hJ7
       refine Rg [.a, .a, .a, (.c (vB r14)), .a] (sl 135 [(0, vL encSCard a0), (4, vP [4] (0)), (5, vP [5] (0)), (9, vB vt9_4), (10, vB vt10_5), (14, vB r14)] [bx [5] (encSEvent a2), bx [4] (encSState a1)]) (aC (event_Is_ok hr14) <| aN) ?_
       refine Holds.seq ?_
       obtain ⟨r15, hr15, hJ7⟩ := bS hJ7
       obtain ⟨b16, hb16, hJ7⟩ := bS hJ7
       obtain ⟨b17, hb17, hJ7⟩ := bS hJ7
       obtain ⟨b18, hb18, hJ7⟩ := bS hJ7
       obtain ⟨b19, hb19, hJ7⟩ := bS hJ7
       refine Rg [.a, .a, .a, .a, (.c (vS r15)), .a, (.v (vB b16)), .a, .a, .a, .a, .a, .a, (.v (vB b17)), .a, .a, .a, .a, .a, .a, (.v (vB b18)), (.v (vB b19))] (sl 135 [(0, vL encSCard a0), (4, vP [4] (0)), (5, vP [5] (0)), (9, vB vt9_4), (10, vB vt10_5), (14, vB r14), (89, vB b19)] [bx [5] (encSEvent a2), bx [4] (encSState a1)]) (aG (r14 == true) <| aC (c1 hr15 event_Name_ok) <| aG (r14 == true) <| aT r14 <| aB hb16 <| aG (b16 == false) <| aG ((b16 == false) && (r14 == true)) <| aG ((b16 == false) && (r14 == true)) <| aC (fun hg : (b16 == false) = true => aC (gi (b16 == false)) <| aC (fun q : r14 = true => (gA hg (gT q))) <| aB hb17 <| aN) <| aG (b16 == false) <| aG ((b16 == false) && (b17 == true)) <| aG ((b16 == false) && (b17 == true)) <| aH ((b16 == false) && (b17 == true)) <| aC (fun hg : (b16 == false) = true => aC (gi (b16 == false)) <| aC (fun q : b17 = true => (gA hg (gT q))) <| aB hb18 <| aN) <| aF b16 <| aB hb19 <| aN) ?_
       refine iB hJ7 (fun b20 hJ7 => ?_) (fun b20 hJ7 => ?_)
       · refine Rg [.a] (sl 135 [(6, vB false)] []) (aN) ?_
         refine Holds.ret ?_
         refine Tr ?_
         exact bQ (vB false) (congrArg vB (sI hJ7))
       · refine Holds.skip ?_
         refine Tn ?_
         refine Holds.seq ?_
         refine Rg [.a, .a] (sl 135 [(0, vL encSCard a0), (4, vP [4] (0)), (5, vP [5] (0)), (9, vB vt9_4), (10, vB vt10_5), (14, vB r14), (91, vI a2.Kind)] [bx [5] (encSEvent a2), bx [4] (encSState a1)]) (aN) ?_
         refine Holds.block ?_
         refine Holds.seqJ (X := Bool) (fun v => (sl 135 [(0, vL encSCard a0), (4, vP [4] (0)), (5, vP [5] (0)), (9, vB vt9_4), (10, vB vt10_5), (14, vB r14), (91, vI a2.Kind), (92, vB v)] [bx [5] (encSEvent a2), bx [4] (encSState a1)])) (fun v => law32_EventPossible_J22 a0 a1 a2 vt9_4 vt10_5 r14 v = some r) ?_ ?_
         · refine Rg [.a, .a] (sl 135 [(0, vL encSCard a0), (4, vP [4] (0)), (5, vP [5] (0)), (9, vB vt9_4), (10, vB vt10_5), (14, vB r14), (91, vI a2.Kind), (92, vB (a2.Kind == (2 : Int)))] [bx [5] (encSEvent a2), bx [4] (encSState a1)]) (aN) ?_
           refine iB hJ7 (fun b35 hJ7 => ?_) (fun b35 hJ7 => ?_)
           · refine Holds.skip ?_
             refine Tn ⟨(a2.Kind == (2 : Int)), hJ7, lT⟩
           · refine Rg [.a, .a] (sl 135 [(0, vL encSCard a0), (4, vP [4] (0)), (5, vP [5] (0)), (9, vB vt9_4), (10, vB vt10_5), (14, vB r14), (91, vI a2.Kind), (92, vB (a2.Kind == (6 : Int)))] [bx [5] (encSEvent a2), bx [4] (encSState a1)]) (aN) ?_
             refine iB hJ7 (fun b36 hJ7 => ?_) (fun b36 hJ7 => ?_)
             · refine Holds.skip ?_
               refine Tn ⟨(a2.Kind == (6 : Int)), hJ7, lT⟩
             · refine Rg [.a, .a] (sl 135 [(0, vL encSCard a0), (4, vP [4] (0)), (5, vP [5] (0)), (9, vB vt9_4), (10, vB vt10_5), (14, vB r14), (91, vI a2.Kind), (92, vB (a2.Kind == (7 : Int)))] [bx [5] (encSEvent a2), bx [4] (encSState a1)]) (aN) ?_
               refine iB hJ7 (fun b37 hJ7 => ?_) (fun b37 hJ7 => ?_)
               · refine Holds.skip ?_
                 refine Tn ⟨(a2.Kind == (7 : Int)), hJ7, lT⟩
               · refine Rg [.a, .a] (sl 135 [(0, vL encSCard a0), (4, vP [4] (0)), (5, vP [5] (0)), (9, vB vt9_4), (10, vB vt10_5), (14, vB r14), (91, vI a2.Kind), (92, vB (a2.Kind == (8 : Int)))] [bx [5] (encSEvent a2), bx [4] (encSState a1)]) (aN) ?_
                 refine iB hJ7 (fun b38 hJ7 => ?_) (fun b38 hJ7 => ?_)
                 · refine Holds.skip ?_
                   refine Tn ⟨(a2.Kind == (8 : Int)), hJ7, lT⟩
                 · refine Rg [.a, .a] (sl 135 [(0, vL encSCard a0), (4, vP [4] (0)), (5, vP [5] (0)), (9, vB vt9_4), (10, vB vt10_5), (14, vB r14), (91, vI a2.Kind), (92, vB (a2.Kind == (9 : Int)))] [bx [5] (encSEvent a2), bx [4] (encSState a1)]) (aN) ?_
                   refine iB hJ7 (fun b39 hJ7 => ?_) (fun b39 hJ7 => ?_)
                   · refine Holds.skip ?_
                     refine Tn ⟨(a2.Kind == (9 : Int)), hJ7, lT⟩
                   · refine Rg [.a, .a] (sl 135 [(0, vL encSCard a0), (4, vP [4] (0)), (5, vP [5] (0)), (9, vB vt9_4), (10, vB vt10_5), (14, vB r14), (91, vI a2.Kind), (92, vB (a2.Kind == (11 : Int)))] [bx [5] (encSEvent a2), bx [4] (encSState a1)]) (aN) ?_
                     refine iB hJ7 (fun b40 hJ7 => ?_) (fun b40 hJ7 => ?_)
                     · refine Holds.skip ?_
                       refine Tn ⟨(a2.Kind == (11 : Int)), hJ7, lT⟩
                     · refine Rg [.a, .a] (sl 135 [(0, vL encSCard a0), (4, vP [4] (0)), (5, vP [5] (0)), (9, vB vt9_4), (10, vB vt10_5), (14, vB r14), (91, vI a2.Kind), (92, vB (a2.Kind == (12 : Int)))] [bx [5] (encSEvent a2), bx [4] (encSState a1)]) (aN) ?_
                       refine iB hJ7 (fun b41 hJ7 => ?_) (fun b41 hJ7 => ?_)
                       · refine Holds.skip ?_
                         refine Tn ⟨(a2.Kind == (12 : Int)), hJ7, lT⟩
                       · refine Re [.a, .a] (sl 135 [(0, vL encSCard a0), (4, vP [4] (0)), (5, vP [5] (0)), (9, vB vt9_4), (10, vB vt10_5), (14, vB r14), (91, vI a2.Kind), (92, vB (a2.Kind == (13 : Int))), (100, vB (a2.Kind == (13 : Int)))] [bx [5] (encSEvent a2), bx [4] (encSState a1)]) (aN) ?_
                         refine Tn ⟨(a2.Kind == (13 : Int)), hJ7, lT⟩
         · rintro vt92_21 hJ22
           replace hJ22 : law32_EventPossible_J22 a0 a1 a2 vt9_4 vt10_5 r14 vt92_21 = some r := hJ22
           unfold law32_EventPossible_J22 at hJ22
           refine iB hJ22 (fun b23 hJ22 => ?_) (fun b23 hJ22 => ?_)
           · obtain ⟨r24, hr24, hJ22⟩ := bS hJ22
             obtain ⟨b25, hb25, hJ22⟩ := bS hJ22
             obtain ⟨b26, hb26, hJ22⟩ := bS hJ22
             refine Rg [(.c (vB r24)), .a, .a, .a, .a, .a, (.v (vB b25)), (.v (vB b26)), .a] (sl 135 [(6, vB b26)] []) (aC (law32_alive_ok hr24) <| aG (r24 == true) <| aG (r24 == true) <| aC (fun hg : (r24 == true) = true => aC (gi (r24 == true)) <| aC (fun q : (!r14) = false => (gA hg (gF q))) <| aB hb25 <| aN) <| aT r24 <| aB hb26 <| aN) ?_
             refine Holds.ret ?_
             refine blockQ.ret ?_
             refine Tr ?_
             exact bQ (vB b26) (congrArg vB (sI hJ22))
           · refine Rg [.a, .a] (sl 135 [(0, vL encSCard a0), (4, vP [4] (0)), (5, vP [5] (0)), (10, vB vt10_5), (14, vB r14), (109, vB (a2.Kind == (1 : Int)))] [bx [5] (encSEvent a2), bx [4] (encSState a1)]) (aN) ?_
             refine iB hJ22 (fun b27 hJ22 => ?_) (fun b27 hJ22 => ?_)
             · obtain ⟨r28, hr28, hJ22⟩ := bS hJ22
               obtain ⟨b29, hb29, hJ22⟩ := bS hJ22
               obtain ⟨b30, hb30, hJ22⟩ := bS hJ22
               obtain ⟨b31, hb31, hJ22⟩ := bS hJ22
               refine Rg [(.c (vB r28)), .a, .a, .a, .a, .a, (.v (vB b29)), .a, .a, .a, .a, (.v (vB b30)), (.v (vB b31)), .a] (sl 135 [(6, vB b31)] []) (aC (law32_alive_ok hr28) <| aG (r28 == true) <| aG (r28 == true) <| aC (fun hg : (r28 == true) = true => aC (gi (r28 == true)) <| aC (fun q : (!r14) = false => (gA hg (gF q))) <| aB hb29 <| aN) <| aG (r28 == true) <| aG ((r28 == true) && (b29 == false)) <| aG ((r28 == true) && (b29 == false)) <| aC (fun hg : (r28 == true) = true => aC (gi (r28 == true)) <| aC (fun q : b29 = false => (gA hg (gF q))) <| aB hb30 <| aN) <| aT r28 <| aB hb31 <| aN) ?_
               refine Holds.ret ?_
               refine blockQ.ret ?_
               refine Tr ?_
               exact bQ (vB b31) (congrArg vB (sI hJ22))
             · refine Holds.skip ?_
               refine blockQ.normal ?_
               refine Tn ?_
               refine Rg [.a, .a, .a] (sl 135 [(0, vL encSCard a0), (4, vP [4] (0)), (14, vB r14), (15, vP [15] (0))] [bx [15] (encSEvent a2), bx [4] (encSState a1)]) (aN) ?_
               refine Rg [.a, .a] (sl 135 [(0, vL encSCard a0), (4, vP [4] (0)), (14, vB r14), (15, vP [15] (0))] [bx [15] (encSEvent ({ a2 with Object := (1073741824 : Int) })), bx [4] (encSState a1)]) (aN) ?_
               obtain ⟨r32, hr32, hJ22⟩ := bS hJ22
               obtain ⟨r33, hr33, hJ22⟩ := bS hJ22
               obtain ⟨b34, hb34, hJ22⟩ := bS hJ22
               refine Rg [(.c (vB r32)), .a, .a, .a, .a, (.c (vB r33)), .a, .a, (.v (vB b34)), .a] (sl 135 [(6, vB b34)] []) (aC (law32_alive_ok hr32) <| aC (c3 hr33 event_Is_ok) <| aC (fun hg : (r32 == true) = true => aC (gi (r32 == true)) <| aC (gi (r32 == true)) <| aC isb4 <| aN) <| aT r32 <| aB hb34 <| aN) ?_
               refine Holds.ret ?_
               exact bQ (vB b34) (congrArg vB (sI hJ22))
end Go.PL
