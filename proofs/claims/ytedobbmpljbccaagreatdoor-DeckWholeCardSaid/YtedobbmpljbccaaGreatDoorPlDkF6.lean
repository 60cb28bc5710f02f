/- Functions of the program, as partial functions in Lean, with proofs. -/
import Derived.Test.YtedobbmpljbccaaGreatDoorPlDkB
import Derived.Test.YtedobbmpljbccaaGreatDoorPlDkF0
import Derived.Test.YtedobbmpljbccaaGreatDoorPlDkF1
import Derived.Test.YtedobbmpljbccaaGreatDoorPlDkF2
import Derived.Test.YtedobbmpljbccaaGreatDoorPlDkF3
import Derived.Test.YtedobbmpljbccaaGreatDoorPlDkF4
namespace Go.PL
open Go Go.RowKit Go.Proofs
set_option maxRecDepth 100000
set_option linter.all false
set_option maxHeartbeats 1000000
attribute [local irreducible] Holds thenQ blockQ
def r14_Is_J2 (a0 : SAmount) (b3_1 : SAmount) : Option (Bool) :=
 (some (if (decide ((0 : Int) ≤ a0.Kind)) = true then decide (a0.Kind ≤ (7 : Int)) else false)).bind fun b3 =>
 (some (if b3 = true then b3_1 == (⟨a0.Kind, (0 : Int), (0 : Int), (⟨(0 : Int), (0 : Int), (0 : Int), (0 : Int), (0 : Int), (0 : Int), (0 : Int), [], (0 : Int), (0 : Int), (⟨(0 : Int), (0 : Int)⟩ : SBound), (⟨(0 : Int), (0 : Int)⟩ : SBound), (⟨(0 : Int), (0 : Int)⟩ : SBound)⟩ : SFilter)⟩ : SAmount) else false)).bind fun b4 =>
 some b4
/-- cardgame/cardgameref14.Is -/
def r14_Is (a0 : SAmount) : Option (Bool) :=
 (if (a0.Kind == (0 : Int)) = true then
  (some (if (decide (a0.N < (0 : Int))) = true then true else decide ((1000000 : Int) < a0.N))).bind fun b6 =>
  (if b6 = true then
   some false
  else
   r14_Is_J2 a0 ({ a0 with N := (0 : Int) }))
 else
  (if (a0.Kind == (2 : Int)) = true then
   (some (if (decide (a0.N < (1 : Int))) = true then true else decide ((99 : Int) < a0.N))).bind fun b9 =>
   (gd (b9 == false) (r13_Is a0.Filter)).bind fun r10 =>
   (some (if b9 = true then true else !r10)).bind fun b11 =>
   (if b11 = true then
    some false
   else
    r14_Is_J2 a0 ({ { a0 with N := (0 : Int) } with Filter := (⟨(0 : Int), (0 : Int), (0 : Int), (0 : Int), (0 : Int), (0 : Int), (0 : Int), [], (0 : Int), (0 : Int), (⟨(0 : Int), (0 : Int)⟩ : SBound), (⟨(0 : Int), (0 : Int)⟩ : SBound), (⟨(0 : Int), (0 : Int)⟩ : SBound)⟩ : SFilter) }))
  else
   (if (a0.Kind == (4 : Int)) = true then
    (r12_Name a0.Counter).bind fun r14 =>
    (if (r14 == ([] : List UInt8)) = true then
     some false
    else
     r14_Is_J2 a0 ({ a0 with Counter := (0 : Int) }))
   else
    r14_Is_J2 a0 a0)))
def r14_Is_C (a0 : SAmount) (r : Bool) : Prop := PCall Tryz.prog I0 124 [vA encSAmount a0] (· = vB r)
theorem r14_Is_ok {a0 : SAmount} {r : Bool} (h : r14_Is a0 = some r) : r14_Is_C a0 r := by
 refine PCall.body I0_stable (by kernel_rfl) Tryz.func124 rfl Tryz.ntmps124 (rs := [.tmp 2]) rfl rfl ?_
 intro w0 av old gv
 unfold r14_Is at h
 refine Rg [.a, .a] (sl 59 [(1, vP [1] (0))] [bx [1] (encSAmount a0)]) (aN) ?_
 refine Rg [.a, .a, .a] (sl 59 [(1, vP [1] (0)), (3, vP [3] (0))] [bx [3] (encSAmount a0), bx [1] (encSAmount a0)]) (aN) ?_
 refine Sj (X := SAmount) (fun v => (sl 59 [(1, vP [1] (0)), (3, vP [3] (0))] [bx [3] (encSAmount v), bx [1] (encSAmount a0)])) (fun v => r14_Is_J2 a0 v = some r) ?_ ?_
 · refine Rg [.a, .a] (sl 59 [(1, vP [1] (0)), (3, vP [3] (0)), (6, vI a0.Kind)] [bx [3] (encSAmount a0), bx [1] (encSAmount a0)]) (aN) ?_
   refine Holds.block ?_
   refine Rg [.a, .a] (sl 59 [(1, vP [1] (0)), (3, vP [3] (0)), (6, vI a0.Kind), (7, vB (a0.Kind == (0 : Int)))] [bx [3] (encSAmount a0), bx [1] (encSAmount a0)]) (aN) ?_
   refine iB h (fun b5 h => ?_) (fun b5 h => ?_)
   · refine Rg [.a, .a] (sl 59 [(1, vP [1] (0)), (3, vP [3] (0))] [bx [3] (encSAmount ({ a0 with N := (0 : Int) })), bx [1] (encSAmount a0)]) (aN) ?_
     obtain ⟨b6, hb6, h⟩ := bS h
     refine Rg [.a, .a, .a, .a, .a, .a, .a, (.v (vB b6))] (sl 59 [(1, vP [1] (0)), (3, vP [3] (0)), (17, vB b6)] [bx [3] (encSAmount ({ a0 with N := (0 : Int) })), bx [1] (encSAmount a0)]) (aG ((decide (a0.N < (0 : Int))) == false) <| aG ((decide (a0.N < (0 : Int))) == false) <| aF (decide (a0.N < (0 : Int))) <| aB hb6 <| aN) ?_
     refine iB h (fun b7 h => ?_) (fun b7 h => ?_)
     · refine Rg [.a] (sl 59 [(2, vB false)] []) (aN) ?_
       refine Holds.ret ?_
       refine blockQ.ret ?_
       refine Tr ?_
       exact bQ (vB false) (congrArg vB (sI h))
     · refine Holds.skip ?_
       refine blockQ.normal ?_
       refine Tn ⟨({ a0 with N := (0 : Int) }), h, wT⟩
   · refine Rg [.a, .a] (sl 59 [(1, vP [1] (0)), (3, vP [3] (0)), (6, vI a0.Kind), (18, vB (a0.Kind == (2 : Int)))] [bx [3] (encSAmount a0), bx [1] (encSAmount a0)]) (aN) ?_
     refine iB h (fun b8 h => ?_) (fun b8 h => ?_)
     · refine Rg [.a, .a] (sl 59 [(1, vP [1] (0)), (3, vP [3] (0))] [bx [3] (encSAmount ({ a0 with N := (0 : Int) })), bx [1] (encSAmount a0)]) (aN) ?_
       refine Rg [.a, .a, .a] (sl 59 [(1, vP [1] (0)), (3, vP [3] (0))] [bx [3] (encSAmount ({ { a0 with N := (0 : Int) } with Filter := (⟨(0 : Int), (0 : Int), (0 : Int), (0 : Int), (0 : Int), (0 : Int), (0 : Int), [], (0 : Int), (0 : Int), (⟨(0 : Int), (0 : Int)⟩ : SBound), (⟨(0 : Int), (0 : Int)⟩ : SBound), (⟨(0 : Int), (0 : Int)⟩ : SBound)⟩ : SFilter) })), bx [1] (encSAmount a0)]) (aC (And.intro trivial okp94) <| aN) ?_
       obtain ⟨b9, hb9, h⟩ := bS h
       obtain ⟨r10, hr10, h⟩ := bS h
       obtain ⟨b11, hb11, h⟩ := bS h
       refine Rg [.a, .a, .a, .a, .a, .a, .a, (.v (vB b9)), .a, .a, .a, (.c (vB r10)), .a, (.v (vB b11))] (sl 59 [(1, vP [1] (0)), (3, vP [3] (0)), (36, vB b11)] [bx [3] (encSAmount ({ { a0 with N := (0 : Int) } with Filter := (⟨(0 : Int), (0 : Int), (0 : Int), (0 : Int), (0 : Int), (0 : Int), (0 : Int), [], (0 : Int), (0 : Int), (⟨(0 : Int), (0 : Int)⟩ : SBound), (⟨(0 : Int), (0 : Int)⟩ : SBound), (⟨(0 : Int), (0 : Int)⟩ : SBound)⟩ : SFilter) })), bx [1] (encSAmount a0)]) (aG ((decide (a0.N < (1 : Int))) == false) <| aG ((decide (a0.N < (1 : Int))) == false) <| aF (decide (a0.N < (1 : Int))) <| aB hb9 <| aG (b9 == false) <| aC (c1 hr10 r13_Is_ok) <| aG (b9 == false) <| aF b9 <| aB hb11 <| aN) ?_
       refine iB h (fun b12 h => ?_) (fun b12 h => ?_)
       · refine Rg [.a] (sl 59 [(2, vB false)] []) (aN) ?_
         refine Holds.ret ?_
         refine blockQ.ret ?_
         refine Tr ?_
         exact bQ (vB false) (congrArg vB (sI h))
       · refine Holds.skip ?_
         refine blockQ.normal ?_
         refine Tn ⟨({ { a0 with N := (0 : Int) } with Filter := (⟨(0 : Int), (0 : Int), (0 : Int), (0 : Int), (0 : Int), (0 : Int), (0 : Int), [], (0 : Int), (0 : Int), (⟨(0 : Int), (0 : Int)⟩ : SBound), (⟨(0 : Int), (0 : Int)⟩ : SBound), (⟨(0 : Int), (0 : Int)⟩ : SBound)⟩ : SFilter) }), h, wT⟩
     · refine Rg [.a, .a] (sl 59 [(1, vP [1] (0)), (3, vP [3] (0)), (37, vB (a0.Kind == (4 : Int)))] [bx [3] (encSAmount a0), bx [1] (encSAmount a0)]) (aN) ?_
       refine iB h (fun b13 h => ?_) (fun b13 h => ?_)
       · refine Rg [.a, .a] (sl 59 [(1, vP [1] (0)), (3, vP [3] (0))] [bx [3] (encSAmount ({ a0 with Counter := (0 : Int) })), bx [1] (encSAmount a0)]) (aN) ?_
         obtain ⟨r14, hr14, h⟩ := bS h
         refine Rg [.a, .a, (.c (vS r14)), .a] (sl 59 [(1, vP [1] (0)), (3, vP [3] (0)), (43, vB (r14 == ([] : List UInt8)))] [bx [3] (encSAmount ({ a0 with Counter := (0 : Int) })), bx [1] (encSAmount a0)]) (aC (r12_Name_ok hr14) <| aN) ?_
         refine iB h (fun b15 h => ?_) (fun b15 h => ?_)
         · refine Rg [.a] (sl 59 [(2, vB false)] []) (aN) ?_
           refine Holds.ret ?_
           refine blockQ.ret ?_
           refine Tr ?_
           exact bQ (vB false) (congrArg vB (sI h))
         · refine Holds.skip ?_
           refine blockQ.normal ?_
           refine Tn ⟨({ a0 with Counter := (0 : Int) }), h, wT⟩
       · refine Holds.skip ?_
         refine blockQ.normal ?_
         refine Tn ⟨a0, h, wT⟩
 · rintro b3_1 hJ2
   replace hJ2 : r14_Is_J2 a0 b3_1 = some r := hJ2
   unfold r14_Is_J2 at hJ2
   obtain ⟨b3, hb3, hJ2⟩ := bS hJ2
   obtain ⟨b4, hb4, hJ2⟩ := bS hJ2
   refine Rg [.a, .a, .a, .a, .a, .a, .a, (.v (vB b3)), .a, .a, .a, .a, .a, (.v (vB (b3_1 == (⟨a0.Kind, (0 : Int), (0 : Int), (⟨(0 : Int), (0 : Int), (0 : Int), (0 : Int), (0 : Int), (0 : Int), (0 : Int), [], (0 : Int), (0 : Int), (⟨(0 : Int), (0 : Int)⟩ : SBound), (⟨(0 : Int), (0 : Int)⟩ : SBound), (⟨(0 : Int), (0 : Int)⟩ : SBound)⟩ : SFilter)⟩ : SAmount)))), (.v (vB b4)), .a] (sl 59 [(2, vB b4)] []) (aG ((decide ((0 : Int) ≤ a0.Kind)) == true) <| aG ((decide ((0 : Int) ≤ a0.Kind)) == true) <| aT (decide ((0 : Int) ≤ a0.Kind)) <| aB hb3 <| aG (b3 == true) <| aC (fun hg : (b3 == true) = true => aC (And.intro (show ((b3 == true) = true → (b3 == true) = true) ∧ True from ⟨id, trivial⟩) okp109) <| aN) <| aC (fun hg : (b3 == true) = true => aC (gi (b3 == true)) <| aC (gi (b3 == true)) <| aC (congrArg (fun z => V.c (.bool (z))) (eqT109 b3_1 (⟨a0.Kind, (0 : Int), (0 : Int), (⟨(0 : Int), (0 : Int), (0 : Int), (0 : Int), (0 : Int), (0 : Int), (0 : Int), [], (0 : Int), (0 : Int), (⟨(0 : Int), (0 : Int)⟩ : SBound), (⟨(0 : Int), (0 : Int)⟩ : SBound), (⟨(0 : Int), (0 : Int)⟩ : SBound)⟩ : SFilter)⟩ : SAmount))) <| aN) <| aT b3 <| aB hb4 <| aN) ?_
   refine Holds.ret ?_
   exact bQ (vB b4) (congrArg vB (sI hJ2))
/-- cardgame/cardgamelaw23.alive -/
def law23_alive : Option (Bool) :=
 (law23_cards).bind fun r1 =>
 (deck_Parse r1 str_20_spring_4_ember_fox_).bind fun r2 =>
 (need (((r2.2 == (0 : Int)) == true) = true)).bind fun u3 =>
 (need (((r2.2 == (0 : Int)) == true) = true)).bind fun u4 =>
 (gd ((r2.2 == (0 : Int)) == true) (r23_Same r2.1 (⟨([(0 : Int), (2 : Int)] : List (Int)), ([(20 : Int), (4 : Int)] : List (Int))⟩ : SDeck))).bind fun r5 =>
 (some (if (r2.2 == (0 : Int)) = true then r5 else false)).bind fun b6 =>
 (gd (b6 == true) (law23_cards)).bind fun r7 =>
 (gd (b6 == true) (deck_Text r7 r2.1)).bind fun r8 =>
 (some (if b6 = true then r8 == str_20_spring_4_ember_fox_ else false)).bind fun b9 =>
 (gd (b9 == true) (law23_cards)).bind fun r10 =>
 (gd (b9 == true) (deck_Check r10 r2.1 (⟨(24 : Int), (30 : Int), (4 : Int), ([] : List (List UInt8))⟩ : SFormat))).bind fun r11 =>
 (some (if b9 = true then r11 == (0 : Int) else false)).bind fun b12 =>
 (gd (b12 == true) (deck_Size r2.1)).bind fun r13 =>
 (some (if b12 = true then r13 == (24 : Int) else false)).bind fun b14 =>
 (gd (b14 == true) (deck_List r2.1)).bind fun r15 =>
 (some (if b14 = true then (r15.length : Int) == (24 : Int) else false)).bind fun b16 =>
 (gd (b16 == true) (law23_cards)).bind fun r17 =>
 (gd (b16 == true) (deck_Check r17 r2.1 (⟨(24 : Int), (30 : Int), (3 : Int), ([] : List (List UInt8))⟩ : SFormat))).bind fun r18 =>
 (some (if b16 = true then r18 == (10 : Int) else false)).bind fun b19 =>
 some b19
def law23_alive_C (r : Bool) : Prop := PCall Tryz.prog I0 8 [] (· = vB r)
theorem law23_alive_ok {r : Bool} (h : law23_alive  = some r) : law23_alive_C r := by
 refine PCall.body I0_stable (by kernel_rfl) Tryz.func8 rfl Tryz.ntmps8 (rs := [.tmp 0]) rfl rfl ?_
 intro w0 av old gv
 unfold law23_alive at h
 refine Rg [.a] (sl 50 [] []) (aN) ?_
 obtain ⟨r1, hr1, h⟩ := bS h
 obtain ⟨r2, hr2, h⟩ := bS h
 refine Rg [(.c (vL encSCard r1)), (.c (.tup [vA encSDeck r2.1, vI r2.2])), .a, .a, .a, .a, .a, .a] (sl 50 [(1, vP [1] (0)), (2, vI r2.2)] [bx [1] (encSDeck r2.1)]) (aC (law23_cards_ok hr1) <| aC (deck_Parse_ok hr2) <| aC (show True ∧ 0 < [V.undef, V.undef].length from ⟨trivial, (by decide)⟩) <| aC (show True ∧ 1 < [V.undef, V.undef].length from ⟨trivial, (by decide)⟩) <| aN) ?_
 refine Rg [.a, .a, .a] (sl 50 [(1, vP [1] (0)), (2, vI r2.2), (3, vP [3] (0))] [bx [3] [.int .i64 (24 : Int), .int .i64 (30 : Int), .int .i64 (4 : Int), .nils], bx [1] (encSDeck r2.1)]) (aC (And.intro (show True ∧ (True ∧ (True ∧ True)) from ⟨trivial, ⟨trivial, ⟨trivial, trivial⟩⟩⟩) okp28) <| aN) ?_
 refine Holds.seq ?_
 obtain ⟨u3, hu3, h⟩ := bS h
 obtain ⟨u4, hu4, h⟩ := bS h
 obtain ⟨r5, hr5, h⟩ := bS h
 obtain ⟨b6, hb6, h⟩ := bS h
 obtain ⟨r7, hr7, h⟩ := bS h
 obtain ⟨r8, hr8, h⟩ := bS h
 obtain ⟨b9, hb9, h⟩ := bS h
 obtain ⟨r10, hr10, h⟩ := bS h
 obtain ⟨r11, hr11, h⟩ := bS h
 obtain ⟨b12, hb12, h⟩ := bS h
 obtain ⟨r13, hr13, h⟩ := bS h
 obtain ⟨b14, hb14, h⟩ := bS h
 obtain ⟨r15, hr15, h⟩ := bS h
 obtain ⟨b16, hb16, h⟩ := bS h
 obtain ⟨r17, hr17, h⟩ := bS h
 obtain ⟨r18, hr18, h⟩ := bS h
 obtain ⟨b19, hb19, h⟩ := bS h
 refine Holds.regS followsP [[], [0], [0, 1], [0, 1, 2], [0, 1, 2], [0, 1, 2], [0, 1, 2, 4, 5], [0, 1, 2, 3, 4, 5, 6], [0, 1, 2, 3, 4, 5, 6, 7], [0, 1, 2, 3, 4, 5, 6, 7, 8], [0, 1, 2, 3, 4, 5, 6, 7, 8, 9], [0, 1, 2, 3, 4, 5, 6, 7, 8, 9], [0, 1, 2, 3, 4, 5, 6, 7, 8, 9, 10, 11], [0, 1, 2, 3, 4, 5, 6, 7, 8, 9, 10, 11, 12], [0, 1, 2, 3, 4, 5, 6, 7, 8, 9, 10, 11, 12, 13], [0, 1, 2, 3, 4, 5, 6, 7, 8, 9, 10, 11, 12, 13, 14], [0, 1, 2, 3, 4, 5, 6, 7, 8, 9, 10, 11, 12, 13, 14, 15], [0, 1, 2, 3, 4, 5, 6, 7, 8, 9, 10, 11, 12, 13, 14, 15], [0, 1, 2, 3, 4, 5, 6, 7, 8, 9, 10, 11, 12, 13, 14, 15], [0, 1, 2, 3, 4, 5, 6, 7, 8, 9, 10, 11, 12, 13, 14, 15, 16, 17, 18], [0, 1, 2, 3, 4, 5, 6, 7, 8, 9, 10, 11, 12, 13, 14, 15, 16, 17, 18, 19], [0, 1, 2, 3, 4, 5, 6, 7, 8, 9, 10, 11, 12, 13, 14, 15, 16, 17, 18, 19, 20], [0, 1, 2, 3, 4, 5, 6, 7, 8, 9, 10, 11, 12, 13, 14, 15, 16, 17, 18, 19, 20, 21], [0, 1, 2, 3, 4, 5, 6, 7, 8, 9, 10, 11, 12, 13, 14, 15, 16, 17, 18, 19, 20, 21, 22], [0, 1, 2, 3, 4, 5, 6, 7, 8, 9, 10, 11, 12, 13, 14, 15, 16, 17, 18, 19, 20, 21, 22, 23], [0, 1, 2, 3, 4, 5, 6, 7, 8, 9, 10, 11, 12, 13, 14, 15, 16, 17, 18, 19, 20, 21, 22, 23, 24], [0, 1, 2, 3, 4, 5, 6, 7, 8, 9, 10, 11, 12, 13, 14, 15, 16, 17, 18, 19, 20, 21, 22, 23, 24, 25], [0, 1, 2, 3, 4, 5, 6, 7, 8, 9, 10, 11, 12, 13, 14, 15, 16, 17, 18, 19, 20, 21, 22, 23, 24, 25, 26], [0, 1, 2, 3, 4, 5, 6, 7, 8, 9, 10, 11, 12, 13, 14, 15, 16, 17, 18, 19, 20, 21, 22, 23, 24, 25, 26, 27], [0, 1, 2, 3, 4, 5, 6, 7, 8, 9, 10, 11, 12, 13, 14, 15, 16, 17, 18, 19, 20, 21, 22, 23, 24, 25, 26, 27, 28], [0, 1, 2, 3, 4, 5, 6, 7, 8, 9, 10, 11, 12, 13, 14, 15, 16, 17, 18, 19, 20, 21, 22, 23, 24, 25, 26, 27, 28, 29], [0, 1, 2, 3, 4, 5, 6, 7, 8, 9, 10, 11, 12, 13, 14, 15, 16, 17, 18, 19, 20, 21, 22, 23, 24, 25, 26, 27, 28, 29, 30], [0, 1, 2, 3, 4, 5, 6, 7, 8, 9, 10, 11, 12, 13, 14, 15, 16, 17, 18, 19, 20, 21, 22, 23, 24, 25, 26, 27, 28, 29, 30, 31], [0, 1, 2, 3, 4, 5, 6, 7, 8, 9, 10, 11, 12, 13, 14, 15, 16, 17, 18, 19, 20, 21, 22, 23, 24, 25, 26, 27, 28, 29, 30, 31, 32], [0, 1, 2, 3, 4, 5, 6, 7, 8, 9, 10, 11, 12, 13, 14, 15, 16, 17, 18, 19, 20, 21, 22, 23, 24, 25, 26, 27, 28, 29, 30, 31, 32, 33], [0, 1, 2, 3, 4, 5, 6, 7, 8, 9, 10, 11, 12, 13, 14, 15, 16, 17, 18, 19, 20, 21, 22, 23, 24, 25, 26, 27, 28, 29, 30, 31, 32, 33], [0, 1, 2, 3, 4, 5, 6, 7, 8, 9, 10, 11, 12, 13, 14, 15, 16, 17, 18, 19, 20, 21, 22, 23, 24, 25, 26, 27, 28, 29, 30, 31, 32, 33], [0, 1, 2, 3, 4, 5, 6, 7, 8, 9, 10, 11, 12, 13, 14, 15, 16, 17, 18, 19, 20, 21, 22, 23, 24, 25, 26, 27, 28, 29, 30, 31, 32, 33, 34, 35, 36], [0, 1, 2, 3, 4, 5, 6, 7, 8, 9, 10, 11, 12, 13, 14, 15, 16, 17, 18, 19, 20, 21, 22, 23, 24, 25, 26, 27, 28, 29, 30, 31, 32, 33, 34, 35, 36, 37], [0, 1, 2, 3, 4, 5, 6, 7, 8, 9, 10, 11, 12, 13, 14, 15, 16, 17, 18, 19, 20, 21, 22, 23, 24, 25, 26, 27, 28, 29, 30, 31, 32, 33, 34, 35, 36, 37, 38], [0, 1, 2, 3, 4, 5, 6, 7, 8, 9, 10, 11, 12, 13, 14, 15, 16, 17, 18, 19, 20, 21, 22, 23, 24, 25, 26, 27, 28, 29, 30, 31, 32, 33, 34, 35, 36, 37, 38, 39]] [4, 5] [[false, false], [true, false], [false, true], [true, true]] [.a, .a, .a, .a, .a, .a, .a, (.c (vB r5)), (.v (vB b6)), .a, (.c (vL encSCard r7)), .a, (.c (vS r8)), .a, (.v (vB b9)), .a, (.c (vL encSCard r10)), .a, .a, (.c (vI r11)), .a, (.v (vB b12)), .a, .a, (.c (vI r13)), .a, (.v (vB b14)), .a, .a, (.c (vL (eI .i64) r15)), .a, .a, (.v (vB b16)), .a, (.c (vL encSCard r17)), .a, .a, (.c (vI r18)), .a, (.v (vB b19)), .a] [[14], [15], [3], [1]] ⟨slD 50 0 [(0, [(40, vB b19)], .undef), (1, [], vP [1] (0)), (2, [], vI r2.2), (3, [], vP [3] (0)), (10, [(0, vI r2.2)], .undef), (11, [(1, vB (r2.2 == (0 : Int)))], .undef), (12, [(2, vB (r2.2 == (0 : Int)))], .undef), (13, [(3, .g ((r2.2 == (0 : Int)) == true) (vA encSDeck r2.1))], .undef), (14, [(4, vO [14])], .undef), (15, [(5, vO [15])], .undef), (16, [(6, .g ((r2.2 == (0 : Int)) == true) (.agg [.osl [14], .osl [15]]))], .undef), (17, [(7, .g ((r2.2 == (0 : Int)) == true) (vB r5))], .undef), (18, [(8, vB b6)], .undef), (19, [(9, vB b6)], .undef), (20, [(10, .g (b6 == true) (vL encSCard r7))], .undef), (21, [(11, .g (b6 == true) (vA encSDeck r2.1))], .undef), (22, [(12, .g (b6 == true) (vS r8))], .undef), (23, [(13, .g (b6 == true) (vB (r8 == str_20_spring_4_ember_fox_)))], .undef), (24, [(14, vB b9)], .undef), (25, [(15, vB b9)], .undef), (26, [(16, .g (b9 == true) (vL encSCard r10))], .undef), (27, [(17, .g (b9 == true) (vA encSDeck r2.1))], .undef), (28, [(18, .g (b9 == true) (.agg [.int .i64 (24 : Int), .int .i64 (30 : Int), .int .i64 (4 : Int), .nils]))], .undef), (29, [(19, .g (b9 == true) (vI r11))], .undef), (30, [(20, .g (b9 == true) (vB (r11 == (0 : Int))))], .undef), (31, [(21, vB b12)], .undef), (32, [(22, vB b12)], .undef), (33, [(23, .g (b12 == true) (vA encSDeck r2.1))], .undef), (34, [(24, .g (b12 == true) (vI r13))], .undef), (35, [(25, .g (b12 == true) (vB (r13 == (24 : Int))))], .undef), (36, [(26, vB b14)], .undef), (37, [(27, vB b14)], .undef), (38, [(28, .g (b14 == true) (vA encSDeck r2.1))], .undef), (39, [(29, .g (b14 == true) (vL (eI .i64) r15))], .undef), (40, [(30, .g (b14 == true) (vI (r15.length : Int)))], .undef), (41, [(31, .g (b14 == true) (vB ((r15.length : Int) == (24 : Int))))], .undef), (42, [(32, vB b16)], .undef), (43, [(33, vB b16)], .undef), (44, [(34, .g (b16 == true) (vL encSCard r17))], .undef), (45, [(35, .g (b16 == true) (vA encSDeck r2.1))], .undef), (46, [(36, .g (b16 == true) (.agg [.int .i64 (24 : Int), .int .i64 (30 : Int), .int .i64 (3 : Int), .nils]))], .undef), (47, [(37, .g (b16 == true) (vI r18))], .undef), (48, [(38, .g (b16 == true) (vB (r18 == (10 : Int))))], .undef), (49, [(39, vB b19)], .undef)], [([(4, rw_ [14] 3 1 (eI .i64) ([(0 : Int), (2 : Int)] : List (Int)))], none), ([(5, rw_ [15] 3 1 (eI .i64) ([(20 : Int), (4 : Int)] : List (Int)))], none), ([], some (bx [3] [.int .i64 (24 : Int), .int .i64 (30 : Int), .int .i64 (4 : Int), .nils])), ([], some (bx [1] (encSDeck r2.1)))], [], []⟩ _ (bC (aN) <| bC (aN) <| bC (aN) <| bC (aN) <| bC (aC (need_b hu3) <| aN) <| bC (aC (need_b hu4) <| aN) <| bC (aC (fun hg : ((r2.2 == (0 : Int)) == true) = true => aC (And.intro (show True ∧ (True ∧ True) from ⟨trivial, ⟨trivial, trivial⟩⟩) okp25) <| aN) <| aN) <| bC (aC (c2 hr5 r23_Same_ok) <| aN) <| bC (aT (r2.2 == (0 : Int)) <| aB hb6 <| aN) <| bC (aN) <| bC (aC (c0 hr7 law23_cards_ok) <| aN) <| bC (aN) <| bC (aC (c2 hr8 deck_Text_ok) <| aN) <| bC (aG (b6 == true) <| aN) <| bC (aT b6 <| aB hb9 <| aN) <| bC (aN) <| bC (aC (c0 hr10 law23_cards_ok) <| aN) <| bC (aN) <| bC (aN) <| bC (aC (c3 hr11 deck_Check_ok) <| aN) <| bC (aG (b9 == true) <| aN) <| bC (aT b9 <| aB hb12 <| aN) <| bC (aN) <| bC (aN) <| bC (aC (c1 hr13 deck_Size_ok) <| aN) <| bC (aG (b12 == true) <| aN) <| bC (aT b12 <| aB hb14 <| aN) <| bC (aN) <| bC (aN) <| bC (aC (c1 hr15 deck_List_ok) <| aN) <| bC (aG (b14 == true) <| aN) <| bC (aG (b14 == true) <| aN) <| bC (aT b14 <| aB hb16 <| aN) <| bC (aN) <| bC (aC (c0 hr17 law23_cards_ok) <| aN) <| bC (aN) <| bC (aC (fun hg : (b16 == true) = true => aC (And.intro (show True ∧ (True ∧ (True ∧ True)) from ⟨trivial, ⟨trivial, ⟨trivial, trivial⟩⟩⟩) okp28) <| aN) <| aN) <| bC (aC (c3 hr18 deck_Check_ok) <| aN) <| bC (aG (b16 == true) <| aN) <| bC (aT b16 <| aB hb19 <| aN) <| bC (aN) <| bN) ?_
 refine Tn ?_
 refine Ls (sl 50 [(0, vB b19)] []) ?_
 refine Holds.ret ?_
 exact bQ (vB b19) (congrArg vB (sI h))
end Go.PL
