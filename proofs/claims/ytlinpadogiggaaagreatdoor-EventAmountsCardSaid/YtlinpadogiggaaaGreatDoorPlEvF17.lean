/- Functions of the program, as partial functions in Lean, with proofs. -/
import Derived.Test.YtlinpadogiggaaaGreatDoorPlEvB
import Derived.Test.YtlinpadogiggaaaGreatDoorPlEvF1
import Derived.Test.YtlinpadogiggaaaGreatDoorPlEvF16
import Derived.Test.YtlinpadogiggaaaGreatDoorPlEvF4
import Derived.Test.YtlinpadogiggaaaGreatDoorPlEvF6
import Derived.Test.YtlinpadogiggaaaGreatDoorPlEvF7
namespace Go.PL
open Go Go.RowKit Go.Proofs
set_option maxRecDepth 100000
set_option linter.all false
set_option maxHeartbeats 1000000
attribute [local irreducible] Holds thenQ blockQ
def law32_EventAmounts_J2 (a0 : List (SCard)) (a1 : SState) (a2 : SEvent) (vt16_1 : Bool) : Option (Bool) :=
 (if vt16_1 = true then
  (law32_valid a0 a1).bind fun r4 =>
  (if (!r4) = true then
   (law32_alive).bind fun r6 =>
   some r6
  else
   (some (if (decide ((1 : Int) ≤ a2.Amount)) = true then decide (a2.Amount ≤ (1000000 : Int)) else false)).bind fun b7 =>
   (event_Is a0 a1 ({ a2 with Amount := (1 : Int) })).bind fun r8 =>
   (law32_alive).bind fun r9 =>
   (gd (r9 == true) (event_Is a0 a1 ({ a2 with Amount := (1000000 : Int) }))).bind fun r10 =>
   (some (if r9 = true then r10 == r8 else false)).bind fun b11 =>
   (gd (b11 == true) (event_Is a0 a1 ({ a2 with Amount := (0 : Int) }))).bind fun r12 =>
   (some (if b11 = true then !r12 else false)).bind fun b13 =>
   (gd (b13 == true) (event_Is a0 a1 ({ a2 with Amount := (1000001 : Int) }))).bind fun r14 =>
   (some (if b13 = true then !r14 else false)).bind fun b15 =>
   (gd (b15 == true) (event_Is a0 a1 a2)).bind fun r16 =>
   (some (if r8 = true then b7 else false)).bind fun b17 =>
   (some (if b15 = true then r16 == b17 else false)).bind fun b18 =>
   some b18)
 else
  (law32_alive).bind fun r19 =>
  some r19)
/-- cardgame/cardgamelaw32.EventAmounts -/
def law32_EventAmounts (a0 : List (SCard)) (a1 : SState) (a2 : SEvent) : Option (Bool) :=
 (if (a2.Kind == (1 : Int)) = true then
  law32_EventAmounts_J2 a0 a1 a2 (a2.Kind == (1 : Int))
 else
  (if (a2.Kind == (4 : Int)) = true then
   law32_EventAmounts_J2 a0 a1 a2 (a2.Kind == (4 : Int))
  else
   (if (a2.Kind == (5 : Int)) = true then
    law32_EventAmounts_J2 a0 a1 a2 (a2.Kind == (5 : Int))
   else
    (if (a2.Kind == (16 : Int)) = true then
     law32_EventAmounts_J2 a0 a1 a2 (a2.Kind == (16 : Int))
    else
     (if (a2.Kind == (8 : Int)) = true then
      law32_EventAmounts_J2 a0 a1 a2 (a2.Kind == (8 : Int))
     else
      (if (a2.Kind == (9 : Int)) = true then
       law32_EventAmounts_J2 a0 a1 a2 (a2.Kind == (9 : Int))
      else
       law32_EventAmounts_J2 a0 a1 a2 (a2.Kind == (10 : Int))))))))
def law32_EventAmounts_C (a0 : List (SCard)) (a1 : SState) (a2 : SEvent) (r : Bool) : Prop := PCall Tryz.prog I0 6 [vL encSCard a0, vA encSState a1, vA encSEvent a2] (· = vB r)
theorem law32_EventAmounts_ok {a0 : List (SCard)} {a1 : SState} {a2 : SEvent} {r : Bool} (h : law32_EventAmounts a0 a1 a2 = some r) : law32_EventAmounts_C a0 a1 a2 r := by
 refine PCall.body I0_stable (by kernel_rfl) Tryz.func6 rfl Tryz.ntmps6 (rs := [.tmp 6]) rfl rfl ?_
 intro w0 av old gv
 unfold law32_EventAmounts at h
 refine Rg [.a, .a, .a] (sl 83 [(0, vL encSCard a0), (4, vP [4] (0)), (5, vP [5] (0))] [bx [5] (encSEvent a2), bx [4] (encSState a1)]) (aN) ?_
 refine Holds.seq ?_
 refine Rg [.a, .a] (sl 83 [(0, vL encSCard a0), (4, vP [4] (0)), (5, vP [5] (0)), (14, vI a2.Kind)] [bx [5] (encSEvent a2), bx [4] (encSState a1)]) (aN) ?_
 refine Holds.block ?_
 refine Holds.seqJ (X := Bool) (fun v => (sl 83 [(0, vL encSCard a0), (4, vP [4] (0)), (5, vP [5] (0)), (16, vB v)] [bx [5] (encSEvent a2), bx [4] (encSState a1)])) (fun v => law32_EventAmounts_J2 a0 a1 a2 v = some r) ?_ ?_
 · refine Rg [.a, .a] (sl 83 [(0, vL encSCard a0), (4, vP [4] (0)), (5, vP [5] (0)), (14, vI a2.Kind), (16, vB (a2.Kind == (1 : Int)))] [bx [5] (encSEvent a2), bx [4] (encSState a1)]) (aN) ?_
   refine iB h (fun b20 h => ?_) (fun b20 h => ?_)
   · refine Holds.skip ?_
     refine Tn ⟨(a2.Kind == (1 : Int)), h, lT⟩
   · refine Rg [.a, .a] (sl 83 [(0, vL encSCard a0), (4, vP [4] (0)), (5, vP [5] (0)), (14, vI a2.Kind), (16, vB (a2.Kind == (4 : Int)))] [bx [5] (encSEvent a2), bx [4] (encSState a1)]) (aN) ?_
     refine iB h (fun b21 h => ?_) (fun b21 h => ?_)
     · refine Holds.skip ?_
       refine Tn ⟨(a2.Kind == (4 : Int)), h, lT⟩
     · refine Rg [.a, .a] (sl 83 [(0, vL encSCard a0), (4, vP [4] (0)), (5, vP [5] (0)), (14, vI a2.Kind), (16, vB (a2.Kind == (5 : Int)))] [bx [5] (encSEvent a2), bx [4] (encSState a1)]) (aN) ?_
       refine iB h (fun b22 h => ?_) (fun b22 h => ?_)
       · refine Holds.skip ?_
         refine Tn ⟨(a2.Kind == (5 : Int)), h, lT⟩
       · refine Rg [.a, .a] (sl 83 [(0, vL encSCard a0), (4, vP [4] (0)), (5, vP [5] (0)), (14, vI a2.Kind), (16, vB (a2.Kind == (16 : Int)))] [bx [5] (encSEvent a2), bx [4] (encSState a1)]) (aN) ?_
         refine iB h (fun b23 h => ?_) (fun b23 h => ?_)
         · refine Holds.skip ?_
           refine Tn ⟨(a2.Kind == (16 : Int)), h, lT⟩
         · refine Rg [.a, .a] (sl 83 [(0, vL encSCard a0), (4, vP [4] (0)), (5, vP [5] (0)), (14, vI a2.Kind), (16, vB (a2.Kind == (8 : Int)))] [bx [5] (encSEvent a2), bx [4] (encSState a1)]) (aN) ?_
           refine iB h (fun b24 h => ?_) (fun b24 h => ?_)
           · refine Holds.skip ?_
             refine Tn ⟨(a2.Kind == (8 : Int)), h, lT⟩
           · refine Rg [.a, .a] (sl 83 [(0, vL encSCard a0), (4, vP [4] (0)), (5, vP [5] (0)), (14, vI a2.Kind), (16, vB (a2.Kind == (9 : Int)))] [bx [5] (encSEvent a2), bx [4] (encSState a1)]) (aN) ?_
             refine iB h (fun b25 h => ?_) (fun b25 h => ?_)
             · refine Holds.skip ?_
               refine Tn ⟨(a2.Kind == (9 : Int)), h, lT⟩
             · refine Re [.a, .a] (sl 83 [(0, vL encSCard a0), (4, vP [4] (0)), (5, vP [5] (0)), (14, vI a2.Kind), (16, vB (a2.Kind == (10 : Int))), (23, vB (a2.Kind == (10 : Int)))] [bx [5] (encSEvent a2), bx [4] (encSState a1)]) (aN) ?_
               refine Tn ⟨(a2.Kind == (10 : Int)), h, lT⟩
 · rintro vt16_1 hJ2
   replace hJ2 : law32_EventAmounts_J2 a0 a1 a2 vt16_1 = some r := hJ2
   unfold law32_EventAmounts_J2 at hJ2
   refine iB hJ2 (fun b3 hJ2 => ?_) (fun b3 hJ2 => ?_)
   · refine Holds.skip ?_
     refine blockQ.normal ?_
     refine Tn ?_
     refine Holds.seq ?_
     obtain ⟨r4, hr4, hJ2⟩ := bS hJ2
     refine Rg [.a, .a, (.c (vB r4)), .a] (sl 83 [(0, vL encSCard a0), (4, vP [4] (0)), (5, vP [5] (0)), (27, vB (!r4))] [bx [5] (encSEvent a2), bx [4] (encSState a1)]) (aC (law32_valid_ok hr4) <| aN) ?_
     refine iB hJ2 (fun b5 hJ2 => ?_) (fun b5 hJ2 => ?_)
     · obtain ⟨r6, hr6, hJ2⟩ := bS hJ2
       refine Rg [(.c (vB r6)), .a] (sl 83 [(6, vB r6)] []) (aC (law32_alive_ok hr6) <| aN) ?_
       refine Holds.ret ?_
       refine Tr ?_
       exact bQ (vB r6) (congrArg vB (sI hJ2))
     · refine Holds.skip ?_
       refine Tn ?_
       refine Holds.seq ?_
       refine Holds.regN [0, 1, 2, 4, 8, 16, 32, 64, 128, 129, 130, 132, 136, 144, 160, 192, 193, 194, 196, 200, 208, 224, 225, 226, 228, 232, 240, 241, 242, 244, 248, 249, 250, 252, 253, 254, 255, 511, 1023, 2047, 4095, 509, 251, 507, 1019, 505, 245, 246, 247, 503, 1015, 2039, 501, 243, 499, 1011, 497, 233, 234, 236, 237, 238, 239, 235, 229, 230, 231, 227, 209, 210, 212, 216, 217, 218, 220, 221, 222, 223, 219, 213, 214, 215, 211, 201, 202, 204, 205, 206, 207, 203, 197, 198, 199, 195, 161, 162, 164, 168, 176, 177, 178, 180, 184, 185, 186, 188, 189, 190, 191, 187, 181, 182, 183, 179, 169, 170, 172, 173, 174, 175, 171, 165, 166, 167, 163, 145, 146, 148, 152, 153, 154, 156, 157, 158, 159, 155, 149, 150, 151, 147, 137, 138, 140, 141, 142, 143, 139, 133, 134, 135, 131, 65, 66, 68, 72, 80, 96, 97, 98, 100, 104, 112, 113, 114, 116, 120, 121, 122, 124, 125, 126, 127, 123, 117, 118, 119, 115, 105, 106, 108, 109, 110, 111, 107, 101, 102, 103, 99, 81, 82, 84, 88, 89, 90, 92, 93, 94, 95, 91, 85, 86, 87, 83, 73, 74, 76, 77, 78, 79, 75, 69, 70, 71, 67, 33, 34, 36, 40, 48, 49, 50, 52, 56, 57, 58, 60, 61, 62, 63, 59, 53, 54, 55, 51, 41, 42, 44, 45, 46, 47, 43, 37, 38, 39, 35, 17, 18, 20, 24, 25, 26, 28, 29, 30, 31, 27, 21, 22, 23, 19, 9, 10, 12, 13, 14, 15, 11, 5, 6, 7, 3] 4095 [.a, .a, .a, .a, .a, .a, .a, .a, .a, .a, .a, .a] [[7], [8], [9], [10], [5], [4]] (fun n => ⟨[vL encSCard a0, .undef, .undef, .undef, vP [4] (0), vP [5] (0), .undef, cond (Nat.testBit n 4) (vP [7] (0)) (.undef), cond (Nat.testBit n 5) (vP [8] (0)) (.undef), cond (Nat.testBit n 6) (vP [9] (0)) (.undef), cond (Nat.testBit n 7) (vP [10] (0)) (.undef), .undef, .undef, .undef, .undef, .undef, .undef, .undef, .undef, .undef, .undef, .undef, .undef, .undef, .undef, .undef, .undef, vB (!r4), .undef, cond (Nat.testBit n 0) (vA encSEvent a2) (.undef), cond (Nat.testBit n 1) (vA encSEvent a2) (.undef), cond (Nat.testBit n 2) (vA encSEvent a2) (.undef), cond (Nat.testBit n 3) (vA encSEvent a2) (.undef), .undef, .undef, .undef, .undef, .undef, .undef, .undef, .undef, .undef, .undef, .undef, .undef, .undef, .undef, .undef, .undef, .undef, .undef, .undef, .undef, .undef, .undef, .undef, .undef, .undef, .undef, .undef, .undef, .undef, .undef, .undef, .undef, .undef, .undef, .undef, .undef, .undef, .undef, .undef, .undef, .undef, .undef, .undef, .undef, .undef, .undef, .undef, .undef, .undef, .undef], List.filterMap id [cond (Nat.testBit n 8) (some (bx [7] (encSEvent a2))) (cond (Nat.testBit n 4) (some (bx [7] [.int .i64 (0 : Int), .int .i64 (0 : Int), .int .i64 (0 : Int), .int .i64 (0 : Int), .int .i64 (0 : Int), .int .i64 (0 : Int), .int .i64 (0 : Int), .int .i64 (0 : Int), .int .i64 (0 : Int), .int .i64 (0 : Int), .bool false, .bool false, .int .i64 (((⟨(0 : Int), (0 : Int), (0 : Int)⟩ : A3 (Int))).x0), .int .i64 (((⟨(0 : Int), (0 : Int), (0 : Int)⟩ : A3 (Int))).x1), .int .i64 (((⟨(0 : Int), (0 : Int), (0 : Int)⟩ : A3 (Int))).x2)])) ((none : Option Ent))), cond (Nat.testBit n 9) (some (bx [8] (encSEvent a2))) (cond (Nat.testBit n 5) (some (bx [8] [.int .i64 (0 : Int), .int .i64 (0 : Int), .int .i64 (0 : Int), .int .i64 (0 : Int), .int .i64 (0 : Int), .int .i64 (0 : Int), .int .i64 (0 : Int), .int .i64 (0 : Int), .int .i64 (0 : Int), .int .i64 (0 : Int), .bool false, .bool false, .int .i64 (((⟨(0 : Int), (0 : Int), (0 : Int)⟩ : A3 (Int))).x0), .int .i64 (((⟨(0 : Int), (0 : Int), (0 : Int)⟩ : A3 (Int))).x1), .int .i64 (((⟨(0 : Int), (0 : Int), (0 : Int)⟩ : A3 (Int))).x2)])) ((none : Option Ent))), cond (Nat.testBit n 10) (some (bx [9] (encSEvent a2))) (cond (Nat.testBit n 6) (some (bx [9] [.int .i64 (0 : Int), .int .i64 (0 : Int), .int .i64 (0 : Int), .int .i64 (0 : Int), .int .i64 (0 : Int), .int .i64 (0 : Int), .int .i64 (0 : Int), .int .i64 (0 : Int), .int .i64 (0 : Int), .int .i64 (0 : Int), .bool false, .bool false, .int .i64 (((⟨(0 : Int), (0 : Int), (0 : Int)⟩ : A3 (Int))).x0), .int .i64 (((⟨(0 : Int), (0 : Int), (0 : Int)⟩ : A3 (Int))).x1), .int .i64 (((⟨(0 : Int), (0 : Int), (0 : Int)⟩ : A3 (Int))).x2)])) ((none : Option Ent))), cond (Nat.testBit n 11) (some (bx [10] (encSEvent a2))) (cond (Nat.testBit n 7) (some (bx [10] [.int .i64 (0 : Int), .int .i64 (0 : Int), .int .i64 (0 : Int), .int .i64 (0 : Int), .int .i64 (0 : Int), .int .i64 (0 : Int), .int .i64 (0 : Int), .int .i64 (0 : Int), .int .i64 (0 : Int), .int .i64 (0 : Int), .bool false, .bool false, .int .i64 (((⟨(0 : Int), (0 : Int), (0 : Int)⟩ : A3 (Int))).x0), .int .i64 (((⟨(0 : Int), (0 : Int), (0 : Int)⟩ : A3 (Int))).x1), .int .i64 (((⟨(0 : Int), (0 : Int), (0 : Int)⟩ : A3 (Int))).x2)])) ((none : Option Ent))), some (bx [5] (encSEvent a2)), some (bx [4] (encSState a1))], [], []⟩) [[], [], [], [], [], [], [], [], [], [], [], []] followsP (by kernel_rfl) (by kernel_rfl) (by decide) (Less.t (by kernel_rfl)) (by kernel_rfl) ⟨trivial, trivial, trivial, trivial, trivial, trivial, trivial, trivial, trivial, trivial, trivial, trivial, trivial⟩ ?_
       refine Tn ?_
       refine Ls (sl 83 [(0, vL encSCard a0), (4, vP [4] (0)), (5, vP [5] (0)), (7, vP [7] (0)), (8, vP [8] (0)), (9, vP [9] (0)), (10, vP [10] (0))] [bx [7] (encSEvent a2), bx [8] (encSEvent a2), bx [9] (encSEvent a2), bx [10] (encSEvent a2), bx [5] (encSEvent a2), bx [4] (encSState a1)]) ?_
       refine Rg [.a, .a] (sl 83 [(0, vL encSCard a0), (4, vP [4] (0)), (5, vP [5] (0)), (7, vP [7] (0)), (8, vP [8] (0)), (9, vP [9] (0)), (10, vP [10] (0))] [bx [7] (encSEvent ({ a2 with Amount := (1 : Int) })), bx [8] (encSEvent a2), bx [9] (encSEvent a2), bx [10] (encSEvent a2), bx [5] (encSEvent a2), bx [4] (encSState a1)]) (aN) ?_
       refine Rg [.a, .a] (sl 83 [(0, vL encSCard a0), (4, vP [4] (0)), (5, vP [5] (0)), (7, vP [7] (0)), (8, vP [8] (0)), (9, vP [9] (0)), (10, vP [10] (0))] [bx [7] (encSEvent ({ a2 with Amount := (1 : Int) })), bx [8] (encSEvent ({ a2 with Amount := (1000000 : Int) })), bx [9] (encSEvent a2), bx [10] (encSEvent a2), bx [5] (encSEvent a2), bx [4] (encSState a1)]) (aN) ?_
       refine Rg [.a, .a] (sl 83 [(0, vL encSCard a0), (4, vP [4] (0)), (5, vP [5] (0)), (7, vP [7] (0)), (8, vP [8] (0)), (9, vP [9] (0)), (10, vP [10] (0))] [bx [7] (encSEvent ({ a2 with Amount := (1 : Int) })), bx [8] (encSEvent ({ a2 with Amount := (1000000 : Int) })), bx [9] (encSEvent ({ a2 with Amount := (0 : Int) })), bx [10] (encSEvent a2), bx [5] (encSEvent a2), bx [4] (encSState a1)]) (aN) ?_
       refine Rg [.a, .a] (sl 83 [(0, vL encSCard a0), (4, vP [4] (0)), (5, vP [5] (0)), (7, vP [7] (0)), (8, vP [8] (0)), (9, vP [9] (0)), (10, vP [10] (0))] [bx [7] (encSEvent ({ a2 with Amount := (1 : Int) })), bx [8] (encSEvent ({ a2 with Amount := (1000000 : Int) })), bx [9] (encSEvent ({ a2 with Amount := (0 : Int) })), bx [10] (encSEvent ({ a2 with Amount := (1000001 : Int) })), bx [5] (encSEvent a2), bx [4] (encSState a1)]) (aN) ?_
       obtain ⟨b7, hb7, hJ2⟩ := bS hJ2
       refine Rg [.a, .a, .a, .a, .a, .a, .a, (.v (vB b7)), .a] (sl 83 [(0, vL encSCard a0), (4, vP [4] (0)), (5, vP [5] (0)), (7, vP [7] (0)), (8, vP [8] (0)), (9, vP [9] (0)), (10, vP [10] (0)), (11, vB b7)] [bx [7] (encSEvent ({ a2 with Amount := (1 : Int) })), bx [8] (encSEvent ({ a2 with Amount := (1000000 : Int) })), bx [9] (encSEvent ({ a2 with Amount := (0 : Int) })), bx [10] (encSEvent ({ a2 with Amount := (1000001 : Int) })), bx [5] (encSEvent a2), bx [4] (encSState a1)]) (aG ((decide ((1 : Int) ≤ a2.Amount)) == true) <| aG ((decide ((1 : Int) ≤ a2.Amount)) == true) <| aT (decide ((1 : Int) ≤ a2.Amount)) <| aB hb7 <| aN) ?_
       obtain ⟨r8, hr8, hJ2⟩ := bS hJ2
       refine Rg [.a, .a, .a, (.c (vB r8)), .a] (sl 83 [(0, vL encSCard a0), (4, vP [4] (0)), (5, vP [5] (0)), (8, vP [8] (0)), (9, vP [9] (0)), (10, vP [10] (0)), (11, vB b7), (12, vB r8)] [bx [8] (encSEvent ({ a2 with Amount := (1000000 : Int) })), bx [9] (encSEvent ({ a2 with Amount := (0 : Int) })), bx [10] (encSEvent ({ a2 with Amount := (1000001 : Int) })), bx [5] (encSEvent a2), bx [4] (encSState a1)]) (aC (event_Is_ok hr8) <| aN) ?_
       obtain ⟨r9, hr9, hJ2⟩ := bS hJ2
       obtain ⟨r10, hr10, hJ2⟩ := bS hJ2
       obtain ⟨b11, hb11, hJ2⟩ := bS hJ2
       obtain ⟨r12, hr12, hJ2⟩ := bS hJ2
       obtain ⟨b13, hb13, hJ2⟩ := bS hJ2
       obtain ⟨r14, hr14, hJ2⟩ := bS hJ2
       obtain ⟨b15, hb15, hJ2⟩ := bS hJ2
       obtain ⟨r16, hr16, hJ2⟩ := bS hJ2
       obtain ⟨b17, hb17, hJ2⟩ := bS hJ2
       obtain ⟨b18, hb18, hJ2⟩ := bS hJ2
       refine Rg [(.c (vB r9)), .a, .a, .a, .a, (.c (vB r10)), .a, .a, (.v (vB b11)), .a, .a, .a, .a, (.c (vB r12)), .a, (.v (vB b13)), .a, .a, .a, .a, (.c (vB r14)), .a, (.v (vB b15)), .a, .a, .a, .a, (.c (vB r16)), .a, .a, .a, (.v (vB b17)), .a, (.v (vB b18)), .a] (sl 83 [(6, vB b18)] []) (aC (law32_alive_ok hr9) <| aC (c3 hr10 event_Is_ok) <| aC (fun hg : (r9 == true) = true => aC (gi (r9 == true)) <| aC (gi (r9 == true)) <| aC isb4 <| aN) <| aT r9 <| aB hb11 <| aC (c3 hr12 event_Is_ok) <| aG (b11 == true) <| aT b11 <| aB hb13 <| aC (c3 hr14 event_Is_ok) <| aG (b13 == true) <| aT b13 <| aB hb15 <| aC (c3 hr16 event_Is_ok) <| aG (b15 == true) <| aC (fun hg : (b15 == true) = true => aC (gi (b15 == true)) <| aC (fun q : r8 = true => (gA hg (gT q))) <| aB hb17 <| aN) <| aC (fun hg : (b15 == true) = true => aC (gi (b15 == true)) <| aC (gi (b15 == true)) <| aC isb4 <| aN) <| aT b15 <| aB hb18 <| aN) ?_
       refine Holds.ret ?_
       exact bQ (vB b18) (congrArg vB (sI hJ2))
   · obtain ⟨r19, hr19, hJ2⟩ := bS hJ2
     refine Rg [(.c (vB r19)), .a] (sl 83 [(6, vB r19)] []) (aC (law32_alive_ok hr19) <| aN) ?_
     refine Holds.ret ?_
     refine blockQ.ret ?_
     refine Tr ?_
     exact bQ (vB r19) (congrArg vB (sI hJ2))
end Go.PL
