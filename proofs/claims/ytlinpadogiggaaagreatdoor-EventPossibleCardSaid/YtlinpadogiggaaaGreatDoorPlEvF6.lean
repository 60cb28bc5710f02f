/- Functions of the program, as partial functions in Lean, with proofs. -/
import Derived.Test.YtlinpadogiggaaaGreatDoorPlEvB
import Derived.Test.YtlinpadogiggaaaGreatDoorPlEvF0
import Derived.Test.YtlinpadogiggaaaGreatDoorPlEvF1
import Derived.Test.YtlinpadogiggaaaGreatDoorPlEvF2
import Derived.Test.YtlinpadogiggaaaGreatDoorPlEvF3
import Derived.Test.YtlinpadogiggaaaGreatDoorPlEvF4
namespace Go.PL
open Go Go.RowKit Go.Proofs
set_option maxRecDepth 100000
set_option linter.all false
set_option maxHeartbeats 1000000
attribute [local irreducible] Holds thenQ blockQ
def r14_Is_J2 (a0 : SAmount) (b3_1 : SAmount) : Option (Bool) :=
 (some (if (decide ((0 : Int) ≤ a0.Kind)) = true then decide (a0.Kind ≤ (7 : Int)) else false)).bind fun b3 =>
 (some (if b3 = true then b3_1 == (⟨a0.Kind, (0 : Int), (0 : Int), (⟨(0 : Int), (0 : Int), (0 : Int), (0 : Int), (0 : Int), (0 : Int), (0 : Int), [], (0 : Int), (0 : Int), (⟨(0 : Int), (0 : Int)⟩ : SBound), (⟨(0 : Int), (0 : Int)⟩ : SBound), (⟨(0 : Int), (0 : Int)⟩ : SBound)⟩ : SFilter)⟩ : SAmount) else false)).bind fun b4 =>
 some b4
/-- cardgame/cardgameref14.Is -/
def r14_Is (a0 : SAmount) : Option (Bool) :=
 (if (a0.Kind == (0 : Int)) = true then
  (some (if (decide (a0.N < (0 : Int))) = true then true else decide ((1000000 : Int) < a0.N))).bind fun b6 =>
  (if b6 = true then
   some false
  else
   r14_Is_J2 a0 ({ a0 with N := (0 : Int) }))
 else
  (if (a0.Kind == (2 : Int)) = true then
   (some (if (decide (a0.N < (1 : Int))) = true then true else decide ((99 : Int) < a0.N))).bind fun b9 =>
   (gd (b9 == false) (r13_Is a0.Filter)).bind fun r10 =>
   (some (if b9 = true then true else !r10)).bind fun b11 =>
   (if b11 = true then
    some false
   else
    r14_Is_J2 a0 ({ { a0 with N := (0 : Int) } with Filter := (⟨(0 : Int), (0 : Int), (0 : Int), (0 : Int), (0 : Int), (0 : Int), (0 : Int), [], (0 : Int), (0 : Int), (⟨(0 : Int), (0 : Int)⟩ : SBound), (⟨(0 : Int), (0 : Int)⟩ : SBound), (⟨(0 : Int), (0 : Int)⟩ : SBound)⟩ : SFilter) }))
  else
   (if (a0.Kind == (4 : Int)) = true then
    (r12_Name a0.Counter).bind fun r14 =>
    (if (r14 == ([] : List UInt8)) = true then
     some false
    else
     r14_Is_J2 a0 ({ a0 with Counter := (0 : Int) }))
   else
    r14_Is_J2 a0 a0)))
def r14_Is_C (a0 : SAmount) (r : Bool) : Prop := PCall Tryz.prog I0 164 [vA encSAmount a0] (· = vB r)
theorem r14_Is_ok {a0 : SAmount} {r : Bool} (h : r14_Is a0 = some r) : r14_Is_C a0 r := by
 refine PCall.body I0_stable (by kernel_rfl) Tryz.func164 rfl Tryz.ntmps164 (rs := [.tmp 2]) rfl rfl ?_
 intro w0 av old gv
 unfold r14_Is at h
 refine Rg [.a, .a] (sl 59 [(1, vP [1] (0))] [bx [1] (encSAmount a0)]) (aN) ?_
 refine Rg [.a, .a, .a] (sl 59 [(1, vP [1] (0)), (3, vP [3] (0))] [bx [3] (encSAmount a0), bx [1] (encSAmount a0)]) (aN) ?_
 refine Holds.seqJ (X := SAmount) (fun v => (sl 59 [(1, vP [1] (0)), (3, vP [3] (0))] [bx [3] (encSAmount v), bx [1] (encSAmount a0)])) (fun v => r14_Is_J2 a0 v = some r) ?_ ?_
 · refine Rg [.a, .a] (sl 59 [(1, vP [1] (0)), (3, vP [3] (0)), (6, vI a0.Kind)] [bx [3] (encSAmount a0), bx [1] (encSAmount a0)]) (aN) ?_
   refine Holds.block ?_
   refine Rg [.a, .a] (sl 59 [(1, vP [1] (0)), (3, vP [3] (0)), (6, vI a0.Kind), (7, vB (a0.Kind == (0 : Int)))] [bx [3] (encSAmount a0), bx [1] (encSAmount a0)]) (aN) ?_
   refine iB h (fun b5 h => ?_) (fun b5 h => ?_)
   · refine Rg [.a, .a] (sl 59 [(1, vP [1] (0)), (3, vP [3] (0))] [bx [3] (encSAmount ({ a0 with N := (0 : Int) })), bx [1] (encSAmount a0)]) (aN) ?_
     obtain ⟨b6, hb6, h⟩ := bS h
     refine Rg [.a, .a, .a, .a, .a, .a, .a, (.v (vB b6))] (sl 59 [(1, vP [1] (0)), (3, vP [3] (0)), (17, vB b6)] [bx [3] (encSAmount ({ a0 with N := (0 : Int) })), bx [1] (encSAmount a0)]) (aG ((decide (a0.N < (0 : Int))) == false) <| aG ((decide (a0.N < (0 : Int))) == false) <| aF (decide (a0.N < (0 : Int))) <| aB hb6 <| aN) ?_
     refine iB h (fun b7 h => ?_) (fun b7 h => ?_)
     · refine Rg [.a] (sl 59 [(2, vB false)] []) (aN) ?_
       refine Holds.ret ?_
       refine blockQ.ret ?_
       refine Tr ?_
       exact bQ (vB false) (congrArg vB (sI h))
     · refine Holds.skip ?_
       refine blockQ.normal ?_
       refine Tn ⟨({ a0 with N := (0 : Int) }), h, lT⟩
   · refine Rg [.a, .a] (sl 59 [(1, vP [1] (0)), (3, vP [3] (0)), (6, vI a0.Kind), (18, vB (a0.Kind == (2 : Int)))] [bx [3] (encSAmount a0), bx [1] (encSAmount a0)]) (aN) ?_
     refine iB h (fun b8 h => ?_) (fun b8 h => ?_)
     · refine Rg [.a, .a] (sl 59 [(1, vP [1] (0)), (3, vP [3] (0))] [bx [3] (encSAmount ({ a0 with N := (0 : Int) })), bx [1] (encSAmount a0)]) (aN) ?_
       refine Rg [.a, .a, .a] (sl 59 [(1, vP [1] (0)), (3, vP [3] (0))] [bx [3] (encSAmount ({ { a0 with N := (0 : Int) } with Filter := (⟨(0 : Int), (0 : Int), (0 : Int), (0 : Int), (0 : Int), (0 : Int), (0 : Int), [], (0 : Int), (0 : Int), (⟨(0 : Int), (0 : Int)⟩ : SBound), (⟨(0 : Int), (0 : Int)⟩ : SBound), (⟨(0 : Int), (0 : Int)⟩ : SBound)⟩ : SFilter) })), bx [1] (encSAmount a0)]) (aC (And.intro trivial okp95) <| aN) ?_
       obtain ⟨b9, hb9, h⟩ := bS h
       obtain ⟨r10, hr10, h⟩ := bS h
       obtain ⟨b11, hb11, h⟩ := bS h
       refine Rg [.a, .a, .a, .a, .a, .a, .a, (.v (vB b9)), .a, .a, .a, (.c (vB r10)), .a, (.v (vB b11))] (sl 59 [(1, vP [1] (0)), (3, vP [3] (0)), (36, vB b11)] [bx [3] (encSAmount ({ { a0 with N := (0 : Int) } with Filter := (⟨(0 : Int), (0 : Int), (0 : Int), (0 : Int), (0 : Int), (0 : Int), (0 : Int), [], (0 : Int), (0 : Int), (⟨(0 : Int), (0 : Int)⟩ : SBound), (⟨(0 : Int), (0 : Int)⟩ : SBound), (⟨(0 : Int), (0 : Int)⟩ : SBound)⟩ : SFilter) })), bx [1] (encSAmount a0)]) (aG ((decide (a0.N < (1 : Int))) == false) <| aG ((decide (a0.N < (1 : Int))) == false) <| aF (decide (a0.N < (1 : Int))) <| aB hb9 <| aG (b9 == false) <| aC (c1 hr10 r13_Is_ok) <| aG (b9 == false) <| aF b9 <| aB hb11 <| aN) ?_
       refine iB h (fun b12 h => ?_) (fun b12 h => ?_)
       · refine Rg [.a] (sl 59 [(2, vB false)] []) (aN) ?_
         refine Holds.ret ?_
         refine blockQ.ret ?_
         refine Tr ?_
         exact bQ (vB false) (congrArg vB (sI h))
       · refine Holds.skip ?_
         refine blockQ.normal ?_
         refine Tn ⟨({ { a0 with N := (0 : Int) } with Filter := (⟨(0 : Int), (0 : Int), (0 : Int), (0 : Int), (0 : Int), (0 : Int), (0 : Int), [], (0 : Int), (0 : Int), (⟨(0 : Int), (0 : Int)⟩ : SBound), (⟨(0 : Int), (0 : Int)⟩ : SBound), (⟨(0 : Int), (0 : Int)⟩ : SBound)⟩ : SFilter) }), h, lT⟩
     · refine Rg [.a, .a] (sl 59 [(1, vP [1] (0)), (3, vP [3] (0)), (37, vB (a0.Kind == (4 : Int)))] [bx [3] (encSAmount a0), bx [1] (encSAmount a0)]) (aN) ?_
       refine iB h (fun b13 h => ?_) (fun b13 h => ?_)
       · refine Rg [.a, .a] (sl 59 [(1, vP [1] (0)), (3, vP [3] (0))] [bx [3] (encSAmount ({ a0 with Counter := (0 : Int) })), bx [1] (encSAmount a0)]) (aN) ?_
         obtain ⟨r14, hr14, h⟩ := bS h
         refine Rg [.a, .a, (.c (vS r14)), .a] (sl 59 [(1, vP [1] (0)), (3, vP [3] (0)), (43, vB (r14 == ([] : List UInt8)))] [bx [3] (encSAmount ({ a0 with Counter := (0 : Int) })), bx [1] (encSAmount a0)]) (aC (r12_Name_ok hr14) <| aN) ?_
         refine iB h (fun b15 h => ?_) (fun b15 h => ?_)
         · refine Rg [.a] (sl 59 [(2, vB false)] []) (aN) ?_
           refine Holds.ret ?_
           refine blockQ.ret ?_
           refine Tr ?_
           exact bQ (vB false) (congrArg vB (sI h))
         · refine Holds.skip ?_
           refine blockQ.normal ?_
           refine Tn ⟨({ a0 with Counter := (0 : Int) }), h, lT⟩
       · refine Holds.skip ?_
         refine blockQ.normal ?_
         refine Tn ⟨a0, h, lT⟩
 · rintro b3_1 hJ2
   replace hJ2 : r14_Is_J2 a0 b3_1 = some r := hJ2
   unfold r14_Is_J2 at hJ2
   obtain ⟨b3, hb3, hJ2⟩ := bS hJ2
   obtain ⟨b4, hb4, hJ2⟩ := bS hJ2
   refine Rg [.a, .a, .a, .a, .a, .a, .a, (.v (vB b3)), .a, .a, .a, .a, .a, (.v (vB (b3_1 == (⟨a0.Kind, (0 : Int), (0 : Int), (⟨(0 : Int), (0 : Int), (0 : Int), (0 : Int), (0 : Int), (0 : Int), (0 : Int), [], (0 : Int), (0 : Int), (⟨(0 : Int), (0 : Int)⟩ : SBound), (⟨(0 : Int), (0 : Int)⟩ : SBound), (⟨(0 : Int), (0 : Int)⟩ : SBound)⟩ : SFilter)⟩ : SAmount)))), (.v (vB b4)), .a] (sl 59 [(2, vB b4)] []) (aG ((decide ((0 : Int) ≤ a0.Kind)) == true) <| aG ((decide ((0 : Int) ≤ a0.Kind)) == true) <| aT (decide ((0 : Int) ≤ a0.Kind)) <| aB hb3 <| aG (b3 == true) <| aC (fun hg : (b3 == true) = true => aC (And.intro (show ((b3 == true) = true → (b3 == true) = true) ∧ True from ⟨id, trivial⟩) okp119) <| aN) <| aC (fun hg : (b3 == true) = true => aC (gi (b3 == true)) <| aC (gi (b3 == true)) <| aC (congrArg (fun z => V.c (.bool (z))) (eqT119 b3_1 (⟨a0.Kind, (0 : Int), (0 : Int), (⟨(0 : Int), (0 : Int), (0 : Int), (0 : Int), (0 : Int), (0 : Int), (0 : Int), [], (0 : Int), (0 : Int), (⟨(0 : Int), (0 : Int)⟩ : SBound), (⟨(0 : Int), (0 : Int)⟩ : SBound), (⟨(0 : Int), (0 : Int)⟩ : SBound)⟩ : SFilter)⟩ : SAmount))) <| aN) <| aT b3 <| aB hb4 <| aN) ?_
   refine Holds.ret ?_
   exact bQ (vB b4) (congrArg vB (sI hJ2))
def r26_players_J3 (a0 : SState) : Option (Bool) :=
 (r26_list a0 a0.Battlefield (0 : Int) (-1 : Int)).bind fun r4 =>
 (gd (r4 == true) (r26_list a0 a0.Exile (4 : Int) (-1 : Int))).bind fun r5 =>
 (some (if r4 = true then r5 else false)).bind fun b6 =>
 some b6
def r26_players_B9 (a0 : SState) (vt3_8 : Int) : Option ((Int) ⊕ (Unit ⊕ Unit)) :=
 (if (decide (vt3_8 < (a0.Players.length : Int))) = true then
  (idx a0.Players vt3_8).bind fun e11 =>
  (r26_in e11.Life (-1000000 : Int) (1000000 : Int)).bind fun r12 =>
  (gd ((!r12) == false) (r26_in e11.Venom (0 : Int) (1000000 : Int))).bind fun r13 =>
  (some (if (!r12) = true then true else !r13)).bind fun b14 =>
  (gd (b14 == false) (r26_in e11.Lands (0 : Int) (1000000 : Int))).bind fun r15 =>
  (some (if b14 = true then true else !r15)).bind fun b16 =>
  (gd (b16 == false) (r08_Whole e11.Pool)).bind fun r17 =>
  (some (if b16 = true then true else !r17)).bind fun b18 =>
  (if b18 = true then
   some (.inr (.inl ()))
  else
   (r26_list a0 e11.Library (2 : Int) vt3_8).bind fun r20 =>
   (gd ((!r20) == false) (r26_list a0 e11.Hand (1 : Int) vt3_8)).bind fun r21 =>
   (some (if (!r20) = true then true else !r21)).bind fun b22 =>
   (gd (b22 == false) (r26_list a0 e11.Graveyard (3 : Int) vt3_8)).bind fun r23 =>
   (some (if b22 = true then true else !r23)).bind fun b24 =>
   (if b24 = true then
    some (.inr (.inl ()))
   else
    some (.inl (wrap64 (vt3_8 + (1 : Int))))))
 else
  some (.inr (.inr ())))
/-- cardgame/cardgameref26.players -/
def r26_players (a0 : SState) : Option (Bool) :=
 (r26_in (a0.Players.length : Int) (2 : Int) (4 : Int)).bind fun r1 =>
 (if (!r1) = true then
  some false
 else
  (iter (fun (v : Int) => r26_players_B9 a0 v) FU (0 : Int)).bind (Sum.elim (fun o0 => some false) (fun o1 => r26_players_J3 a0)))
def r26_players_C (a0 : SState) (r : Bool) : Prop := PCall Tryz.prog I0 38 [vA encSState a0] (· = vB r)
theorem r26_players_ok {a0 : SState} {r : Bool} (h : r26_players a0 = some r) : r26_players_C a0 r := by
 refine PCall.body I0_stable (by kernel_rfl) Tryz.func38 rfl Tryz.ntmps38 (rs := [.tmp 2]) rfl rfl ?_
 intro w0 av old gv
 unfold r26_players at h
 refine Rg [.a, .a] (sl 76 [(1, vP [1] (0))] [bx [1] (encSState a0)]) (aN) ?_
 refine Holds.seq ?_
 obtain ⟨r1, hr1, h⟩ := bS h
 refine Rg [.a, .a, .a, (.c (vB r1)), .a] (sl 76 [(1, vP [1] (0)), (9, vB (!r1))] [bx [1] (encSState a0)]) (aC (r26_in_ok hr1) <| aN) ?_
 refine iB h (fun b2 h => ?_) (fun b2 h => ?_)
 · refine Rg [.a] (sl 76 [(2, vB false)] []) (aN) ?_
   refine Holds.ret ?_
   refine Tr ?_
   exact bQ (vB false) (congrArg vB (sI h))
 · refine Holds.skip ?_
   refine Tn ?_
   refine Holds.seqJ (X := Unit) (fun v => (sl 76 [(1, vP [1] (0))] [bx [1] (encSState a0)])) (fun v => r26_players_J3 a0 = some r) ?_ ?_
   · refine Rg [.a] (sl 76 [(1, vP [1] (0)), (3, vI (0 : Int))] [bx [1] (encSState a0)]) (aN) ?_
     refine Holds.block ?_
     obtain ⟨oB9, hiB9, h⟩ := bS h
     refine Holds.iter (fun (v : Int) => (sl 76 [(1, vP [1] (0)), (3, vI v)] [bx [1] (encSState a0)])) hiB9 (lT) ?_
     rintro vt3_8 zB9 hzB9 hoB9
     replace hzB9 : r26_players_B9 a0 vt3_8 = some zB9 := hzB9
     unfold r26_players_B9 at hzB9
     refine Holds.seq ?_
     refine Rg [.a, .a, .a, .a, .a] (sl 76 [(1, vP [1] (0)), (3, vI vt3_8), (14, vB (decide (vt3_8 < (a0.Players.length : Int))))] [bx [1] (encSState a0)]) (aN) ?_
     refine iB hzB9 (fun b10 hzB9 => ?_) (fun b10 hzB9 => ?_)
     · refine Holds.skip ?_
       refine Tn ?_
       refine Holds.seq ?_
       refine Holds.block ?_
       obtain ⟨e11, he11, hzB9⟩ := bS hzB9
       refine Rg [.a, .a, .a, .a, (.v (vA encSPlayer e11)), .a, .a] (sl 76 [(1, vP [1] (0)), (3, vI vt3_8), (4, vP [4] (0))] [bx [4] (encSPlayer e11), bx [1] (encSState a0)]) (aC (idx_b he11) <| aC (eld he11 lenSPlayer 0 14 true (vA encSPlayer e11)) <| aC (Eq.refl (vA encSPlayer e11)) <| aN) ?_
       refine Holds.seq ?_
       obtain ⟨r12, hr12, hzB9⟩ := bS hzB9
       obtain ⟨r13, hr13, hzB9⟩ := bS hzB9
       obtain ⟨b14, hb14, hzB9⟩ := bS hzB9
       obtain ⟨r15, hr15, hzB9⟩ := bS hzB9
       obtain ⟨b16, hb16, hzB9⟩ := bS hzB9
       obtain ⟨r17, hr17, hzB9⟩ := bS hzB9
       obtain ⟨b18, hb18, hzB9⟩ := bS hzB9
       refine Rg [.a, .a, (.c (vB r12)), .a, .a, .a, .a, (.c (vB r13)), .a, (.v (vB b14)), .a, .a, .a, (.c (vB r15)), .a, (.v (vB b16)), .a, .a, .a, (.c (vB r17)), .a, (.v (vB b18))] (sl 76 [(1, vP [1] (0)), (3, vI vt3_8), (4, vP [4] (0)), (43, vB b18)] [bx [4] (encSPlayer e11), bx [1] (encSState a0)]) (aC (r26_in_ok hr12) <| aG ((!r12) == false) <| aC (c1 hr13 r26_in_ok) <| aG ((!r12) == false) <| aF (!r12) <| aB hb14 <| aG (b14 == false) <| aC (c1 hr15 r26_in_ok) <| aG (b14 == false) <| aF b14 <| aB hb16 <| aG (b16 == false) <| aC (c1 hr17 r08_Whole_ok) <| aG (b16 == false) <| aF b16 <| aB hb18 <| aN) ?_
       refine iB hzB9 (fun b19 hzB9 => ?_) (fun b19 hzB9 => ?_)
       · refine Rg [.a] (sl 76 [(2, vB false)] []) (aN) ?_
         refine Holds.ret ?_
         refine Tr ?_
         refine blockQ.ret ?_
         refine Tr ?_
         have hoB9_ := hoB9 _ (sI hzB9).symm
         subst hoB9_
         replace h := sumL h
         refine Tr ?_
         refine blockQ.ret ?_
         refine Tr ?_
         exact bQ (vB false) (congrArg vB (sI h))
       · refine Holds.skip ?_
         refine Tn ?_
         obtain ⟨r20, hr20, hzB9⟩ := bS hzB9
         obtain ⟨r21, hr21, hzB9⟩ := bS hzB9
         obtain ⟨b22, hb22, hzB9⟩ := bS hzB9
         obtain ⟨r23, hr23, hzB9⟩ := bS hzB9
         obtain ⟨b24, hb24, hzB9⟩ := bS hzB9
         refine Rg [.a, .a, .a, .a, (.c (vB r20)), .a, .a, .a, .a, .a, .a, (.c (vB r21)), .a, (.v (vB b22)), .a, .a, .a, .a, .a, (.c (vB r23)), .a, (.v (vB b24))] (sl 76 [(1, vP [1] (0)), (3, vI vt3_8), (65, vB b24)] [bx [1] (encSState a0)]) (aC (r26_list_ok hr20) <| aG ((!r20) == false) <| aC (c3 hr21 r26_list_ok) <| aG ((!r20) == false) <| aF (!r20) <| aB hb22 <| aG (b22 == false) <| aC (c3 hr23 r26_list_ok) <| aG (b22 == false) <| aF b22 <| aB hb24 <| aN) ?_
         refine iB hzB9 (fun b25 hzB9 => ?_) (fun b25 hzB9 => ?_)
         · refine Rg [.a] (sl 76 [(2, vB false)] []) (aN) ?_
           refine Holds.ret ?_
           refine blockQ.ret ?_
           refine Tr ?_
           have hoB9_ := hoB9 _ (sI hzB9).symm
           subst hoB9_
           replace h := sumL h
           refine Tr ?_
           refine blockQ.ret ?_
           refine Tr ?_
           exact bQ (vB false) (congrArg vB (sI h))
         · refine Holds.skip ?_
           refine blockQ.normal ?_
           refine Tn ?_
           refine Re [.a, .a, .a] (sl 76 [(1, vP [1] (0)), (3, vI (wrap64 (vt3_8 + (1 : Int)))), (15, vI vt3_8), (16, vI (wrap64 (vt3_8 + (1 : Int)))), (65, vB b24)] [bx [1] (encSState a0)]) (aN) ?_
           refine Tn ⟨(wrap64 (vt3_8 + (1 : Int))), (sI hzB9).symm, lT⟩
     · refine Holds.exit ?_
       refine thenQ.exit ?_
       have hoB9_ := hoB9 _ (sI hzB9).symm
       subst hoB9_
       replace h := sumR h
       refine thenQ.exit ?_
       refine blockQ.out ?_
       refine Tn ⟨(), h, lT⟩
   · rintro _ hJ3
     replace hJ3 : r26_players_J3 a0 = some r := hJ3
     unfold r26_players_J3 at hJ3
     obtain ⟨r4, hr4, hJ3⟩ := bS hJ3
     obtain ⟨r5, hr5, hJ3⟩ := bS hJ3
     obtain ⟨b6, hb6, hJ3⟩ := bS hJ3
     refine Rg [.a, .a, .a, (.c (vB r4)), .a, .a, .a, .a, (.c (vB r5)), (.v (vB b6)), .a] (sl 76 [(2, vB b6)] []) (aC (r26_list_ok hr4) <| aG (r4 == true) <| aC (c2 hr5 r26_list_ok) <| aT r4 <| aB hb6 <| aN) ?_
     refine Holds.ret ?_
     exact bQ (vB b6) (congrArg vB (sI hJ3))
def event_Is_J21 (a0 : List (SCard)) (a1 : SState) (a2 : SEvent) (r1 : SObject × Bool) (vt68_20 : Bool) : Option (Bool) :=
 (if vt68_20 = true then
  (event_counts a1 a2).bind fun r23 =>
  some r23
 else
  (if (a2.Kind == (10 : Int)) = true then
   (event_creates a0 a1 a2).bind fun r25 =>
   some r25
  else
   (if (a2.Kind == (11 : Int)) = true then
    (zone_Find a1 a2.Object).bind fun r27 =>
    (some (if r27.2 = true then r27.1.Zone == (5 : Int) else false)).bind fun b28 =>
    (gd (b28 == true) (event_living a1 a2.Player)).bind fun r29 =>
    (some (if b28 = true then r29 else false)).bind fun b30 =>
    some b30
   else
    (if (a2.Kind == (12 : Int)) = true then
     (gd (r1.2 == true) (event_living a1 a2.Player)).bind fun r32 =>
     (some (if r1.2 = true then r32 else false)).bind fun b33 =>
     some b33
    else
     (if (a2.Kind == (13 : Int)) = true then
      (event_fielded a1 a2.Source).bind fun r35 =>
      (some (if r1.2 = true then r35.2 else false)).bind fun b36 =>
      some b36
     else
      some false)))))
def event_Is_J11 (a0 : List (SCard)) (a1 : SState) (a2 : SEvent) (r1 : SObject × Bool) (vt41_10 : Bool) : Option (Bool) :=
 (if vt41_10 = true then
  (event_living a1 a2.Player).bind fun r13 =>
  (gd (r13 == true) (event_amount a2)).bind fun r14 =>
  (some (if r13 = true then r14 else false)).bind fun b15 =>
  some b15
 else
  (if (a2.Kind == (6 : Int)) = true then
   (some (if r1.2 = true then !r1.1.Tapped else false)).bind fun b17 =>
   some b17
  else
   (if (a2.Kind == (7 : Int)) = true then
    (some (if r1.2 = true then r1.1.Tapped else false)).bind fun b19 =>
    some b19
   else
    (if (a2.Kind == (8 : Int)) = true then
     event_Is_J21 a0 a1 a2 r1 (a2.Kind == (8 : Int))
    else
     event_Is_J21 a0 a1 a2 r1 (a2.Kind == (9 : Int))))))
def event_Is_J7 (a0 : List (SCard)) (a1 : SState) (a2 : SEvent) (r1 : SObject × Bool) (vt32_6 : Bool) : Option (Bool) :=
 (if vt32_6 = true then
  (event_living a1 a2.Player).bind fun r9 =>
  some r9
 else
  (if (a2.Kind == (4 : Int)) = true then
   event_Is_J11 a0 a1 a2 r1 (a2.Kind == (4 : Int))
  else
   (if (a2.Kind == (5 : Int)) = true then
    event_Is_J11 a0 a1 a2 r1 (a2.Kind == (5 : Int))
   else
    event_Is_J11 a0 a1 a2 r1 (a2.Kind == (16 : Int)))))
/-- cardgame/event.Is -/
def event_Is (a0 : List (SCard)) (a1 : SState) (a2 : SEvent) : Option (Bool) :=
 (event_fielded a1 a2.Object).bind fun r1 =>
 (if (a2.Kind == (1 : Int)) = true then
  (event_hurts a1 a2).bind fun r3 =>
  some r3
 else
  (if (a2.Kind == (2 : Int)) = true then
   (event_moves a1 a2).bind fun r5 =>
   some r5
  else
   (if (a2.Kind == (3 : Int)) = true then
    event_Is_J7 a0 a1 a2 r1 (a2.Kind == (3 : Int))
   else
    (if (a2.Kind == (14 : Int)) = true then
     event_Is_J7 a0 a1 a2 r1 (a2.Kind == (14 : Int))
    else
     (if (a2.Kind == (15 : Int)) = true then
      event_Is_J7 a0 a1 a2 r1 (a2.Kind == (15 : Int))
     else
      event_Is_J7 a0 a1 a2 r1 (a2.Kind == (17 : Int)))))))
def event_Is_C (a0 : List (SCard)) (a1 : SState) (a2 : SEvent) (r : Bool) : Prop := PCall Tryz.prog I0 9 [vL encSCard a0, vA encSState a1, vA encSEvent a2] (· = vB r)
theorem event_Is_ok {a0 : List (SCard)} {a1 : SState} {a2 : SEvent} {r : Bool} (h : event_Is a0 a1 a2 = some r) : event_Is_C a0 a1 a2 r := by
 refine PCall.body I0_stable (by kernel_rfl) Tryz.func9 rfl Tryz.ntmps9 (rs := [.tmp 6]) rfl rfl ?_
 intro w0 av old gv
 unfold event_Is at h
 refine Rg [.a, .a, .a] (sl 123 [(0, vL encSCard a0), (4, vP [4] (0)), (5, vP [5] (0))] [bx [5] (encSEvent a2), bx [4] (encSState a1)]) (aN) ?_
 obtain ⟨r1, hr1, h⟩ := bS h
 refine Rg [.a, .a, .a, (.c (.tup [vA encSObject r1.1, vB r1.2])), .a, .a, .a, .a, .a, .a] (sl 123 [(0, vL encSCard a0), (4, vP [4] (0)), (5, vP [5] (0)), (7, vP [7] (0)), (8, vB r1.2)] [bx [7] (encSObject r1.1), bx [5] (encSEvent a2), bx [4] (encSState a1)]) (aC (event_fielded_ok hr1) <| aC (show True ∧ 0 < [V.undef, V.undef].length from ⟨trivial, (by decide)⟩) <| aC (show True ∧ 1 < [V.undef, V.undef].length from ⟨trivial, (by decide)⟩) <| aN) ?_
 refine Holds.seq ?_
 refine Rg [.a, .a] (sl 123 [(0, vL encSCard a0), (4, vP [4] (0)), (5, vP [5] (0)), (7, vP [7] (0)), (8, vB r1.2), (21, vI a2.Kind)] [bx [7] (encSObject r1.1), bx [5] (encSEvent a2), bx [4] (encSState a1)]) (aN) ?_
 refine Holds.block ?_
 refine Rg [.a, .a] (sl 123 [(0, vL encSCard a0), (4, vP [4] (0)), (5, vP [5] (0)), (7, vP [7] (0)), (8, vB r1.2), (21, vI a2.Kind), (22, vB (a2.Kind == (1 : Int)))] [bx [7] (encSObject r1.1), bx [5] (encSEvent a2), bx [4] (encSState a1)]) (aN) ?_
 refine iB h (fun b2 h => ?_) (fun b2 h => ?_)
 · obtain ⟨r3, hr3, h⟩ := bS h
   refine Rg [.a, .a, (.c (vB r3)), .a] (sl 123 [(6, vB r3)] []) (aC (event_hurts_ok hr3) <| aN) ?_
   refine Holds.ret ?_
   refine blockQ.ret ?_
   refine Tr ?_
   exact bQ (vB r3) (congrArg vB (sI h))
 · refine Rg [.a, .a] (sl 123 [(0, vL encSCard a0), (4, vP [4] (0)), (5, vP [5] (0)), (7, vP [7] (0)), (8, vB r1.2), (21, vI a2.Kind), (27, vB (a2.Kind == (2 : Int)))] [bx [7] (encSObject r1.1), bx [5] (encSEvent a2), bx [4] (encSState a1)]) (aN) ?_
   refine iB h (fun b4 h => ?_) (fun b4 h => ?_)
   · obtain ⟨r5, hr5, h⟩ := bS h
     refine Rg [.a, .a, (.c (vB r5)), .a] (sl 123 [(6, vB r5)] []) (aC (event_moves_ok hr5) <| aN) ?_
     refine Holds.ret ?_
     refine blockQ.ret ?_
     refine Tr ?_
     exact bQ (vB r5) (congrArg vB (sI h))
   · refine Holds.seqJ (X := Bool) (fun v => (sl 123 [(0, vL encSCard a0), (4, vP [4] (0)), (5, vP [5] (0)), (7, vP [7] (0)), (8, vB r1.2), (21, vI a2.Kind), (32, vB v)] [bx [7] (encSObject r1.1), bx [5] (encSEvent a2), bx [4] (encSState a1)])) (fun v => event_Is_J7 a0 a1 a2 r1 v = some r) ?_ ?_
     · refine Rg [.a, .a] (sl 123 [(0, vL encSCard a0), (4, vP [4] (0)), (5, vP [5] (0)), (7, vP [7] (0)), (8, vB r1.2), (21, vI a2.Kind), (32, vB (a2.Kind == (3 : Int)))] [bx [7] (encSObject r1.1), bx [5] (encSEvent a2), bx [4] (encSState a1)]) (aN) ?_
       refine iB h (fun b40 h => ?_) (fun b40 h => ?_)
       · refine Holds.skip ?_
         refine Tn ⟨(a2.Kind == (3 : Int)), h, lT⟩
       · refine Rg [.a, .a] (sl 123 [(0, vL encSCard a0), (4, vP [4] (0)), (5, vP [5] (0)), (7, vP [7] (0)), (8, vB r1.2), (21, vI a2.Kind), (32, vB (a2.Kind == (14 : Int)))] [bx [7] (encSObject r1.1), bx [5] (encSEvent a2), bx [4] (encSState a1)]) (aN) ?_
         refine iB h (fun b41 h => ?_) (fun b41 h => ?_)
         · refine Holds.skip ?_
           refine Tn ⟨(a2.Kind == (14 : Int)), h, lT⟩
         · refine Rg [.a, .a] (sl 123 [(0, vL encSCard a0), (4, vP [4] (0)), (5, vP [5] (0)), (7, vP [7] (0)), (8, vB r1.2), (21, vI a2.Kind), (32, vB (a2.Kind == (15 : Int)))] [bx [7] (encSObject r1.1), bx [5] (encSEvent a2), bx [4] (encSState a1)]) (aN) ?_
           refine iB h (fun b42 h => ?_) (fun b42 h => ?_)
           · refine Holds.skip ?_
             refine Tn ⟨(a2.Kind == (15 : Int)), h, lT⟩
           · refine Re [.a, .a] (sl 123 [(0, vL encSCard a0), (4, vP [4] (0)), (5, vP [5] (0)), (7, vP [7] (0)), (8, vB r1.2), (21, vI a2.Kind), (32, vB (a2.Kind == (17 : Int))), (36, vB (a2.Kind == (17 : Int)))] [bx [7] (encSObject r1.1), bx [5] (encSEvent a2), bx [4] (encSState a1)]) (aN) ?_
             refine Tn ⟨(a2.Kind == (17 : Int)), h, lT⟩
     · rintro vt32_6 hJ7
       replace hJ7 : event_Is_J7 a0 a1 a2 r1 vt32_6 = some r := hJ7
       unfold event_Is_J7 at hJ7
       refine iB hJ7 (fun b8 hJ7 => ?_) (fun b8 hJ7 => ?_)
       · obtain ⟨r9, hr9, hJ7⟩ := bS hJ7
         refine Rg [.a, .a, .a, (.c (vB r9)), .a] (sl 123 [(6, vB r9)] []) (aC (event_living_ok hr9) <| aN) ?_
         refine Holds.ret ?_
         refine blockQ.ret ?_
         refine Tr ?_
         exact bQ (vB r9) (congrArg vB (sI hJ7))
       · refine Holds.seqJ (X := Bool) (fun v => (sl 123 [(0, vL encSCard a0), (4, vP [4] (0)), (5, vP [5] (0)), (7, vP [7] (0)), (8, vB r1.2), (21, vI a2.Kind), (41, vB v)] [bx [7] (encSObject r1.1), bx [5] (encSEvent a2), bx [4] (encSState a1)])) (fun v => event_Is_J11 a0 a1 a2 r1 v = some r) ?_ ?_
         · refine Rg [.a, .a] (sl 123 [(0, vL encSCard a0), (4, vP [4] (0)), (5, vP [5] (0)), (7, vP [7] (0)), (8, vB r1.2), (21, vI a2.Kind), (41, vB (a2.Kind == (4 : Int)))] [bx [7] (encSObject r1.1), bx [5] (encSEvent a2), bx [4] (encSState a1)]) (aN) ?_
           refine iB hJ7 (fun b38 hJ7 => ?_) (fun b38 hJ7 => ?_)
           · refine Holds.skip ?_
             refine Tn ⟨(a2.Kind == (4 : Int)), hJ7, lT⟩
           · refine Rg [.a, .a] (sl 123 [(0, vL encSCard a0), (4, vP [4] (0)), (5, vP [5] (0)), (7, vP [7] (0)), (8, vB r1.2), (21, vI a2.Kind), (41, vB (a2.Kind == (5 : Int)))] [bx [7] (encSObject r1.1), bx [5] (encSEvent a2), bx [4] (encSState a1)]) (aN) ?_
             refine iB hJ7 (fun b39 hJ7 => ?_) (fun b39 hJ7 => ?_)
             · refine Holds.skip ?_
               refine Tn ⟨(a2.Kind == (5 : Int)), hJ7, lT⟩
             · refine Re [.a, .a] (sl 123 [(0, vL encSCard a0), (4, vP [4] (0)), (5, vP [5] (0)), (7, vP [7] (0)), (8, vB r1.2), (21, vI a2.Kind), (41, vB (a2.Kind == (16 : Int))), (44, vB (a2.Kind == (16 : Int)))] [bx [7] (encSObject r1.1), bx [5] (encSEvent a2), bx [4] (encSState a1)]) (aN) ?_
               refine Tn ⟨(a2.Kind == (16 : Int)), hJ7, lT⟩
         · rintro vt41_10 hJ11
           replace hJ11 : event_Is_J11 a0 a1 a2 r1 vt41_10 = some r := hJ11
           unfold event_Is_J11 at hJ11
           refine iB hJ11 (fun b12 hJ11 => ?_) (fun b12 hJ11 => ?_)
           · obtain ⟨r13, hr13, hJ11⟩ := bS hJ11
             obtain ⟨r14, hr14, hJ11⟩ := bS hJ11
             obtain ⟨b15, hb15, hJ11⟩ := bS hJ11
             refine Rg [.a, .a, .a, (.c (vB r13)), .a, .a, (.c (vB r14)), (.v (vB b15)), .a] (sl 123 [(6, vB b15)] []) (aC (event_living_ok hr13) <| aC (c1 hr14 event_amount_ok) <| aT r13 <| aB hb15 <| aN) ?_
             refine Holds.ret ?_
             refine blockQ.ret ?_
             refine Tr ?_
             exact bQ (vB b15) (congrArg vB (sI hJ11))
           · refine Rg [.a, .a] (sl 123 [(0, vL encSCard a0), (4, vP [4] (0)), (5, vP [5] (0)), (7, vP [7] (0)), (8, vB r1.2), (21, vI a2.Kind), (53, vB (a2.Kind == (6 : Int)))] [bx [7] (encSObject r1.1), bx [5] (encSEvent a2), bx [4] (encSState a1)]) (aN) ?_
             refine iB hJ11 (fun b16 hJ11 => ?_) (fun b16 hJ11 => ?_)
             · obtain ⟨b17, hb17, hJ11⟩ := bS hJ11
               refine Rg [.a, .a, .a, .a, .a, (.v (vB b17)), .a] (sl 123 [(6, vB b17)] []) (aG (r1.2 == true) <| aG (r1.2 == true) <| aT r1.2 <| aB hb17 <| aN) ?_
               refine Holds.ret ?_
               refine blockQ.ret ?_
               refine Tr ?_
               exact bQ (vB b17) (congrArg vB (sI hJ11))
             · refine Rg [.a, .a] (sl 123 [(0, vL encSCard a0), (4, vP [4] (0)), (5, vP [5] (0)), (7, vP [7] (0)), (8, vB r1.2), (21, vI a2.Kind), (61, vB (a2.Kind == (7 : Int)))] [bx [7] (encSObject r1.1), bx [5] (encSEvent a2), bx [4] (encSState a1)]) (aN) ?_
               refine iB hJ11 (fun b18 hJ11 => ?_) (fun b18 hJ11 => ?_)
               · obtain ⟨b19, hb19, hJ11⟩ := bS hJ11
                 refine Rg [.a, .a, .a, .a, (.v (vB b19)), .a] (sl 123 [(6, vB b19)] []) (aG (r1.2 == true) <| aT r1.2 <| aB hb19 <| aN) ?_
                 refine Holds.ret ?_
                 refine blockQ.ret ?_
                 refine Tr ?_
                 exact bQ (vB b19) (congrArg vB (sI hJ11))
               · refine Holds.seqJ (X := Bool) (fun v => (sl 123 [(0, vL encSCard a0), (4, vP [4] (0)), (5, vP [5] (0)), (8, vB r1.2), (21, vI a2.Kind), (68, vB v)] [bx [5] (encSEvent a2), bx [4] (encSState a1)])) (fun v => event_Is_J21 a0 a1 a2 r1 v = some r) ?_ ?_
                 · refine Rg [.a, .a] (sl 123 [(0, vL encSCard a0), (4, vP [4] (0)), (5, vP [5] (0)), (8, vB r1.2), (21, vI a2.Kind), (68, vB (a2.Kind == (8 : Int)))] [bx [5] (encSEvent a2), bx [4] (encSState a1)]) (aN) ?_
                   refine iB hJ11 (fun b37 hJ11 => ?_) (fun b37 hJ11 => ?_)
                   · refine Holds.skip ?_
                     refine Tn ⟨(a2.Kind == (8 : Int)), hJ11, lT⟩
                   · refine Re [.a, .a] (sl 123 [(0, vL encSCard a0), (4, vP [4] (0)), (5, vP [5] (0)), (8, vB r1.2), (21, vI a2.Kind), (68, vB (a2.Kind == (9 : Int))), (70, vB (a2.Kind == (9 : Int)))] [bx [5] (encSEvent a2), bx [4] (encSState a1)]) (aN) ?_
                     refine Tn ⟨(a2.Kind == (9 : Int)), hJ11, lT⟩
                 · rintro vt68_20 hJ21
                   replace hJ21 : event_Is_J21 a0 a1 a2 r1 vt68_20 = some r := hJ21
                   unfold event_Is_J21 at hJ21
                   refine iB hJ21 (fun b22 hJ21 => ?_) (fun b22 hJ21 => ?_)
                   · obtain ⟨r23, hr23, hJ21⟩ := bS hJ21
                     refine Rg [.a, .a, (.c (vB r23)), .a] (sl 123 [(6, vB r23)] []) (aC (event_counts_ok hr23) <| aN) ?_
                     refine Holds.ret ?_
                     refine blockQ.ret ?_
                     refine Tr ?_
                     exact bQ (vB r23) (congrArg vB (sI hJ21))
                   · refine Rg [.a, .a] (sl 123 [(0, vL encSCard a0), (4, vP [4] (0)), (5, vP [5] (0)), (8, vB r1.2), (21, vI a2.Kind), (74, vB (a2.Kind == (10 : Int)))] [bx [5] (encSEvent a2), bx [4] (encSState a1)]) (aN) ?_
                     refine iB hJ21 (fun b24 hJ21 => ?_) (fun b24 hJ21 => ?_)
                     · obtain ⟨r25, hr25, hJ21⟩ := bS hJ21
                       refine Rg [.a, .a, .a, (.c (vB r25)), .a] (sl 123 [(6, vB r25)] []) (aC (event_creates_ok hr25) <| aN) ?_
                       refine Holds.ret ?_
                       refine blockQ.ret ?_
                       refine Tr ?_
                       exact bQ (vB r25) (congrArg vB (sI hJ21))
                     · refine Rg [.a, .a] (sl 123 [(4, vP [4] (0)), (5, vP [5] (0)), (8, vB r1.2), (21, vI a2.Kind), (80, vB (a2.Kind == (11 : Int)))] [bx [5] (encSEvent a2), bx [4] (encSState a1)]) (aN) ?_
                       refine iB hJ21 (fun b26 hJ21 => ?_) (fun b26 hJ21 => ?_)
                       · obtain ⟨r27, hr27, hJ21⟩ := bS hJ21
                         refine Rg [.a, .a, .a, (.c (.tup [vA encSObject r27.1, vB r27.2])), .a, .a, .a, .a, .a, .a] (sl 123 [(4, vP [4] (0)), (5, vP [5] (0)), (9, vP [9] (0)), (10, vB r27.2)] [bx [9] (encSObject r27.1), bx [5] (encSEvent a2), bx [4] (encSState a1)]) (aC (zone_Find_ok hr27) <| aC (show True ∧ 0 < [V.undef, V.undef].length from ⟨trivial, (by decide)⟩) <| aC (show True ∧ 1 < [V.undef, V.undef].length from ⟨trivial, (by decide)⟩) <| aN) ?_
                         obtain ⟨b28, hb28, hJ21⟩ := bS hJ21
                         obtain ⟨r29, hr29, hJ21⟩ := bS hJ21
                         obtain ⟨b30, hb30, hJ21⟩ := bS hJ21
                         refine Rg [.a, .a, .a, .a, .a, (.v (vB b28)), .a, .a, .a, .a, (.c (vB r29)), (.v (vB b30)), .a] (sl 123 [(6, vB b30)] []) (aG (r27.2 == true) <| aG (r27.2 == true) <| aT r27.2 <| aB hb28 <| aG (b28 == true) <| aC (c2 hr29 event_living_ok) <| aT b28 <| aB hb30 <| aN) ?_
                         refine Holds.ret ?_
                         refine blockQ.ret ?_
                         refine Tr ?_
                         exact bQ (vB b30) (congrArg vB (sI hJ21))
                       · refine Rg [.a, .a] (sl 123 [(4, vP [4] (0)), (5, vP [5] (0)), (8, vB r1.2), (21, vI a2.Kind), (101, vB (a2.Kind == (12 : Int)))] [bx [5] (encSEvent a2), bx [4] (encSState a1)]) (aN) ?_
                         refine iB hJ21 (fun b31 hJ21 => ?_) (fun b31 hJ21 => ?_)
                         · obtain ⟨r32, hr32, hJ21⟩ := bS hJ21
                           obtain ⟨b33, hb33, hJ21⟩ := bS hJ21
                           refine Rg [.a, .a, .a, .a, .a, (.c (vB r32)), (.v (vB b33)), .a] (sl 123 [(6, vB b33)] []) (aG (r1.2 == true) <| aC (c2 hr32 event_living_ok) <| aT r1.2 <| aB hb33 <| aN) ?_
                           refine Holds.ret ?_
                           refine blockQ.ret ?_
                           refine Tr ?_
                           exact bQ (vB b33) (congrArg vB (sI hJ21))
                         · refine Rg [.a, .a] (sl 123 [(4, vP [4] (0)), (5, vP [5] (0)), (8, vB r1.2), (110, vB (a2.Kind == (13 : Int)))] [bx [5] (encSEvent a2), bx [4] (encSState a1)]) (aN) ?_
                           refine iB hJ21 (fun b34 hJ21 => ?_) (fun b34 hJ21 => ?_)
                           · obtain ⟨r35, hr35, hJ21⟩ := bS hJ21
                             refine Rg [.a, .a, .a, (.c (.tup [vA encSObject r35.1, vB r35.2])), .a, .a, .a, .a, .a, .a] (sl 123 [(8, vB r1.2), (12, vB r35.2)] []) (aC (event_fielded_ok hr35) <| aC (show True ∧ 0 < [V.undef, V.undef].length from ⟨trivial, (by decide)⟩) <| aC (show True ∧ 1 < [V.undef, V.undef].length from ⟨trivial, (by decide)⟩) <| aN) ?_
                             obtain ⟨b36, hb36, hJ21⟩ := bS hJ21
                             refine Rg [.a, .a, .a, (.v (vB b36)), .a] (sl 123 [(6, vB b36)] []) (aT r1.2 <| aB hb36 <| aN) ?_
                             refine Holds.ret ?_
                             refine blockQ.ret ?_
                             refine Tr ?_
                             exact bQ (vB b36) (congrArg vB (sI hJ21))
                           · refine Holds.skip ?_
                             refine blockQ.normal ?_
                             refine Tn ?_
                             refine Rg [.a] (sl 123 [(6, vB false)] []) (aN) ?_
                             refine Holds.ret ?_
                             exact bQ (vB false) (congrArg vB (sI hJ21))
end Go.PL
