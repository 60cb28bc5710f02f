/- Functions of the program, as partial functions in Lean, with proofs. -/
import Derived.Test.YtlinpadogiggaaaGreatDoorPlEvB
import Derived.Test.YtlinpadogiggaaaGreatDoorPlEvF0
import Derived.Test.YtlinpadogiggaaaGreatDoorPlEvF14
import Derived.Test.YtlinpadogiggaaaGreatDoorPlEvF2
import Derived.Test.YtlinpadogiggaaaGreatDoorPlEvF4
import Derived.Test.YtlinpadogiggaaaGreatDoorPlEvF6
namespace Go.PL
open Go Go.RowKit Go.Proofs
set_option maxRecDepth 100000
set_option linter.all false
set_option maxHeartbeats 1000000
attribute [local irreducible] Holds thenQ blockQ
def r26_Is_J21 (a0 : List (SCard)) (a1 : SState) : Option (Bool) :=
 (gd ((a1.Over == (1 : Int)) == true) (r26_player a1 a1.Winner)).bind fun r22 =>
 (some (if (a1.Over == (1 : Int)) = true then !r22 else false)).bind fun b23 =>
 (some (if (a1.Over != (1 : Int)) = true then a1.Winner != (-1 : Int) else false)).bind fun b24 =>
 (some (if b23 = true then true else b24)).bind fun b25 =>
 (if b25 = true then
  some false
 else
  (r26_objects a0 a1).bind fun r27 =>
  (gd (r27 == true) (r26_stack a1)).bind fun r28 =>
  (some (if r27 = true then r28 else false)).bind fun b29 =>
  some b29)
def r26_Is_B32 (a1 : SState) (vt5_31 : Int) : Option ((Int) ⊕ (Unit ⊕ Unit)) :=
 (if (decide (vt5_31 < (a1.Extra.length : Int))) = true then
  (idx a1.Extra vt5_31).bind fun e34 =>
  (r26_player a1 e34).bind fun r35 =>
  (if (!r35) = true then
   some (.inr (.inl ()))
  else
   some (.inl (wrap64 (vt5_31 + (1 : Int)))))
 else
  some (.inr (.inr ())))
/-- cardgame/cardgameref26.Is -/
def r26_Is (a0 : List (SCard)) (a1 : SState) : Option (Bool) :=
 (r26_in a1.NextId (1 : Int) (1000000 : Int)).bind fun r1 =>
 (gd ((!r1) == false) (r26_in a1.NextStamp (1 : Int) (1000000 : Int))).bind fun r2 =>
 (some (if (!r1) = true then true else !r2)).bind fun b3 =>
 (gd (b3 == false) (r26_in a1.Turn (0 : Int) (500 : Int))).bind fun r4 =>
 (some (if b3 = true then true else !r4)).bind fun b5 =>
 (gd (b5 == false) (r26_in a1.Step (0 : Int) (10 : Int))).bind fun r6 =>
 (some (if b5 = true then true else !r6)).bind fun b7 =>
 (some (if b7 = true then true else decide ((2048 : Int) < (a1.Objects.length : Int)))).bind fun b8 =>
 (if b8 = true then
  some false
 else
  (r26_players a1).bind fun r10 =>
  (gd ((!r10) == false) (r26_player a1 a1.Active)).bind fun r11 =>
  (some (if (!r10) = true then true else !r11)).bind fun b12 =>
  (gd (b12 == false) (r26_player a1 a1.Priority)).bind fun r13 =>
  (some (if b12 = true then true else !r13)).bind fun b14 =>
  (gd (b14 == false) (r26_in a1.Passes (0 : Int) (a1.Players.length : Int))).bind fun r15 =>
  (some (if b14 = true then true else !r15)).bind fun b16 =>
  (some (if b16 = true then true else decide ((500 : Int) < (a1.Extra.length : Int)))).bind fun b17 =>
  (gd (b17 == false) (r26_in a1.Over (0 : Int) (2 : Int))).bind fun r18 =>
  (some (if b17 = true then true else !r18)).bind fun b19 =>
  (if b19 = true then
   some false
  else
   (iter (fun (v : Int) => r26_Is_B32 a1 v) FU (0 : Int)).bind (Sum.elim (fun o0 => some false) (fun o1 => r26_Is_J21 a0 a1))))
def r26_Is_C (a0 : List (SCard)) (a1 : SState) (r : Bool) : Prop := PCall Tryz.prog I0 16 [vL encSCard a0, vA encSState a1] (· = vB r)
theorem r26_Is_ok {a0 : List (SCard)} {a1 : SState} {r : Bool} (h : r26_Is a0 a1 = some r) : r26_Is_C a0 a1 r := by
 refine PCall.body I0_stable (by kernel_rfl) Tryz.func16 rfl Tryz.ntmps16 (rs := [.tmp 4]) rfl rfl ?_
 intro w0 av old gv
 unfold r26_Is at h
 refine Rg [.a, .a] (sl 114 [(0, vL encSCard a0), (3, vP [3] (0))] [bx [3] (encSState a1)]) (aN) ?_
 refine Holds.seq ?_
 obtain ⟨r1, hr1, h⟩ := bS h
 obtain ⟨r2, hr2, h⟩ := bS h
 obtain ⟨b3, hb3, h⟩ := bS h
 obtain ⟨r4, hr4, h⟩ := bS h
 obtain ⟨b5, hb5, h⟩ := bS h
 obtain ⟨r6, hr6, h⟩ := bS h
 obtain ⟨b7, hb7, h⟩ := bS h
 obtain ⟨b8, hb8, h⟩ := bS h
 refine Rg [.a, .a, (.c (vB r1)), .a, .a, .a, .a, (.c (vB r2)), .a, (.v (vB b3)), .a, .a, .a, (.c (vB r4)), .a, (.v (vB b5)), .a, .a, .a, (.c (vB r6)), .a, (.v (vB b7)), .a, .a, .a, .a, .a, (.v (vB b8))] (sl 114 [(0, vL encSCard a0), (3, vP [3] (0)), (33, vB b8)] [bx [3] (encSState a1)]) (aC (r26_in_ok hr1) <| aG ((!r1) == false) <| aC (c1 hr2 r26_in_ok) <| aG ((!r1) == false) <| aF (!r1) <| aB hb3 <| aG (b3 == false) <| aC (c1 hr4 r26_in_ok) <| aG (b3 == false) <| aF b3 <| aB hb5 <| aG (b5 == false) <| aC (c1 hr6 r26_in_ok) <| aG (b5 == false) <| aF b5 <| aB hb7 <| aG (b7 == false) <| aG (b7 == false) <| aG (b7 == false) <| aF b7 <| aB hb8 <| aN) ?_
 refine iB h (fun b9 h => ?_) (fun b9 h => ?_)
 · refine Rg [.a] (sl 114 [(4, vB false)] []) (aN) ?_
   refine Holds.ret ?_
   refine Tr ?_
   exact bQ (vB false) (congrArg vB (sI h))
 · refine Holds.skip ?_
   refine Tn ?_
   refine Holds.seq ?_
   obtain ⟨r10, hr10, h⟩ := bS h
   obtain ⟨r11, hr11, h⟩ := bS h
   obtain ⟨b12, hb12, h⟩ := bS h
   obtain ⟨r13, hr13, h⟩ := bS h
   obtain ⟨b14, hb14, h⟩ := bS h
   obtain ⟨r15, hr15, h⟩ := bS h
   obtain ⟨b16, hb16, h⟩ := bS h
   obtain ⟨b17, hb17, h⟩ := bS h
   obtain ⟨r18, hr18, h⟩ := bS h
   obtain ⟨b19, hb19, h⟩ := bS h
   refine Rg [.a, (.c (vB r10)), .a, .a, .a, .a, .a, (.c (vB r11)), .a, (.v (vB b12)), .a, .a, .a, .a, (.c (vB r13)), .a, (.v (vB b14)), .a, .a, .a, .a, .a, .a, (.c (vB r15)), .a, (.v (vB b16)), .a, .a, .a, .a, .a, (.v (vB b17)), .a, .a, .a, (.c (vB r18)), .a, (.v (vB b19))] (sl 114 [(0, vL encSCard a0), (3, vP [3] (0)), (71, vB b19)] [bx [3] (encSState a1)]) (aC (r26_players_ok hr10) <| aG ((!r10) == false) <| aC (c2 hr11 r26_player_ok) <| aG ((!r10) == false) <| aF (!r10) <| aB hb12 <| aG (b12 == false) <| aC (c2 hr13 r26_player_ok) <| aG (b12 == false) <| aF b12 <| aB hb14 <| aG (b14 == false) <| aG (b14 == false) <| aG (b14 == false) <| aC (c2 hr15 r26_in_ok) <| aG (b14 == false) <| aF b14 <| aB hb16 <| aG (b16 == false) <| aG (b16 == false) <| aG (b16 == false) <| aF b16 <| aB hb17 <| aG (b17 == false) <| aC (c1 hr18 r26_in_ok) <| aG (b17 == false) <| aF b17 <| aB hb19 <| aN) ?_
   refine iB h (fun b20 h => ?_) (fun b20 h => ?_)
   · refine Rg [.a] (sl 114 [(4, vB false)] []) (aN) ?_
     refine Holds.ret ?_
     refine Tr ?_
     exact bQ (vB false) (congrArg vB (sI h))
   · refine Holds.skip ?_
     refine Tn ?_
     refine Holds.seqJ (X := Unit) (fun v => (sl 114 [(0, vL encSCard a0), (3, vP [3] (0))] [bx [3] (encSState a1)])) (fun v => r26_Is_J21 a0 a1 = some r) ?_ ?_
     · refine Rg [.a] (sl 114 [(0, vL encSCard a0), (3, vP [3] (0)), (5, vI (0 : Int))] [bx [3] (encSState a1)]) (aN) ?_
       refine Holds.block ?_
       obtain ⟨oB32, hiB32, h⟩ := bS h
       refine Holds.iter (fun (v : Int) => (sl 114 [(0, vL encSCard a0), (3, vP [3] (0)), (5, vI v)] [bx [3] (encSState a1)])) hiB32 (lT) ?_
       rintro vt5_31 zB32 hzB32 hoB32
       replace hzB32 : r26_Is_B32 a1 vt5_31 = some zB32 := hzB32
       unfold r26_Is_B32 at hzB32
       refine Holds.seq ?_
       refine Rg [.a, .a, .a, .a, .a] (sl 114 [(0, vL encSCard a0), (3, vP [3] (0)), (5, vI vt5_31), (76, vB (decide (vt5_31 < (a1.Extra.length : Int))))] [bx [3] (encSState a1)]) (aN) ?_
       refine iB hzB32 (fun b33 hzB32 => ?_) (fun b33 hzB32 => ?_)
       · refine Holds.skip ?_
         refine Tn ?_
         refine Holds.seq ?_
         refine Holds.block ?_
         obtain ⟨e34, he34, hzB32⟩ := bS hzB32
         obtain ⟨r35, hr35, hzB32⟩ := bS hzB32
         refine Rq followsP [.a, .a, .a, .a, .a, (.v (vI e34)), (.c (vB r35)), .a] (sl 114 [(0, vL encSCard a0), (3, vP [3] (0)), (5, vI vt5_31), (86, vB (!r35))] [bx [3] (encSState a1)]) (aC (idx_b he34) <| aC (eld he34 (lenI .i64) 0 1 false (vI e34)) <| aC (Eq.refl (vI e34)) <| aC (r26_player_ok hr35) <| aN) ?_
         refine iB hzB32 (fun b36 hzB32 => ?_) (fun b36 hzB32 => ?_)
         · refine Rg [.a] (sl 114 [(4, vB false)] []) (aN) ?_
           refine Holds.ret ?_
           refine blockQ.ret ?_
           refine Tr ?_
           have hoB32_ := hoB32 _ (sI hzB32).symm
           subst hoB32_
           replace h := sumL h
           refine Tr ?_
           refine blockQ.ret ?_
           refine Tr ?_
           exact bQ (vB false) (congrArg vB (sI h))
         · refine Holds.skip ?_
           refine blockQ.normal ?_
           refine Tn ?_
           refine Re [.a, .a, .a] (sl 114 [(0, vL encSCard a0), (3, vP [3] (0)), (5, vI (wrap64 (vt5_31 + (1 : Int)))), (77, vI vt5_31), (78, vI (wrap64 (vt5_31 + (1 : Int)))), (86, vB (!r35))] [bx [3] (encSState a1)]) (aN) ?_
           refine Tn ⟨(wrap64 (vt5_31 + (1 : Int))), (sI hzB32).symm, lT⟩
       · refine Holds.exit ?_
         refine thenQ.exit ?_
         have hoB32_ := hoB32 _ (sI hzB32).symm
         subst hoB32_
         replace h := sumR h
         refine thenQ.exit ?_
         refine blockQ.out ?_
         refine Tn ⟨(), h, lT⟩
     · rintro _ hJ21
       replace hJ21 : r26_Is_J21 a0 a1 = some r := hJ21
       unfold r26_Is_J21 at hJ21
       refine Holds.seq ?_
       obtain ⟨r22, hr22, hJ21⟩ := bS hJ21
       obtain ⟨b23, hb23, hJ21⟩ := bS hJ21
       obtain ⟨b24, hb24, hJ21⟩ := bS hJ21
       obtain ⟨b25, hb25, hJ21⟩ := bS hJ21
       refine Rg [.a, .a, .a, .a, .a, .a, .a, (.c (vB r22)), .a, (.v (vB b23)), .a, .a, .a, .a, .a, .a, .a, .a, (.v (vB b24)), (.v (vB b25))] (sl 114 [(0, vL encSCard a0), (3, vP [3] (0)), (106, vB b25)] [bx [3] (encSState a1)]) (aG ((a1.Over == (1 : Int)) == true) <| aC (c2 hr22 r26_player_ok) <| aG ((a1.Over == (1 : Int)) == true) <| aT (a1.Over == (1 : Int)) <| aB hb23 <| aG (b23 == false) <| aG (b23 == false) <| aG (b23 == false) <| aG ((b23 == false) && ((a1.Over != (1 : Int)) == true)) <| aG ((b23 == false) && ((a1.Over != (1 : Int)) == true)) <| aC (fun hg : (b23 == false) = true => aC (gi (b23 == false)) <| aC (fun q : (a1.Over != (1 : Int)) = true => (gA hg (gT q))) <| aB hb24 <| aN) <| aF b23 <| aB hb25 <| aN) ?_
       refine iB hJ21 (fun b26 hJ21 => ?_) (fun b26 hJ21 => ?_)
       · refine Rg [.a] (sl 114 [(4, vB false)] []) (aN) ?_
         refine Holds.ret ?_
         refine Tr ?_
         exact bQ (vB false) (congrArg vB (sI hJ21))
       · refine Holds.skip ?_
         refine Tn ?_
         obtain ⟨r27, hr27, hJ21⟩ := bS hJ21
         obtain ⟨r28, hr28, hJ21⟩ := bS hJ21
         obtain ⟨b29, hb29, hJ21⟩ := bS hJ21
         refine Rg [.a, .a, (.c (vB r27)), .a, .a, (.c (vB r28)), (.v (vB b29)), .a] (sl 114 [(4, vB b29)] []) (aC (r26_objects_ok hr27) <| aC (c1 hr28 r26_stack_ok) <| aT r27 <| aB hb29 <| aN) ?_
         refine Holds.ret ?_
         exact bQ (vB b29) (congrArg vB (sI hJ21))
end Go.PL
