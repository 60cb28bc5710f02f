/- Functions of the program, as partial functions in Lean, with proofs. -/
import Derived.Test.YtedobbmpljbccaaGreatDoorPlDkB
import Derived.Test.YtedobbmpljbccaaGreatDoorPlDkF0
import Derived.Test.YtedobbmpljbccaaGreatDoorPlDkF5
import Derived.Test.YtedobbmpljbccaaGreatDoorPlDkF7
namespace Go.PL
open Go Go.RowKit Go.Proofs
set_option maxRecDepth 100000
set_option linter.all false
set_option maxHeartbeats 1000000
attribute [local irreducible] Holds thenQ blockQ
def r15_ListText_J4  (out_t3_3 : List UInt8) : Option ((List UInt8)) :=
 some out_t3_3
def r15_ListText_J16 (a0 : List (SMod)) (i_t4_8 : Int) (out_t3_15 : List UInt8) : Option (((List UInt8) × Int) ⊕ (Unit ⊕ (List UInt8))) :=
 (idx a0 i_t4_8).bind fun e17 =>
 (r15_Text e17).bind fun r18 =>
 (cat out_t3_15 r18).bind fun s19 =>
 some (.inl (s19, (wrap64 (i_t4_8 + (1 : Int)))))
def r15_ListText_B10 (a0 : List (SMod)) (out_t3_7 : List UInt8) (i_t4_8 : Int) : Option (((List UInt8) × Int) ⊕ (Unit ⊕ (List UInt8))) :=
 (if (decide (i_t4_8 < (a0.length : Int))) = true then
  (idx a0 i_t4_8).bind fun e12 =>
  (r15_Is e12).bind fun r13 =>
  (if (!r13) = true then
   some (.inr (.inl ()))
  else
   (if (decide ((0 : Int) < i_t4_8)) = true then
    (cat out_t3_7 str_x2c20).bind fun s21 =>
    r15_ListText_J16 a0 i_t4_8 s21
   else
    r15_ListText_J16 a0 i_t4_8 out_t3_7))
 else
  some (.inr (.inr out_t3_7)))
/-- cardgame/cardgameref15.ListText -/
def r15_ListText (a0 : List (SMod)) : Option ((List UInt8)) :=
 (some (if ((a0.length : Int) == (0 : Int)) = true then true else decide ((6 : Int) < (a0.length : Int)))).bind fun b1 =>
 (if b1 = true then
  some ([] : List UInt8)
 else
  (iter (fun (v : (List UInt8) × Int) => r15_ListText_B10 a0 v.1 v.2) FU (([] : List UInt8), (0 : Int))).bind (Sum.elim (fun o0 => some ([] : List UInt8)) (fun o1 => r15_ListText_J4 o1)))
def r15_ListText_C (a0 : List (SMod)) (r : (List UInt8)) : Prop := PCall Tryz.prog I0 77 [vL encSMod a0] (· = vS r)
theorem r15_ListText_ok {a0 : List (SMod)} {r : (List UInt8)} (h : r15_ListText a0 = some r) : r15_ListText_C a0 r := by
 refine PCall.body I0_stable (by kernel_rfl) Tryz.func77 rfl Tryz.ntmps77 (rs := [.tmp 2]) rfl rfl ?_
 intro w0 av old gv
 unfold r15_ListText at h
 refine Rg [.a] (sl 37 [(0, vL encSMod a0)] []) (aN) ?_
 refine Holds.seq ?_
 obtain ⟨b1, hb1, h⟩ := bS h
 refine Rg [.a, .a, .a, .a, .a, .a, .a, (.v (vB b1))] (sl 37 [(0, vL encSMod a0), (12, vB b1)] []) (aG (((a0.length : Int) == (0 : Int)) == false) <| aG (((a0.length : Int) == (0 : Int)) == false) <| aF ((a0.length : Int) == (0 : Int)) <| aB hb1 <| aN) ?_
 refine iB h (fun b2 h => ?_) (fun b2 h => ?_)
 · refine Rg [.a] (sl 37 [(2, vS ([] : List UInt8))] []) (aN) ?_
   refine Holds.ret ?_
   refine Tr ?_
   exact bQ (vS ([] : List UInt8)) (congrArg vS (sI h))
 · refine Holds.skip ?_
   refine Tn ?_
   refine Rg [.a] (sl 37 [(0, vL encSMod a0), (3, vS ([] : List UInt8))] []) (aN) ?_
   refine Sj (X := (List UInt8)) (fun v => (sl 37 [(3, vS v)] [])) (fun v => r15_ListText_J4 v = some r) ?_ ?_
   · refine Rg [.a] (sl 37 [(0, vL encSMod a0), (3, vS ([] : List UInt8)), (4, vI (0 : Int))] []) (aN) ?_
     refine Holds.block ?_
     obtain ⟨oB10, hiB10, h⟩ := bS h
     refine It (fun (v : (List UInt8) × Int) => (sl 37 [(0, vL encSMod a0), (3, vS v.1), (4, vI v.2)] [])) hiB10 (wT) ?_
     rintro ⟨out_t3_7, i_t4_8⟩ zB10 hzB10 hoB10
     replace hzB10 : r15_ListText_B10 a0 out_t3_7 i_t4_8 = some zB10 := hzB10
     unfold r15_ListText_B10 at hzB10
     refine Holds.seq ?_
     refine Rg [.a, .a, .a, .a] (sl 37 [(0, vL encSMod a0), (3, vS out_t3_7), (4, vI i_t4_8), (16, vB (decide (i_t4_8 < (a0.length : Int))))] []) (aN) ?_
     refine iB hzB10 (fun b11 hzB10 => ?_) (fun b11 hzB10 => ?_)
     · refine Holds.skip ?_
       refine Tn ?_
       refine Holds.seq ?_
       refine Holds.block ?_
       refine Holds.seq ?_
       obtain ⟨e12, he12, hzB10⟩ := bS hzB10
       obtain ⟨r13, hr13, hzB10⟩ := bS hzB10
       refine Rg [.a, .a, .a, (.v (vA encSMod e12)), (.c (vB r13)), .a] (sl 37 [(0, vL encSMod a0), (3, vS out_t3_7), (4, vI i_t4_8), (24, vB (!r13))] []) (aC (idx_b he12) <| aC (eld he12 lenSMod 0 20 true (vA encSMod e12)) <| aC (Eq.refl (vA encSMod e12)) <| aC (r15_Is_ok hr13) <| aN) ?_
       refine iB hzB10 (fun b14 hzB10 => ?_) (fun b14 hzB10 => ?_)
       · refine Rg [.a] (sl 37 [(2, vS ([] : List UInt8))] []) (aN) ?_
         refine Holds.ret ?_
         refine Tr ?_
         refine blockQ.ret ?_
         refine Tr ?_
         have hoB10_ := hoB10 _ (sI hzB10).symm
         subst hoB10_
         replace h := sumL h
         refine Tr ?_
         refine blockQ.ret ?_
         refine Tr ?_
         exact bQ (vS ([] : List UInt8)) (congrArg vS (sI h))
       · refine Holds.skip ?_
         refine Tn ?_
         refine Sj (X := (List UInt8)) (fun v => (sl 37 [(0, vL encSMod a0), (3, vS v), (4, vI i_t4_8)] [])) (fun v => r15_ListText_J16 a0 i_t4_8 v = some zB10) ?_ ?_
         · refine Rg [.a, .a] (sl 37 [(0, vL encSMod a0), (3, vS out_t3_7), (4, vI i_t4_8), (26, vB (decide ((0 : Int) < i_t4_8)))] []) (aN) ?_
           refine iB hzB10 (fun b20 hzB10 => ?_) (fun b20 hzB10 => ?_)
           · obtain ⟨s21, hs21, hzB10⟩ := bS hzB10
             refine Re [.a, (.v (vS s21)), .a] (sl 37 [(0, vL encSMod a0), (3, vS s21), (4, vI i_t4_8), (26, vB (decide ((0 : Int) < i_t4_8))), (27, vS out_t3_7), (28, vS s21)] []) (aC (cat_b hs21) <| aC (congrArg (fun z => V.c (.str z)) (cat_x hs21).symm) <| aN) ?_
             refine Tn ⟨s21, hzB10, wT⟩
           · refine Holds.skip ?_
             refine Tn ⟨out_t3_7, hzB10, wT⟩
         · rintro out_t3_15 hJ16
           replace hJ16 : r15_ListText_J16 a0 i_t4_8 out_t3_15 = some zB10 := hJ16
           unfold r15_ListText_J16 at hJ16
           obtain ⟨e17, he17, hJ16⟩ := bS hJ16
           obtain ⟨r18, hr18, hJ16⟩ := bS hJ16
           obtain ⟨s19, hs19, hJ16⟩ := bS hJ16
           refine Re [.a, .a, .a, .a, (.v (vA encSMod e17)), (.c (vS r18)), (.v (vS s19)), .a] (sl 37 [(0, vL encSMod a0), (3, vS s19), (4, vI i_t4_8), (29, vS out_t3_15), (30, vL encSMod a0), (31, vI i_t4_8), (32, vX encSMod a0 ((i_t4_8).toNat * 20)), (33, vA encSMod e17), (34, vS r18), (35, vS s19)] []) (aC (idx_b he17) <| aC (eld he17 lenSMod 0 20 true (vA encSMod e17)) <| aC (Eq.refl (vA encSMod e17)) <| aC (r15_Text_ok hr18) <| aC (cat_b hs19) <| aC (congrArg (fun z => V.c (.str z)) (cat_x hs19).symm) <| aN) ?_
           refine blockQ.normal ?_
           refine Tn ?_
           refine Re [.a, .a, .a] (sl 37 [(0, vL encSMod a0), (3, vS s19), (4, vI (wrap64 (i_t4_8 + (1 : Int)))), (17, vI i_t4_8), (18, vI (wrap64 (i_t4_8 + (1 : Int)))), (29, vS out_t3_15), (30, vL encSMod a0), (31, vI i_t4_8), (32, vX encSMod a0 ((i_t4_8).toNat * 20)), (33, vA encSMod e17), (34, vS r18), (35, vS s19)] []) (aN) ?_
           refine Tn ⟨(s19, (wrap64 (i_t4_8 + (1 : Int)))), (sI hJ16).symm, wT⟩
     · refine Holds.exit ?_
       refine thenQ.exit ?_
       have hoB10_ := hoB10 _ (sI hzB10).symm
       subst hoB10_
       replace h := sumR h
       refine thenQ.exit ?_
       refine blockQ.out ?_
       refine Tn ⟨out_t3_7, h, wT⟩
   · rintro out_t3_3 hJ4
     replace hJ4 : r15_ListText_J4 out_t3_3 = some r := hJ4
     unfold r15_ListText_J4 at hJ4
     refine Rg [.a, .a] (sl 37 [(2, vS out_t3_3)] []) (aN) ?_
     refine Holds.ret ?_
     exact bQ (vS out_t3_3) (congrArg vS (sI hJ4))
def r19_Is_J27 (a0 : SReplace) (b6 : Bool) (vt109_26 : Bool) : Option (Bool) :=
 (if vt109_26 = true then
  (some (if b6 = true then decide ((0 : Int) ≤ a0.Who) else false)).bind fun b29 =>
  (some (if b29 = true then decide (a0.Who ≤ (2 : Int)) else false)).bind fun b30 =>
  (some (if b30 = true then a0.Filter == (⟨(0 : Int), (0 : Int), (0 : Int), (0 : Int), (0 : Int), (0 : Int), (0 : Int), [], (0 : Int), (0 : Int), (⟨(0 : Int), (0 : Int)⟩ : SBound), (⟨(0 : Int), (0 : Int)⟩ : SBound), (⟨(0 : Int), (0 : Int)⟩ : SBound)⟩ : SFilter) else false)).bind fun b31 =>
  some b31
 else
  some false)
/-- cardgame/cardgameref19.Is -/
def r19_Is (a0 : SReplace) : Option (Bool) :=
 (if (a0.On == (2 : Int)) = true then
  (r19_moves a0).bind fun r2 =>
  some r2
 else
  (r19_plain a0).bind fun r3 =>
  (if (!r3) = true then
   some false
  else
   (some (if (a0.Do == (3 : Int)) = true then true else a0.Do == (4 : Int))).bind fun b5 =>
   (some (if b5 = true then true else a0.Do == (8 : Int))).bind fun b6 =>
   (if (a0.On == (1 : Int)) = true then
    (some (if (a0.Do != (1 : Int)) = true then a0.Do != (2 : Int) else false)).bind fun b8 =>
    (some (if b8 = true then a0.Do != (3 : Int) else false)).bind fun b9 =>
    (some (if b9 = true then a0.Do != (4 : Int) else false)).bind fun b10 =>
    (if b10 = true then
     some false
    else
     (gd ((a0.Who == (0 : Int)) == true) (r19_field a0.Filter)).bind fun r12 =>
     (some (if (a0.Who == (0 : Int)) = true then r12 else false)).bind fun b13 =>
     (some (if (a0.Who == (1 : Int)) = true then true else a0.Who == (2 : Int))).bind fun b14 =>
     (some (if b14 = true then a0.Filter == (⟨(0 : Int), (0 : Int), (0 : Int), (0 : Int), (0 : Int), (0 : Int), (0 : Int), [], (0 : Int), (0 : Int), (⟨(0 : Int), (0 : Int)⟩ : SBound), (⟨(0 : Int), (0 : Int)⟩ : SBound), (⟨(0 : Int), (0 : Int)⟩ : SBound)⟩ : SFilter) else false)).bind fun b15 =>
     (some (if b13 = true then true else b15)).bind fun b16 =>
     some b16)
   else
    (if (a0.On == (8 : Int)) = true then
     (some (if b6 = true then a0.Who == (0 : Int) else false)).bind fun b18 =>
     (gd (b18 == true) (r19_field a0.Filter)).bind fun r19 =>
     (some (if b18 = true then r19 else false)).bind fun b20 =>
     some b20
    else
     (if (a0.On == (3 : Int)) = true then
      (some (if (a0.Do == (4 : Int)) = true then true else a0.Do == (8 : Int))).bind fun b22 =>
      (some (if b22 = true then decide ((0 : Int) ≤ a0.Who) else false)).bind fun b23 =>
      (some (if b23 = true then decide (a0.Who ≤ (2 : Int)) else false)).bind fun b24 =>
      (some (if b24 = true then a0.Filter == (⟨(0 : Int), (0 : Int), (0 : Int), (0 : Int), (0 : Int), (0 : Int), (0 : Int), [], (0 : Int), (0 : Int), (⟨(0 : Int), (0 : Int)⟩ : SBound), (⟨(0 : Int), (0 : Int)⟩ : SBound), (⟨(0 : Int), (0 : Int)⟩ : SBound)⟩ : SFilter) else false)).bind fun b25 =>
      some b25
     else
      (if (a0.On == (4 : Int)) = true then
       r19_Is_J27 a0 b6 (a0.On == (4 : Int))
      else
       (if (a0.On == (5 : Int)) = true then
        r19_Is_J27 a0 b6 (a0.On == (5 : Int))
       else
        r19_Is_J27 a0 b6 (a0.On == (10 : Int)))))))))
def r19_Is_C (a0 : SReplace) (r : Bool) : Prop := PCall Tryz.prog I0 80 [vA encSReplace a0] (· = vB r)
theorem r19_Is_ok {a0 : SReplace} {r : Bool} (h : r19_Is a0 = some r) : r19_Is_C a0 r := by
 refine PCall.body I0_stable (by kernel_rfl) Tryz.func80 rfl Tryz.ntmps80 (rs := [.tmp 2]) rfl rfl ?_
 intro w0 av old gv
 unfold r19_Is at h
 refine Rg [.a, .a] (sl 127 [(1, vP [1] (0))] [bx [1] (encSReplace a0)]) (aN) ?_
 refine Holds.seq ?_
 refine Rg [.a, .a, .a] (sl 127 [(1, vP [1] (0)), (7, vB (a0.On == (2 : Int)))] [bx [1] (encSReplace a0)]) (aN) ?_
 refine iB h (fun b1 h => ?_) (fun b1 h => ?_)
 · obtain ⟨r2, hr2, h⟩ := bS h
   refine Rg [.a, (.c (vB r2)), .a] (sl 127 [(2, vB r2)] []) (aC (r19_moves_ok hr2) <| aN) ?_
   refine Holds.ret ?_
   refine Tr ?_
   exact bQ (vB r2) (congrArg vB (sI h))
 · refine Holds.skip ?_
   refine Tn ?_
   refine Holds.seq ?_
   obtain ⟨r3, hr3, h⟩ := bS h
   refine Rg [.a, (.c (vB r3)), .a] (sl 127 [(1, vP [1] (0)), (12, vB (!r3))] [bx [1] (encSReplace a0)]) (aC (r19_plain_ok hr3) <| aN) ?_
   refine iB h (fun b4 h => ?_) (fun b4 h => ?_)
   · refine Rg [.a] (sl 127 [(2, vB false)] []) (aN) ?_
     refine Holds.ret ?_
     refine Tr ?_
     exact bQ (vB false) (congrArg vB (sI h))
   · refine Holds.skip ?_
     refine Tn ?_
     refine Rg [.a, .a, .a, (.v (vB (a0.Filter == (⟨(0 : Int), (0 : Int), (0 : Int), (0 : Int), (0 : Int), (0 : Int), (0 : Int), [], (0 : Int), (0 : Int), (⟨(0 : Int), (0 : Int)⟩ : SBound), (⟨(0 : Int), (0 : Int)⟩ : SBound), (⟨(0 : Int), (0 : Int)⟩ : SBound)⟩ : SFilter)))), .a] (sl 127 [(1, vP [1] (0)), (3, vB (a0.Filter == (⟨(0 : Int), (0 : Int), (0 : Int), (0 : Int), (0 : Int), (0 : Int), (0 : Int), [], (0 : Int), (0 : Int), (⟨(0 : Int), (0 : Int)⟩ : SBound), (⟨(0 : Int), (0 : Int)⟩ : SBound), (⟨(0 : Int), (0 : Int)⟩ : SBound)⟩ : SFilter)))] [bx [1] (encSReplace a0)]) (aC (And.intro trivial okp94) <| aC (congrArg (fun z => V.c (.bool (z))) (eqT94 a0.Filter (⟨(0 : Int), (0 : Int), (0 : Int), (0 : Int), (0 : Int), (0 : Int), (0 : Int), [], (0 : Int), (0 : Int), (⟨(0 : Int), (0 : Int)⟩ : SBound), (⟨(0 : Int), (0 : Int)⟩ : SBound), (⟨(0 : Int), (0 : Int)⟩ : SBound)⟩ : SFilter))) <| aN) ?_
     obtain ⟨b5, hb5, h⟩ := bS h
     obtain ⟨b6, hb6, h⟩ := bS h
     refine Rg [.a, .a, .a, .a, .a, .a, .a, (.v (vB b5)), .a, .a, .a, .a, (.v (vB b6)), .a] (sl 127 [(1, vP [1] (0)), (3, vB (a0.Filter == (⟨(0 : Int), (0 : Int), (0 : Int), (0 : Int), (0 : Int), (0 : Int), (0 : Int), [], (0 : Int), (0 : Int), (⟨(0 : Int), (0 : Int)⟩ : SBound), (⟨(0 : Int), (0 : Int)⟩ : SBound), (⟨(0 : Int), (0 : Int)⟩ : SBound)⟩ : SFilter))), (4, vB b6)] [bx [1] (encSReplace a0)]) (aG ((a0.Do == (3 : Int)) == false) <| aG ((a0.Do == (3 : Int)) == false) <| aF (a0.Do == (3 : Int)) <| aB hb5 <| aG (b5 == false) <| aG (b5 == false) <| aF b5 <| aB hb6 <| aN) ?_
     refine Holds.seq ?_
     refine Rg [.a, .a] (sl 127 [(1, vP [1] (0)), (3, vB (a0.Filter == (⟨(0 : Int), (0 : Int), (0 : Int), (0 : Int), (0 : Int), (0 : Int), (0 : Int), [], (0 : Int), (0 : Int), (⟨(0 : Int), (0 : Int)⟩ : SBound), (⟨(0 : Int), (0 : Int)⟩ : SBound), (⟨(0 : Int), (0 : Int)⟩ : SBound)⟩ : SFilter))), (4, vB b6), (31, vI a0.On)] [bx [1] (encSReplace a0)]) (aN) ?_
     refine Holds.block ?_
     refine Rg [.a, .a] (sl 127 [(1, vP [1] (0)), (3, vB (a0.Filter == (⟨(0 : Int), (0 : Int), (0 : Int), (0 : Int), (0 : Int), (0 : Int), (0 : Int), [], (0 : Int), (0 : Int), (⟨(0 : Int), (0 : Int)⟩ : SBound), (⟨(0 : Int), (0 : Int)⟩ : SBound), (⟨(0 : Int), (0 : Int)⟩ : SBound)⟩ : SFilter))), (4, vB b6), (31, vI a0.On), (32, vB (a0.On == (1 : Int)))] [bx [1] (encSReplace a0)]) (aN) ?_
     refine iB h (fun b7 h => ?_) (fun b7 h => ?_)
     · refine Holds.seq ?_
       obtain ⟨b8, hb8, h⟩ := bS h
       obtain ⟨b9, hb9, h⟩ := bS h
       obtain ⟨b10, hb10, h⟩ := bS h
       refine Rg [.a, .a, .a, .a, .a, .a, .a, (.v (vB b8)), .a, .a, .a, .a, (.v (vB b9)), .a, .a, .a, .a, (.v (vB b10))] (sl 127 [(1, vP [1] (0)), (3, vB (a0.Filter == (⟨(0 : Int), (0 : Int), (0 : Int), (0 : Int), (0 : Int), (0 : Int), (0 : Int), [], (0 : Int), (0 : Int), (⟨(0 : Int), (0 : Int)⟩ : SBound), (⟨(0 : Int), (0 : Int)⟩ : SBound), (⟨(0 : Int), (0 : Int)⟩ : SBound)⟩ : SFilter))), (51, vB b10)] [bx [1] (encSReplace a0)]) (aG ((a0.Do != (1 : Int)) == true) <| aG ((a0.Do != (1 : Int)) == true) <| aT (a0.Do != (1 : Int)) <| aB hb8 <| aG (b8 == true) <| aG (b8 == true) <| aT b8 <| aB hb9 <| aG (b9 == true) <| aG (b9 == true) <| aT b9 <| aB hb10 <| aN) ?_
       refine iB h (fun b11 h => ?_) (fun b11 h => ?_)
       · refine Rg [.a] (sl 127 [(2, vB false)] []) (aN) ?_
         refine Holds.ret ?_
         refine Tr ?_
         refine blockQ.ret ?_
         refine Tr ?_
         exact bQ (vB false) (congrArg vB (sI h))
       · refine Holds.skip ?_
         refine Tn ?_
         obtain ⟨r12, hr12, h⟩ := bS h
         obtain ⟨b13, hb13, h⟩ := bS h
         obtain ⟨b14, hb14, h⟩ := bS h
         obtain ⟨b15, hb15, h⟩ := bS h
         obtain ⟨b16, hb16, h⟩ := bS h
         refine Rg [.a, .a, .a, .a, .a, .a, (.c (vB r12)), (.v (vB b13)), .a, .a, .a, .a, .a, .a, .a, .a, (.v (vB b14)), .a, .a, (.v (vB b15)), (.v (vB b16)), .a] (sl 127 [(2, vB b16)] []) (aG ((a0.Who == (0 : Int)) == true) <| aC (c1 hr12 r19_field_ok) <| aT (a0.Who == (0 : Int)) <| aB hb13 <| aG (b13 == false) <| aG (b13 == false) <| aG (b13 == false) <| aG ((b13 == false) && ((a0.Who == (1 : Int)) == false)) <| aG ((b13 == false) && ((a0.Who == (1 : Int)) == false)) <| aC (fun hg : (b13 == false) = true => aC (gi (b13 == false)) <| aC (fun q : (a0.Who == (1 : Int)) = false => (gA hg (gF q))) <| aB hb14 <| aN) <| aG (b13 == false) <| aC (fun hg : (b13 == false) = true => aC (gi (b13 == false)) <| aC (fun q : b14 = true => (gA hg (gT q))) <| aB hb15 <| aN) <| aF b13 <| aB hb16 <| aN) ?_
         refine Holds.ret ?_
         refine blockQ.ret ?_
         refine Tr ?_
         exact bQ (vB b16) (congrArg vB (sI h))
     · refine Rg [.a, .a] (sl 127 [(1, vP [1] (0)), (3, vB (a0.Filter == (⟨(0 : Int), (0 : Int), (0 : Int), (0 : Int), (0 : Int), (0 : Int), (0 : Int), [], (0 : Int), (0 : Int), (⟨(0 : Int), (0 : Int)⟩ : SBound), (⟨(0 : Int), (0 : Int)⟩ : SBound), (⟨(0 : Int), (0 : Int)⟩ : SBound)⟩ : SFilter))), (4, vB b6), (31, vI a0.On), (73, vB (a0.On == (8 : Int)))] [bx [1] (encSReplace a0)]) (aN) ?_
       refine iB h (fun b17 h => ?_) (fun b17 h => ?_)
       · obtain ⟨b18, hb18, h⟩ := bS h
         obtain ⟨r19, hr19, h⟩ := bS h
         obtain ⟨b20, hb20, h⟩ := bS h
         refine Rg [.a, .a, .a, .a, .a, (.v (vB b18)), .a, .a, .a, (.c (vB r19)), (.v (vB b20)), .a] (sl 127 [(2, vB b20)] []) (aG (b6 == true) <| aG (b6 == true) <| aT b6 <| aB hb18 <| aG (b18 == true) <| aC (c1 hr19 r19_field_ok) <| aT b18 <| aB hb20 <| aN) ?_
         refine Holds.ret ?_
         refine blockQ.ret ?_
         refine Tr ?_
         exact bQ (vB b20) (congrArg vB (sI h))
       · refine Rg [.a, .a] (sl 127 [(1, vP [1] (0)), (3, vB (a0.Filter == (⟨(0 : Int), (0 : Int), (0 : Int), (0 : Int), (0 : Int), (0 : Int), (0 : Int), [], (0 : Int), (0 : Int), (⟨(0 : Int), (0 : Int)⟩ : SBound), (⟨(0 : Int), (0 : Int)⟩ : SBound), (⟨(0 : Int), (0 : Int)⟩ : SBound)⟩ : SFilter))), (4, vB b6), (31, vI a0.On), (86, vB (a0.On == (3 : Int)))] [bx [1] (encSReplace a0)]) (aN) ?_
         refine iB h (fun b21 h => ?_) (fun b21 h => ?_)
         · obtain ⟨b22, hb22, h⟩ := bS h
           obtain ⟨b23, hb23, h⟩ := bS h
           obtain ⟨b24, hb24, h⟩ := bS h
           obtain ⟨b25, hb25, h⟩ := bS h
           refine Rg [.a, .a, .a, .a, .a, .a, .a, (.v (vB b22)), .a, .a, .a, .a, (.v (vB b23)), .a, .a, .a, .a, (.v (vB b24)), .a, .a, (.v (vB b25)), .a] (sl 127 [(2, vB b25)] []) (aG ((a0.Do == (4 : Int)) == false) <| aG ((a0.Do == (4 : Int)) == false) <| aF (a0.Do == (4 : Int)) <| aB hb22 <| aG (b22 == true) <| aG (b22 == true) <| aT b22 <| aB hb23 <| aG (b23 == true) <| aG (b23 == true) <| aT b23 <| aB hb24 <| aT b24 <| aB hb25 <| aN) ?_
           refine Holds.ret ?_
           refine blockQ.ret ?_
           refine Tr ?_
           exact bQ (vB b25) (congrArg vB (sI h))
         · refine Sj (X := Bool) (fun v => (sl 127 [(1, vP [1] (0)), (3, vB (a0.Filter == (⟨(0 : Int), (0 : Int), (0 : Int), (0 : Int), (0 : Int), (0 : Int), (0 : Int), [], (0 : Int), (0 : Int), (⟨(0 : Int), (0 : Int)⟩ : SBound), (⟨(0 : Int), (0 : Int)⟩ : SBound), (⟨(0 : Int), (0 : Int)⟩ : SBound)⟩ : SFilter))), (4, vB b6), (109, vB v)] [bx [1] (encSReplace a0)])) (fun v => r19_Is_J27 a0 b6 v = some r) ?_ ?_
           · refine Rg [.a, .a] (sl 127 [(1, vP [1] (0)), (3, vB (a0.Filter == (⟨(0 : Int), (0 : Int), (0 : Int), (0 : Int), (0 : Int), (0 : Int), (0 : Int), [], (0 : Int), (0 : Int), (⟨(0 : Int), (0 : Int)⟩ : SBound), (⟨(0 : Int), (0 : Int)⟩ : SBound), (⟨(0 : Int), (0 : Int)⟩ : SBound)⟩ : SFilter))), (4, vB b6), (31, vI a0.On), (109, vB (a0.On == (4 : Int)))] [bx [1] (encSReplace a0)]) (aN) ?_
             refine iB h (fun b32 h => ?_) (fun b32 h => ?_)
             · refine Holds.skip ?_
               refine Tn ⟨(a0.On == (4 : Int)), h, wT⟩
             · refine Rg [.a, .a] (sl 127 [(1, vP [1] (0)), (3, vB (a0.Filter == (⟨(0 : Int), (0 : Int), (0 : Int), (0 : Int), (0 : Int), (0 : Int), (0 : Int), [], (0 : Int), (0 : Int), (⟨(0 : Int), (0 : Int)⟩ : SBound), (⟨(0 : Int), (0 : Int)⟩ : SBound), (⟨(0 : Int), (0 : Int)⟩ : SBound)⟩ : SFilter))), (4, vB b6), (31, vI a0.On), (109, vB (a0.On == (5 : Int)))] [bx [1] (encSReplace a0)]) (aN) ?_
               refine iB h (fun b33 h => ?_) (fun b33 h => ?_)
               · refine Holds.skip ?_
                 refine Tn ⟨(a0.On == (5 : Int)), h, wT⟩
               · refine Re [.a, .a] (sl 127 [(1, vP [1] (0)), (3, vB (a0.Filter == (⟨(0 : Int), (0 : Int), (0 : Int), (0 : Int), (0 : Int), (0 : Int), (0 : Int), [], (0 : Int), (0 : Int), (⟨(0 : Int), (0 : Int)⟩ : SBound), (⟨(0 : Int), (0 : Int)⟩ : SBound), (⟨(0 : Int), (0 : Int)⟩ : SBound)⟩ : SFilter))), (4, vB b6), (31, vI a0.On), (109, vB (a0.On == (10 : Int))), (112, vB (a0.On == (10 : Int)))] [bx [1] (encSReplace a0)]) (aN) ?_
                 refine Tn ⟨(a0.On == (10 : Int)), h, wT⟩
           · rintro vt109_26 hJ27
             replace hJ27 : r19_Is_J27 a0 b6 vt109_26 = some r := hJ27
             unfold r19_Is_J27 at hJ27
             refine iB hJ27 (fun b28 hJ27 => ?_) (fun b28 hJ27 => ?_)
             · obtain ⟨b29, hb29, hJ27⟩ := bS hJ27
               obtain ⟨b30, hb30, hJ27⟩ := bS hJ27
               obtain ⟨b31, hb31, hJ27⟩ := bS hJ27
               refine Rg [.a, .a, .a, .a, .a, (.v (vB b29)), .a, .a, .a, .a, (.v (vB b30)), .a, .a, (.v (vB b31)), .a] (sl 127 [(2, vB b31)] []) (aG (b6 == true) <| aG (b6 == true) <| aT b6 <| aB hb29 <| aG (b29 == true) <| aG (b29 == true) <| aT b29 <| aB hb30 <| aT b30 <| aB hb31 <| aN) ?_
               refine Holds.ret ?_
               refine blockQ.ret ?_
               refine Tr ?_
               exact bQ (vB b31) (congrArg vB (sI hJ27))
             · refine Holds.skip ?_
               refine blockQ.normal ?_
               refine Tn ?_
               refine Rg [.a] (sl 127 [(2, vB false)] []) (aN) ?_
               refine Holds.ret ?_
               exact bQ (vB false) (congrArg vB (sI hJ27))
end Go.PL
