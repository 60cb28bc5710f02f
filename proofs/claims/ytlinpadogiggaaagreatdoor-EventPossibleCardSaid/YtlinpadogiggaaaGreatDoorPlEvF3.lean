/- Functions of the program, as partial functions in Lean, with proofs. -/
import Derived.Test.YtlinpadogiggaaaGreatDoorPlEvB
import Derived.Test.YtlinpadogiggaaaGreatDoorPlEvF0
import Derived.Test.YtlinpadogiggaaaGreatDoorPlEvF1
import Derived.Test.YtlinpadogiggaaaGreatDoorPlEvF2
namespace Go.PL
open Go Go.RowKit Go.Proofs
set_option maxRecDepth 100000
set_option linter.all false
set_option maxHeartbeats 1000000
attribute [local irreducible] Holds thenQ blockQ
/-- cardgame/cardgameref10.IsSub -/
def r10_IsSub (a0 : List UInt8) : Option (Bool) :=
 (r02_Is a0).bind fun r1 =>
 (gd (r1 == true) (r10_superWords)).bind fun r2 =>
 (gd (r1 == true) (r10_index r2 a0)).bind fun r3 =>
 (some (if r1 = true then decide (r3 < (0 : Int)) else false)).bind fun b4 =>
 (gd (b4 == true) (r10_typeWords)).bind fun r5 =>
 (gd (b4 == true) (r10_index r5 a0)).bind fun r6 =>
 (some (if b4 = true then decide (r6 < (0 : Int)) else false)).bind fun b7 =>
 some b7
def r10_IsSub_C (a0 : List UInt8) (r : Bool) : Prop := PCall Tryz.prog I0 88 [vS a0] (· = vB r)
theorem r10_IsSub_ok {a0 : List UInt8} {r : Bool} (h : r10_IsSub a0 = some r) : r10_IsSub_C a0 r := by
 refine PCall.body I0_stable (by kernel_rfl) Tryz.func88 rfl Tryz.ntmps88 (rs := [.tmp 2]) rfl rfl ?_
 intro w0 av old gv
 unfold r10_IsSub at h
 refine Rg [.a] (sl 17 [(0, vS a0)] []) (aN) ?_
 obtain ⟨r1, hr1, h⟩ := bS h
 obtain ⟨r2, hr2, h⟩ := bS h
 obtain ⟨r3, hr3, h⟩ := bS h
 obtain ⟨b4, hb4, h⟩ := bS h
 obtain ⟨r5, hr5, h⟩ := bS h
 obtain ⟨r6, hr6, h⟩ := bS h
 obtain ⟨b7, hb7, h⟩ := bS h
 refine Rg [.a, (.c (vB r1)), .a, (.c (vL eS r2)), .a, (.c (vI r3)), .a, (.v (vB b4)), .a, (.c (vL eS r5)), .a, (.c (vI r6)), .a, (.v (vB b7)), .a] (sl 17 [(2, vB b7)] []) (aC (r02_Is_ok hr1) <| aC (c0 hr2 r10_superWords_ok) <| aC (c2 hr3 r10_index_ok) <| aG (r1 == true) <| aT r1 <| aB hb4 <| aC (c0 hr5 r10_typeWords_ok) <| aC (c2 hr6 r10_index_ok) <| aG (b4 == true) <| aT b4 <| aB hb7 <| aN) ?_
 refine Holds.ret ?_
 exact bQ (vB b7) (congrArg vB (sI h))
/-- cardgame/cardgameref10.TypesText -/
def r10_TypesText (a0 : Int) : Option ((List UInt8)) :=
 (some (if (decide (a0 < (1 : Int))) = true then true else decide ((63 : Int) < a0))).bind fun b1 =>
 (if b1 = true then
  some ([] : List UInt8)
 else
  (r10_typeWords).bind fun r3 =>
  (r10_joined r3 a0 str_x2b).bind fun r4 =>
  some r4)
def r10_TypesText_C (a0 : Int) (r : (List UInt8)) : Prop := PCall Tryz.prog I0 139 [vI a0] (· = vS r)
theorem r10_TypesText_ok {a0 : Int} {r : (List UInt8)} (h : r10_TypesText a0 = some r) : r10_TypesText_C a0 r := by
 refine PCall.body I0_stable (by kernel_rfl) Tryz.func139 rfl Tryz.ntmps139 (rs := [.tmp 2]) rfl rfl ?_
 intro w0 av old gv
 unfold r10_TypesText at h
 refine Rg [.a] (sl 12 [(0, vI a0)] []) (aN) ?_
 refine Holds.seq ?_
 obtain ⟨b1, hb1, h⟩ := bS h
 refine Rg [.a, .a, .a, .a, .a, (.v (vB b1))] (sl 12 [(0, vI a0), (8, vB b1)] []) (aG ((decide (a0 < (1 : Int))) == false) <| aF (decide (a0 < (1 : Int))) <| aB hb1 <| aN) ?_
 refine iB h (fun b2 h => ?_) (fun b2 h => ?_)
 · refine Rg [.a] (sl 12 [(2, vS ([] : List UInt8))] []) (aN) ?_
   refine Holds.ret ?_
   refine Tr ?_
   exact bQ (vS ([] : List UInt8)) (congrArg vS (sI h))
 · refine Holds.skip ?_
   refine Tn ?_
   obtain ⟨r3, hr3, h⟩ := bS h
   obtain ⟨r4, hr4, h⟩ := bS h
   refine Rg [(.c (vL eS r3)), .a, (.c (vS r4)), .a] (sl 12 [(2, vS r4)] []) (aC (r10_typeWords_ok hr3) <| aC (r10_joined_ok hr4) <| aN) ?_
   refine Holds.ret ?_
   exact bQ (vS r4) (congrArg vS (sI h))
def r11_Text_J4  (s_t3_3 : List UInt8) : Option ((List UInt8)) :=
 (if (s_t3_3 == ([] : List UInt8)) = true then
  some str_none
 else
  some s_t3_3)
def r11_Text_J16 (mask_t0_9 : Int) (i_t4_11 : Int) (s_t3_15 : List UInt8) : Option ((Int × (List UInt8) × Int) ⊕ ((List UInt8))) :=
 some (.inl ((wrap64 (Int.tdiv mask_t0_9 (2 : Int))), s_t3_15, (wrap64 (i_t4_11 + (1 : Int)))))
def r11_Text_J19 (mask_t0_9 : Int) (i_t4_11 : Int) (s_t3_18 : List UInt8) : Option ((Int × (List UInt8) × Int) ⊕ ((List UInt8))) :=
 (r11_Name i_t4_11).bind fun r20 =>
 (cat s_t3_18 r20).bind fun s21 =>
 r11_Text_J16 mask_t0_9 i_t4_11 s21
def r11_Text_B13  (mask_t0_9 : Int) (s_t3_10 : List UInt8) (i_t4_11 : Int) : Option ((Int × (List UInt8) × Int) ⊕ ((List UInt8))) :=
 (if (decide (i_t4_11 < (17 : Int))) = true then
  (if ((Int.tmod mask_t0_9 (2 : Int)) == (1 : Int)) = true then
   (if (s_t3_10 != ([] : List UInt8)) = true then
    (cat s_t3_10 str_x2b).bind fun s23 =>
    r11_Text_J19 mask_t0_9 i_t4_11 s23
   else
    r11_Text_J19 mask_t0_9 i_t4_11 s_t3_10)
  else
   r11_Text_J16 mask_t0_9 i_t4_11 s_t3_10)
 else
  some (.inr s_t3_10))
/-- cardgame/cardgameref11.Text -/
def r11_Text (a0 : Int) : Option ((List UInt8)) :=
 (r11_Is a0).bind fun r1 =>
 (if (!r1) = true then
  some ([] : List UInt8)
 else
  (iter (fun (v : Int × (List UInt8) × Int) => r11_Text_B13 v.1 v.2.1 v.2.2) FU (a0, ([] : List UInt8), (0 : Int))).bind (fun o0 => r11_Text_J4 o0))
def r11_Text_C (a0 : Int) (r : (List UInt8)) : Prop := PCall Tryz.prog I0 141 [vI a0] (· = vS r)
theorem r11_Text_ok {a0 : Int} {r : (List UInt8)} (h : r11_Text a0 = some r) : r11_Text_C a0 r := by
 refine PCall.body I0_stable (by kernel_rfl) Tryz.func141 rfl Tryz.ntmps141 (rs := [.tmp 2]) rfl rfl ?_
 intro w0 av old gv
 unfold r11_Text at h
 refine Rg [.a] (sl 28 [(0, vI a0)] []) (aN) ?_
 refine Holds.seq ?_
 obtain ⟨r1, hr1, h⟩ := bS h
 refine Rg [.a, (.c (vB r1)), .a] (sl 28 [(0, vI a0), (7, vB (!r1))] []) (aC (r11_Is_ok hr1) <| aN) ?_
 refine iB h (fun b2 h => ?_) (fun b2 h => ?_)
 · refine Rg [.a] (sl 28 [(2, vS ([] : List UInt8))] []) (aN) ?_
   refine Holds.ret ?_
   refine Tr ?_
   exact bQ (vS ([] : List UInt8)) (congrArg vS (sI h))
 · refine Holds.skip ?_
   refine Tn ?_
   refine Rg [.a] (sl 28 [(0, vI a0), (3, vS ([] : List UInt8))] []) (aN) ?_
   refine Holds.seqJ (X := (List UInt8)) (fun v => (sl 28 [(3, vS v)] [])) (fun v => r11_Text_J4 v = some r) ?_ ?_
   · refine Rg [.a] (sl 28 [(0, vI a0), (3, vS ([] : List UInt8)), (4, vI (0 : Int))] []) (aN) ?_
     refine Holds.block ?_
     obtain ⟨oB13, hiB13, h⟩ := bS h
     refine Holds.iter (fun (v : Int × (List UInt8) × Int) => (sl 28 [(0, vI v.1), (3, vS v.2.1), (4, vI v.2.2)] [])) hiB13 (lT) ?_
     rintro ⟨mask_t0_9, s_t3_10, i_t4_11⟩ zB13 hzB13 hoB13
     replace hzB13 : r11_Text_B13 mask_t0_9 s_t3_10 i_t4_11 = some zB13 := hzB13
     unfold r11_Text_B13 at hzB13
     refine Holds.seq ?_
     refine Rg [.a, .a] (sl 28 [(0, vI mask_t0_9), (3, vS s_t3_10), (4, vI i_t4_11), (9, vB (decide (i_t4_11 < (17 : Int))))] []) (aN) ?_
     refine iB hzB13 (fun b14 hzB13 => ?_) (fun b14 hzB13 => ?_)
     · refine Holds.skip ?_
       refine Tn ?_
       refine Holds.seq ?_
       refine Holds.block ?_
       refine Holds.seqJ (X := (List UInt8)) (fun v => (sl 28 [(0, vI mask_t0_9), (3, vS v), (4, vI i_t4_11)] [])) (fun v => r11_Text_J16 mask_t0_9 i_t4_11 v = some zB13) ?_ ?_
       · refine Rg [.a, .a, .a] (sl 28 [(0, vI mask_t0_9), (3, vS s_t3_10), (4, vI i_t4_11), (14, vB ((Int.tmod mask_t0_9 (2 : Int)) == (1 : Int)))] []) (aC (show (2 : Int) ≠ 0 from (by decide)) <| aN) ?_
         refine iB hzB13 (fun b17 hzB13 => ?_) (fun b17 hzB13 => ?_)
         · refine Holds.seqJ (X := (List UInt8)) (fun v => (sl 28 [(0, vI mask_t0_9), (3, vS v), (4, vI i_t4_11)] [])) (fun v => r11_Text_J19 mask_t0_9 i_t4_11 v = some zB13) ?_ ?_
           · refine Rg [.a, .a] (sl 28 [(0, vI mask_t0_9), (3, vS s_t3_10), (4, vI i_t4_11), (16, vB (s_t3_10 != ([] : List UInt8)))] []) (aN) ?_
             refine iB hzB13 (fun b22 hzB13 => ?_) (fun b22 hzB13 => ?_)
             · obtain ⟨s23, hs23, hzB13⟩ := bS hzB13
               refine Re [.a, (.v (vS s23)), .a] (sl 28 [(0, vI mask_t0_9), (3, vS s23), (4, vI i_t4_11), (16, vB (s_t3_10 != ([] : List UInt8))), (17, vS s_t3_10), (18, vS s23)] []) (aC (cat_b hs23) <| aC (congrArg (fun z => V.c (.str z)) (cat_x hs23).symm) <| aN) ?_
               refine Tn ⟨s23, hzB13, lT⟩
             · refine Holds.skip ?_
               refine Tn ⟨s_t3_10, hzB13, lT⟩
           · rintro s_t3_18 hJ19
             replace hJ19 : r11_Text_J19 mask_t0_9 i_t4_11 s_t3_18 = some zB13 := hJ19
             unfold r11_Text_J19 at hJ19
             obtain ⟨r20, hr20, hJ19⟩ := bS hJ19
             obtain ⟨s21, hs21, hJ19⟩ := bS hJ19
             refine Re [.a, .a, (.c (vS r20)), (.v (vS s21)), .a] (sl 28 [(0, vI mask_t0_9), (3, vS s21), (4, vI i_t4_11), (19, vS s_t3_18), (20, vI i_t4_11), (21, vS r20), (22, vS s21)] []) (aC (r11_Name_ok hr20) <| aC (cat_b hs21) <| aC (congrArg (fun z => V.c (.str z)) (cat_x hs21).symm) <| aN) ?_
             refine Tn ⟨s21, hJ19, lT⟩
         · refine Holds.skip ?_
           refine Tn ⟨s_t3_10, hzB13, lT⟩
       · rintro s_t3_15 hJ16
         replace hJ16 : r11_Text_J16 mask_t0_9 i_t4_11 s_t3_15 = some zB13 := hJ16
         unfold r11_Text_J16 at hJ16
         refine Re [.a, .a, .a] (sl 28 [(0, vI (wrap64 (Int.tdiv mask_t0_9 (2 : Int)))), (3, vS s_t3_15), (4, vI i_t4_11), (23, vI mask_t0_9), (24, vI (wrap64 (Int.tdiv mask_t0_9 (2 : Int))))] []) (aC (show (2 : Int) ≠ 0 from (by decide)) <| aN) ?_
         refine blockQ.normal ?_
         refine Tn ?_
         refine Re [.a, .a, .a] (sl 28 [(0, vI (wrap64 (Int.tdiv mask_t0_9 (2 : Int)))), (3, vS s_t3_15), (4, vI (wrap64 (i_t4_11 + (1 : Int)))), (10, vI i_t4_11), (11, vI (wrap64 (i_t4_11 + (1 : Int)))), (23, vI mask_t0_9), (24, vI (wrap64 (Int.tdiv mask_t0_9 (2 : Int))))] []) (aN) ?_
         refine Tn ⟨((wrap64 (Int.tdiv mask_t0_9 (2 : Int))), s_t3_15, (wrap64 (i_t4_11 + (1 : Int)))), (sI hJ16).symm, lT⟩
     · refine Holds.exit ?_
       refine thenQ.exit ?_
       have hoB13_ := hoB13 _ (sI hzB13).symm
       subst hoB13_
       refine thenQ.exit ?_
       refine blockQ.out ?_
       refine Tn ⟨s_t3_10, h, lT⟩
   · rintro s_t3_3 hJ4
     replace hJ4 : r11_Text_J4 s_t3_3 = some r := hJ4
     unfold r11_Text_J4 at hJ4
     refine Holds.seq ?_
     refine Rg [.a, .a] (sl 28 [(3, vS s_t3_3), (26, vB (s_t3_3 == ([] : List UInt8)))] []) (aN) ?_
     refine iB hJ4 (fun b5 hJ4 => ?_) (fun b5 hJ4 => ?_)
     · refine Rg [.a] (sl 28 [(2, vS str_none)] []) (aN) ?_
       refine Holds.ret ?_
       refine Tr ?_
       exact bQ (vS str_none) (congrArg vS (sI hJ4))
     · refine Holds.skip ?_
       refine Tn ?_
       refine Rg [.a, .a] (sl 28 [(2, vS s_t3_3)] []) (aN) ?_
       refine Holds.ret ?_
       exact bQ (vS s_t3_3) (congrArg vS (sI hJ4))
/-- cardgame/cardgameref13.boundWord -/
def r13_boundWord (a0 : List UInt8) (a1 : SBound) : Option ((List UInt8)) :=
 (if (a1.Kind == (0 : Int)) = true then
  some ([] : List UInt8)
 else
  (r13_signs).bind fun r2 =>
  (idx r2 a1.Kind).bind fun e3 =>
  (cat a0 e3).bind fun s4 =>
  (r01_Text a1.N).bind fun r5 =>
  (cat s4 r5).bind fun s6 =>
  some s6)
def r13_boundWord_C (a0 : List UInt8) (a1 : SBound) (r : (List UInt8)) : Prop := PCall Tryz.prog I0 180 [vS a0, vA encSBound a1] (· = vS r)
theorem r13_boundWord_ok {a0 : List UInt8} {a1 : SBound} {r : (List UInt8)} (h : r13_boundWord a0 a1 = some r) : r13_boundWord_C a0 a1 r := by
 refine PCall.body I0_stable (by kernel_rfl) Tryz.func180 rfl Tryz.ntmps180 (rs := [.tmp 4]) rfl rfl ?_
 intro w0 av old gv
 unfold r13_boundWord at h
 refine Rg [.a, .a] (sl 21 [(0, vS a0), (3, vP [3] (0))] [bx [3] (encSBound a1)]) (aN) ?_
 refine Holds.seq ?_
 refine Rg [.a, .a, .a] (sl 21 [(0, vS a0), (3, vP [3] (0)), (8, vB (a1.Kind == (0 : Int)))] [bx [3] (encSBound a1)]) (aN) ?_
 refine iB h (fun b1 h => ?_) (fun b1 h => ?_)
 · refine Rg [.a] (sl 21 [(4, vS ([] : List UInt8))] []) (aN) ?_
   refine Holds.ret ?_
   refine Tr ?_
   exact bQ (vS ([] : List UInt8)) (congrArg vS (sI h))
 · refine Holds.skip ?_
   refine Tn ?_
   obtain ⟨r2, hr2, h⟩ := bS h
   refine Rg [(.c (vL eS r2)), .a] (sl 21 [(0, vS a0), (3, vP [3] (0)), (5, vL eS r2)] [bx [3] (encSBound a1)]) (aC (r13_signs_ok hr2) <| aN) ?_
   obtain ⟨e3, he3, h⟩ := bS h
   obtain ⟨s4, hs4, h⟩ := bS h
   obtain ⟨r5, hr5, h⟩ := bS h
   obtain ⟨s6, hs6, h⟩ := bS h
   refine Rq followsP [.a, .a, .a, .a, .a, (.v (vS e3)), (.v (vS s4)), .a, .a, (.c (vS r5)), (.v (vS s6)), .a] (sl 21 [(4, vS s6)] []) (aC (idx_b he3) <| aC (eld he3 lenS 0 1 false (vS e3)) <| aC (Eq.refl (vS e3)) <| aC (cat_b hs4) <| aC (congrArg (fun z => V.c (.str z)) (cat_x hs4).symm) <| aC (r01_Text_ok hr5) <| aC (cat_b hs6) <| aC (congrArg (fun z => V.c (.str z)) (cat_x hs6).symm) <| aN) ?_
   refine Holds.ret ?_
   exact bQ (vS s6) (congrArg vS (sI h))
def r08_Text_J8  (s_t3_7 : List UInt8) : Option ((List UInt8)) :=
 (if (s_t3_7 == ([] : List UInt8)) = true then
  some str_0
 else
  some s_t3_7)
def r08_Text_J18 (i_t5_13 : Int) (s_t3_17 : List UInt8) : Option (((List UInt8) × Int) ⊕ ((List UInt8))) :=
 some (.inl (s_t3_17, (wrap64 (i_t5_13 + (1 : Int)))))
def r08_Text_B24 (a0 : SCost) (i_t5_13 : Int) (s_t3_21 : List UInt8) (k_t6_22 : Int) : Option (((List UInt8) × Int) ⊕ ((List UInt8))) :=
 (idx a0.Color.l i_t5_13).bind fun e25 =>
 (if (decide (k_t6_22 < e25)) = true then
  (ssub str_ACJRE i_t5_13 (wrap64 (i_t5_13 + (1 : Int)))).bind fun s27 =>
  (cat s_t3_21 s27).bind fun s28 =>
  some (.inl (s28, (wrap64 (k_t6_22 + (1 : Int)))))
 else
  some (.inr s_t3_21))
def r08_Text_B15 (a0 : SCost) (s_t3_12 : List UInt8) (i_t5_13 : Int) : Option (((List UInt8) × Int) ⊕ ((List UInt8))) :=
 (if (decide (i_t5_13 < (5 : Int))) = true then
  (iter (fun (v : (List UInt8) × Int) => r08_Text_B24 a0 i_t5_13 v.1 v.2) FU (s_t3_12, (0 : Int))).bind (fun o0 => r08_Text_J18 i_t5_13 o0)
 else
  some (.inr s_t3_12))
def r08_Text_J6 (a0 : SCost) (s_t3_5 : List UInt8) : Option ((List UInt8)) :=
 (iter (fun (v : (List UInt8) × Int) => r08_Text_B15 a0 v.1 v.2) FU (s_t3_5, (0 : Int))).bind (fun o0 => r08_Text_J8 o0)
def r08_Text_J4 (a0 : SCost) (s_t3_3 : List UInt8) : Option ((List UInt8)) :=
 (if (a0.Generic != (0 : Int)) = true then
  (r01_Text a0.Generic).bind fun r30 =>
  (cat s_t3_3 r30).bind fun s31 =>
  r08_Text_J6 a0 s31
 else
  r08_Text_J6 a0 s_t3_3)
def r08_Text_B37 (a0 : SCost) (s_t3_34 : List UInt8) (i_t4_35 : Int) : Option (((List UInt8) × Int) ⊕ ((List UInt8))) :=
 (if (decide (i_t4_35 < a0.X)) = true then
  (cat s_t3_34 str_X).bind fun s39 =>
  some (.inl (s39, (wrap64 (i_t4_35 + (1 : Int)))))
 else
  some (.inr s_t3_34))
/-- cardgame/cardgameref08.Text -/
def r08_Text (a0 : SCost) : Option ((List UInt8)) :=
 (r08_Is a0).bind fun r1 =>
 (if (!r1) = true then
  some ([] : List UInt8)
 else
  (iter (fun (v : (List UInt8) × Int) => r08_Text_B37 a0 v.1 v.2) FU (([] : List UInt8), (0 : Int))).bind (fun o0 => r08_Text_J4 a0 o0))
def r08_Text_C (a0 : SCost) (r : (List UInt8)) : Prop := PCall Tryz.prog I0 191 [vA encSCost a0] (· = vS r)
theorem r08_Text_ok {a0 : SCost} {r : (List UInt8)} (h : r08_Text a0 = some r) : r08_Text_C a0 r := by
 refine PCall.body I0_stable (by kernel_rfl) Tryz.func191 rfl Tryz.ntmps191 (rs := [.tmp 2]) rfl rfl ?_
 intro w0 av old gv
 unfold r08_Text at h
 refine Rg [.a, .a] (sl 47 [(1, vP [1] (0))] [bx [1] (encSCost a0)]) (aN) ?_
 refine Holds.seq ?_
 obtain ⟨r1, hr1, h⟩ := bS h
 refine Rg [.a, (.c (vB r1)), .a] (sl 47 [(1, vP [1] (0)), (9, vB (!r1))] [bx [1] (encSCost a0)]) (aC (r08_Is_ok hr1) <| aN) ?_
 refine iB h (fun b2 h => ?_) (fun b2 h => ?_)
 · refine Rg [.a] (sl 47 [(2, vS ([] : List UInt8))] []) (aN) ?_
   refine Holds.ret ?_
   refine Tr ?_
   exact bQ (vS ([] : List UInt8)) (congrArg vS (sI h))
 · refine Holds.skip ?_
   refine Tn ?_
   refine Rg [.a] (sl 47 [(1, vP [1] (0)), (3, vS ([] : List UInt8))] [bx [1] (encSCost a0)]) (aN) ?_
   refine Holds.seqJ (X := (List UInt8)) (fun v => (sl 47 [(1, vP [1] (0)), (3, vS v)] [bx [1] (encSCost a0)])) (fun v => r08_Text_J4 a0 v = some r) ?_ ?_
   · refine Rg [.a] (sl 47 [(1, vP [1] (0)), (3, vS ([] : List UInt8)), (4, vI (0 : Int))] [bx [1] (encSCost a0)]) (aN) ?_
     refine Holds.block ?_
     obtain ⟨oB37, hiB37, h⟩ := bS h
     refine Holds.iter (fun (v : (List UInt8) × Int) => (sl 47 [(1, vP [1] (0)), (3, vS v.1), (4, vI v.2)] [bx [1] (encSCost a0)])) hiB37 (lT) ?_
     rintro ⟨s_t3_34, i_t4_35⟩ zB37 hzB37 hoB37
     replace hzB37 : r08_Text_B37 a0 s_t3_34 i_t4_35 = some zB37 := hzB37
     unfold r08_Text_B37 at hzB37
     refine Holds.seq ?_
     refine Rg [.a, .a, .a, .a] (sl 47 [(1, vP [1] (0)), (3, vS s_t3_34), (4, vI i_t4_35), (13, vB (decide (i_t4_35 < a0.X)))] [bx [1] (encSCost a0)]) (aN) ?_
     refine iB hzB37 (fun b38 hzB37 => ?_) (fun b38 hzB37 => ?_)
     · refine Holds.skip ?_
       refine Tn ?_
       refine Holds.seq ?_
       refine Holds.block ?_
       obtain ⟨s39, hs39, hzB37⟩ := bS hzB37
       refine Re [.a, (.v (vS s39)), .a] (sl 47 [(1, vP [1] (0)), (3, vS s39), (4, vI i_t4_35), (13, vB (decide (i_t4_35 < a0.X))), (16, vS s_t3_34), (17, vS s39)] [bx [1] (encSCost a0)]) (aC (cat_b hs39) <| aC (congrArg (fun z => V.c (.str z)) (cat_x hs39).symm) <| aN) ?_
       refine blockQ.normal ?_
       refine Tn ?_
       refine Re [.a, .a, .a] (sl 47 [(1, vP [1] (0)), (3, vS s39), (4, vI (wrap64 (i_t4_35 + (1 : Int)))), (13, vB (decide (i_t4_35 < a0.X))), (14, vI i_t4_35), (15, vI (wrap64 (i_t4_35 + (1 : Int)))), (16, vS s_t3_34), (17, vS s39)] [bx [1] (encSCost a0)]) (aN) ?_
       refine Tn ⟨(s39, (wrap64 (i_t4_35 + (1 : Int)))), (sI hzB37).symm, lT⟩
     · refine Holds.exit ?_
       refine thenQ.exit ?_
       have hoB37_ := hoB37 _ (sI hzB37).symm
       subst hoB37_
       refine thenQ.exit ?_
       refine blockQ.out ?_
       refine Tn ⟨s_t3_34, h, lT⟩
   · rintro s_t3_3 hJ4
     replace hJ4 : r08_Text_J4 a0 s_t3_3 = some r := hJ4
     unfold r08_Text_J4 at hJ4
     refine Holds.seqJ (X := (List UInt8)) (fun v => (sl 47 [(1, vP [1] (0)), (3, vS v)] [bx [1] (encSCost a0)])) (fun v => r08_Text_J6 a0 v = some r) ?_ ?_
     · refine Rg [.a, .a, .a] (sl 47 [(1, vP [1] (0)), (3, vS s_t3_3), (20, vB (a0.Generic != (0 : Int)))] [bx [1] (encSCost a0)]) (aN) ?_
       refine iB hJ4 (fun b29 hJ4 => ?_) (fun b29 hJ4 => ?_)
       · obtain ⟨r30, hr30, hJ4⟩ := bS hJ4
         obtain ⟨s31, hs31, hJ4⟩ := bS hJ4
         refine Re [.a, .a, .a, (.c (vS r30)), (.v (vS s31)), .a] (sl 47 [(1, vP [1] (0)), (3, vS s31), (20, vB (a0.Generic != (0 : Int))), (21, vS s_t3_3), (22, vP [1] (0)), (23, vI a0.Generic), (24, vS r30), (25, vS s31)] [bx [1] (encSCost a0)]) (aC (r01_Text_ok hr30) <| aC (cat_b hs31) <| aC (congrArg (fun z => V.c (.str z)) (cat_x hs31).symm) <| aN) ?_
         refine Tn ⟨s31, hJ4, lT⟩
       · refine Holds.skip ?_
         refine Tn ⟨s_t3_3, hJ4, lT⟩
     · rintro s_t3_5 hJ6
       replace hJ6 : r08_Text_J6 a0 s_t3_5 = some r := hJ6
       unfold r08_Text_J6 at hJ6
       refine Holds.seqJ (X := (List UInt8)) (fun v => (sl 47 [(3, vS v)] [])) (fun v => r08_Text_J8 v = some r) ?_ ?_
       · refine Rg [.a] (sl 47 [(1, vP [1] (0)), (3, vS s_t3_5), (5, vI (0 : Int))] [bx [1] (encSCost a0)]) (aN) ?_
         refine Holds.block ?_
         obtain ⟨oB15, hiB15, hJ6⟩ := bS hJ6
         refine Holds.iter (fun (v : (List UInt8) × Int) => (sl 47 [(1, vP [1] (0)), (3, vS v.1), (5, vI v.2)] [bx [1] (encSCost a0)])) hiB15 (lT) ?_
         rintro ⟨s_t3_12, i_t5_13⟩ zB15 hzB15 hoB15
         replace hzB15 : r08_Text_B15 a0 s_t3_12 i_t5_13 = some zB15 := hzB15
         unfold r08_Text_B15 at hzB15
         refine Holds.seq ?_
         refine Rg [.a, .a] (sl 47 [(1, vP [1] (0)), (3, vS s_t3_12), (5, vI i_t5_13), (27, vB (decide (i_t5_13 < (5 : Int))))] [bx [1] (encSCost a0)]) (aN) ?_
         refine iB hzB15 (fun b16 hzB15 => ?_) (fun b16 hzB15 => ?_)
         · refine Holds.skip ?_
           refine Tn ?_
           refine Holds.seqJ (X := (List UInt8)) (fun v => (sl 47 [(1, vP [1] (0)), (3, vS v), (5, vI i_t5_13)] [bx [1] (encSCost a0)])) (fun v => r08_Text_J18 i_t5_13 v = some zB15) ?_ ?_
           · refine Holds.block ?_
             refine Rg [.a] (sl 47 [(1, vP [1] (0)), (3, vS s_t3_12), (5, vI i_t5_13), (6, vI (0 : Int))] [bx [1] (encSCost a0)]) (aN) ?_
             refine Holds.block ?_
             obtain ⟨oB24, hiB24, hzB15⟩ := bS hzB15
             refine Holds.iter (fun (v : (List UInt8) × Int) => (sl 47 [(1, vP [1] (0)), (3, vS v.1), (5, vI i_t5_13), (6, vI v.2)] [bx [1] (encSCost a0)])) hiB24 (lT) ?_
             rintro ⟨s_t3_21, k_t6_22⟩ zB24 hzB24 hoB24
             replace hzB24 : r08_Text_B24 a0 i_t5_13 s_t3_21 k_t6_22 = some zB24 := hzB24
             unfold r08_Text_B24 at hzB24
             refine Holds.seq ?_
             obtain ⟨e25, he25, hzB24⟩ := bS hzB24
             refine Rg [.a, .a, .a, .a, (.v (vI e25)), .a] (sl 47 [(1, vP [1] (0)), (3, vS s_t3_21), (5, vI i_t5_13), (6, vI k_t6_22), (35, vB (decide (k_t6_22 < e25)))] [bx [1] (encSCost a0)]) (aC (idx_b he25) <| aC (ald he25 (lenI .i64) (encSCost a0) 2 7 0 1 false (vI e25)) <| aC (Eq.refl (vI e25)) <| aN) ?_
             refine iB hzB24 (fun b26 hzB24 => ?_) (fun b26 hzB24 => ?_)
             · refine Holds.skip ?_
               refine Tn ?_
               refine Holds.seq ?_
               refine Holds.block ?_
               obtain ⟨s27, hs27, hzB24⟩ := bS hzB24
               obtain ⟨s28, hs28, hzB24⟩ := bS hzB24
               refine Re [.a, .a, .a, .a, (.v (vS s27)), (.v (vS s28)), .a] (sl 47 [(1, vP [1] (0)), (3, vS s28), (5, vI i_t5_13), (6, vI k_t6_22), (35, vB (decide (k_t6_22 < e25))), (38, vS s_t3_21), (39, vI i_t5_13), (40, vI i_t5_13), (41, vI (wrap64 (i_t5_13 + (1 : Int)))), (42, vS s27), (43, vS s28)] [bx [1] (encSCost a0)]) (aC (ssub_b hs27) <| aC (congrArg (fun z => V.c (.str z)) (ssub_x hs27).symm) <| aC (cat_b hs28) <| aC (congrArg (fun z => V.c (.str z)) (cat_x hs28).symm) <| aN) ?_
               refine blockQ.normal ?_
               refine Tn ?_
               refine Re [.a, .a, .a] (sl 47 [(1, vP [1] (0)), (3, vS s28), (5, vI i_t5_13), (6, vI (wrap64 (k_t6_22 + (1 : Int)))), (35, vB (decide (k_t6_22 < e25))), (36, vI k_t6_22), (37, vI (wrap64 (k_t6_22 + (1 : Int)))), (38, vS s_t3_21), (39, vI i_t5_13), (40, vI i_t5_13), (41, vI (wrap64 (i_t5_13 + (1 : Int)))), (42, vS s27), (43, vS s28)] [bx [1] (encSCost a0)]) (aN) ?_
               refine Tn ⟨(s28, (wrap64 (k_t6_22 + (1 : Int)))), (sI hzB24).symm, lT⟩
             · refine Holds.exit ?_
               refine thenQ.exit ?_
               have hoB24_ := hoB24 _ (sI hzB24).symm
               subst hoB24_
               refine thenQ.exit ?_
               refine blockQ.out ?_
               refine blockQ.normal ?_
               refine Tn ⟨s_t3_21, hzB15, lT⟩
           · rintro s_t3_17 hJ18
             replace hJ18 : r08_Text_J18 i_t5_13 s_t3_17 = some zB15 := hJ18
             unfold r08_Text_J18 at hJ18
             refine Re [.a, .a, .a] (sl 47 [(1, vP [1] (0)), (3, vS s_t3_17), (5, vI (wrap64 (i_t5_13 + (1 : Int)))), (28, vI i_t5_13), (29, vI (wrap64 (i_t5_13 + (1 : Int))))] [bx [1] (encSCost a0)]) (aN) ?_
             refine Tn ⟨(s_t3_17, (wrap64 (i_t5_13 + (1 : Int)))), (sI hJ18).symm, lT⟩
         · refine Holds.exit ?_
           refine thenQ.exit ?_
           have hoB15_ := hoB15 _ (sI hzB15).symm
           subst hoB15_
           refine thenQ.exit ?_
           refine blockQ.out ?_
           refine Tn ⟨s_t3_12, hJ6, lT⟩
       · rintro s_t3_7 hJ8
         replace hJ8 : r08_Text_J8 s_t3_7 = some r := hJ8
         unfold r08_Text_J8 at hJ8
         refine Holds.seq ?_
         refine Rg [.a, .a] (sl 47 [(3, vS s_t3_7), (45, vB (s_t3_7 == ([] : List UInt8)))] []) (aN) ?_
         refine iB hJ8 (fun b9 hJ8 => ?_) (fun b9 hJ8 => ?_)
         · refine Rg [.a] (sl 47 [(2, vS str_0)] []) (aN) ?_
           refine Holds.ret ?_
           refine Tr ?_
           exact bQ (vS str_0) (congrArg vS (sI hJ8))
         · refine Holds.skip ?_
           refine Tn ?_
           refine Rg [.a, .a] (sl 47 [(2, vS s_t3_7)] []) (aN) ?_
           refine Holds.ret ?_
           exact bQ (vS s_t3_7) (congrArg vS (sI hJ8))
/-- cardgame/cardgameref26.object -/
def r26_object (a0 : SState) (a1 : Int) : Option (SObject × Bool) :=
 (r25_Find a0 a1).bind fun r1 =>
 some (r1.1, r1.2)
def r26_object_C (a0 : SState) (a1 : Int) (r : SObject × Bool) : Prop := PCall Tryz.prog I0 96 [vA encSState a0, vI a1] (· = .tup [vA encSObject r.1, vB r.2])
theorem r26_object_ok {a0 : SState} {a1 : Int} {r : SObject × Bool} (h : r26_object a0 a1 = some r) : r26_object_C a0 a1 r := by
 refine PCall.body I0_stable (by kernel_rfl) Tryz.func96 rfl Tryz.ntmps96 (rs := [.cell 4 42, .tmp 5]) rfl rfl ?_
 intro w0 av old gv
 unfold r26_object at h
 refine Rg [.a, .a, .a] (sl 11 [(1, vI a1), (2, vP [2] (0)), (4, vP [4] (0))] [bx [4] [.int .i64 (0 : Int), .int .i64 (0 : Int), .int .i64 (0 : Int), .int .i64 (0 : Int), .int .i64 (0 : Int), .bool false, .bool false, .bool false, .bool false, .int .i64 (0 : Int), .int .i64 (((⟨(0 : Int), (0 : Int), (0 : Int)⟩ : A3 (Int))).x0), .int .i64 (((⟨(0 : Int), (0 : Int), (0 : Int)⟩ : A3 (Int))).x1), .int .i64 (((⟨(0 : Int), (0 : Int), (0 : Int)⟩ : A3 (Int))).x2), .int .i64 (0 : Int), .int .i64 (0 : Int), .int .i64 (0 : Int), .bool false, .int .i64 (0 : Int), .int .i64 (0 : Int)], bx [2] (encSState a0)]) (aN) ?_
 obtain ⟨r1, hr1, h⟩ := bS h
 refine Rg [.a, .a, (.c (.tup [vA encSObject r1.1, vB r1.2])), .a, .a, .a, .a] (sl 11 [(4, vP [4] (0)), (5, vB r1.2)] [bx [4] (encSObject r1.1)]) (aC (r25_Find_ok hr1) <| aC (show True ∧ 0 < [V.undef, V.undef].length from ⟨trivial, (by decide)⟩) <| aC (show True ∧ 1 < [V.undef, V.undef].length from ⟨trivial, (by decide)⟩) <| aN) ?_
 refine Holds.ret ?_
 exact bE (.tup [vA encSObject r1.1, vB r1.2]) (.tup [.agg (encSObject r1.1), vB r1.2]) (congrArg (fun (q : SObject × Bool) => (.tup [vA encSObject q.1, vB q.2] : V)) (sI h))
/-- cardgame/cardgameref26.placed -/
def r26_placed (a0 : SState) (a1 : SObject) : Option (Bool) :=
 (if (a1.Zone == (5 : Int)) = true then
  (r26_spells a0 a1.Id).bind fun r2 =>
  some (r2 == (1 : Int))
 else
  (r25_List a0 a1.Zone a1.Owner).bind fun r3 =>
  (r26_times r3 a1.Id).bind fun r4 =>
  some (r4 == (1 : Int)))
def r26_placed_C (a0 : SState) (a1 : SObject) (r : Bool) : Prop := PCall Tryz.prog I0 64 [vA encSState a0, vA encSObject a1] (· = vB r)
theorem r26_placed_ok {a0 : SState} {a1 : SObject} {r : Bool} (h : r26_placed a0 a1 = some r) : r26_placed_C a0 a1 r := by
 refine PCall.body I0_stable (by kernel_rfl) Tryz.func64 rfl Tryz.ntmps64 (rs := [.tmp 4]) rfl rfl ?_
 intro w0 av old gv
 unfold r26_placed at h
 refine Rg [.a, .a, .a] (sl 23 [(2, vP [2] (0)), (3, vP [3] (0))] [bx [3] (encSObject a1), bx [2] (encSState a0)]) (aN) ?_
 refine Holds.seq ?_
 refine Rg [.a, .a, .a] (sl 23 [(2, vP [2] (0)), (3, vP [3] (0)), (7, vB (a1.Zone == (5 : Int)))] [bx [3] (encSObject a1), bx [2] (encSState a0)]) (aN) ?_
 refine iB h (fun b1 h => ?_) (fun b1 h => ?_)
 · obtain ⟨r2, hr2, h⟩ := bS h
   refine Rg [.a, .a, .a, (.c (vI r2)), .a, .a] (sl 23 [(4, vB (r2 == (1 : Int)))] []) (aC (r26_spells_ok hr2) <| aN) ?_
   refine Holds.ret ?_
   refine Tr ?_
   exact bQ (vB (r2 == (1 : Int))) (congrArg vB (sI h))
 · refine Holds.skip ?_
   refine Tn ?_
   refine Holds.seq ?_
   obtain ⟨r3, hr3, h⟩ := bS h
   obtain ⟨r4, hr4, h⟩ := bS h
   refine Holds.regN [0, 1, 2, 8, 64, 65, 66, 72, 192, 193, 194, 200, 201, 202, 216, 217, 218, 219, 222, 223, 255, 511, 1023, 2047, 203, 206, 207, 195, 198, 199, 73, 74, 88, 89, 90, 91, 94, 95, 127, 75, 78, 79, 67, 70, 71, 9, 10, 24, 25, 26, 27, 30, 31, 63, 11, 14, 15, 3, 6, 7] 2047 [.a, .a, .a, .a, .a, (.c (vL (eI .i64) r3)), .a, .a, (.c (vI r4)), .a, .a] [[3], [2]] (fun n => ⟨[.undef, .undef, vP [2] (0), vP [3] (0), cond (Nat.testBit n 10) (vB (r4 == (1 : Int))) (.undef), .undef, .undef, vB (a1.Zone == (5 : Int)), .undef, .undef, .undef, .undef, .undef, cond (Nat.testBit n 0) (vA encSState a0) (.undef), cond (Nat.testBit n 1) (vP [3] (4)) (.undef), cond (Nat.testBit n 2) (vI a1.Zone) (.undef), cond (Nat.testBit n 3) (vP [3] (2)) (.undef), cond (Nat.testBit n 4) (vI a1.Owner) (.undef), cond (Nat.testBit n 5) (vL (eI .i64) r3) (.undef), cond (Nat.testBit n 6) (vP [3] (0)) (.undef), cond (Nat.testBit n 7) (vI a1.Id) (.undef), cond (Nat.testBit n 8) (vI r4) (.undef), cond (Nat.testBit n 9) (vB (r4 == (1 : Int))) (.undef)], List.filterMap id [some (bx [3] (encSObject a1)), some (bx [2] (encSState a0))], [], []⟩) [[], [], [], [], [], [r25_List_C a0 a1.Zone a1.Owner r3], [], [], [r26_times_C r3 a1.Id r4], [], []] followsP (by kernel_rfl) (by kernel_rfl) (by decide) (Less.t (by kernel_rfl)) (by kernel_rfl) ⟨trivial, trivial, trivial, trivial, trivial, ⟨(r25_List_ok hr3), trivial⟩, trivial, trivial, ⟨(r26_times_ok hr4), trivial⟩, trivial, trivial, trivial⟩ ?_
   refine Tn ?_
   refine Ls (sl 23 [(4, vB (r4 == (1 : Int)))] []) ?_
   refine Holds.ret ?_
   exact bQ (vB (r4 == (1 : Int))) (congrArg vB (sI h))
def r17_SameList_J2  : Option (Bool) :=
 some true
def r17_SameList_B5 (a0 : List (SEffect)) (a1 : List (SEffect)) (i_t5_4 : Int) : Option ((Int) ⊕ (Unit ⊕ Unit)) :=
 (if (decide (i_t5_4 < (a0.length : Int))) = true then
  (idx a0 i_t5_4).bind fun e7 =>
  (idx a1 i_t5_4).bind fun e8 =>
  (r17_Same e7 e8).bind fun r9 =>
  (if (!r9) = true then
   some (.inr (.inl ()))
  else
   some (.inl (wrap64 (i_t5_4 + (1 : Int)))))
 else
  some (.inr (.inr ())))
/-- cardgame/cardgameref17.SameList -/
def r17_SameList (a0 : List (SEffect)) (a1 : List (SEffect)) : Option (Bool) :=
 (if ((a0.length : Int) != (a1.length : Int)) = true then
  some false
 else
  (iter (fun (v : Int) => r17_SameList_B5 a0 a1 v) FU (0 : Int)).bind (Sum.elim (fun o0 => some false) (fun o1 => r17_SameList_J2)))
def r17_SameList_C (a0 : List (SEffect)) (a1 : List (SEffect)) (r : Bool) : Prop := PCall Tryz.prog I0 136 [vL encSEffect a0, vL encSEffect a1] (· = vB r)
theorem r17_SameList_ok {a0 : List (SEffect)} {a1 : List (SEffect)} {r : Bool} (h : r17_SameList a0 a1 = some r) : r17_SameList_C a0 a1 r := by
 refine PCall.body I0_stable (by kernel_rfl) Tryz.func136 rfl Tryz.ntmps136 (rs := [.tmp 4]) rfl rfl ?_
 intro w0 av old gv
 unfold r17_SameList at h
 refine Rg [.a] (sl 27 [(0, vL encSEffect a0), (1, vL encSEffect a1)] []) (aN) ?_
 refine Holds.seq ?_
 refine Rg [.a, .a, .a, .a, .a] (sl 27 [(0, vL encSEffect a0), (1, vL encSEffect a1), (10, vB ((a0.length : Int) != (a1.length : Int)))] []) (aN) ?_
 refine iB h (fun b1 h => ?_) (fun b1 h => ?_)
 · refine Rg [.a] (sl 27 [(4, vB false)] []) (aN) ?_
   refine Holds.ret ?_
   refine Tr ?_
   exact bQ (vB false) (congrArg vB (sI h))
 · refine Holds.skip ?_
   refine Tn ?_
   refine Holds.seqJ (X := Unit) (fun v => (sl 27 [] [])) (fun v => r17_SameList_J2 = some r) ?_ ?_
   · refine Rg [.a] (sl 27 [(0, vL encSEffect a0), (1, vL encSEffect a1), (5, vI (0 : Int))] []) (aN) ?_
     refine Holds.block ?_
     obtain ⟨oB5, hiB5, h⟩ := bS h
     refine Holds.iter (fun (v : Int) => (sl 27 [(0, vL encSEffect a0), (1, vL encSEffect a1), (5, vI v)] [])) hiB5 (lT) ?_
     rintro i_t5_4 zB5 hzB5 hoB5
     replace hzB5 : r17_SameList_B5 a0 a1 i_t5_4 = some zB5 := hzB5
     unfold r17_SameList_B5 at hzB5
     refine Holds.seq ?_
     refine Rg [.a, .a, .a, .a] (sl 27 [(0, vL encSEffect a0), (1, vL encSEffect a1), (5, vI i_t5_4), (14, vB (decide (i_t5_4 < (a0.length : Int))))] []) (aN) ?_
     refine iB hzB5 (fun b6 hzB5 => ?_) (fun b6 hzB5 => ?_)
     · refine Holds.skip ?_
       refine Tn ?_
       refine Holds.seq ?_
       refine Holds.block ?_
       obtain ⟨e7, he7, hzB5⟩ := bS hzB5
       obtain ⟨e8, he8, hzB5⟩ := bS hzB5
       obtain ⟨r9, hr9, hzB5⟩ := bS hzB5
       refine Rq followsP [.a, .a, .a, (.v (vA encSEffect e7)), .a, .a, .a, (.v (vA encSEffect e8)), (.c (vB r9)), .a] (sl 27 [(0, vL encSEffect a0), (1, vL encSEffect a1), (5, vI i_t5_4), (26, vB (!r9))] []) (aC (idx_b he7) <| aC (eld he7 lenSEffect 0 64 true (vA encSEffect e7)) <| aC (Eq.refl (vA encSEffect e7)) <| aC (idx_b he8) <| aC (eld he8 lenSEffect 0 64 true (vA encSEffect e8)) <| aC (Eq.refl (vA encSEffect e8)) <| aC (r17_Same_ok hr9) <| aN) ?_
       refine iB hzB5 (fun b10 hzB5 => ?_) (fun b10 hzB5 => ?_)
       · refine Rg [.a] (sl 27 [(4, vB false)] []) (aN) ?_
         refine Holds.ret ?_
         refine blockQ.ret ?_
         refine Tr ?_
         have hoB5_ := hoB5 _ (sI hzB5).symm
         subst hoB5_
         replace h := sumL h
         refine Tr ?_
         refine blockQ.ret ?_
         refine Tr ?_
         exact bQ (vB false) (congrArg vB (sI h))
       · refine Holds.skip ?_
         refine blockQ.normal ?_
         refine Tn ?_
         refine Re [.a, .a, .a] (sl 27 [(0, vL encSEffect a0), (1, vL encSEffect a1), (5, vI (wrap64 (i_t5_4 + (1 : Int)))), (15, vI i_t5_4), (16, vI (wrap64 (i_t5_4 + (1 : Int)))), (26, vB (!r9))] []) (aN) ?_
         refine Tn ⟨(wrap64 (i_t5_4 + (1 : Int))), (sI hzB5).symm, lT⟩
     · refine Holds.exit ?_
       refine thenQ.exit ?_
       have hoB5_ := hoB5 _ (sI hzB5).symm
       subst hoB5_
       replace h := sumR h
       refine thenQ.exit ?_
       refine blockQ.out ?_
       refine Tn ⟨(), h, lT⟩
   · rintro _ hJ2
     replace hJ2 : r17_SameList_J2 = some r := hJ2
     unfold r17_SameList_J2 at hJ2
     refine Rg [.a] (sl 27 [(4, vB true)] []) (aN) ?_
     refine Holds.ret ?_
     exact bQ (vB true) (congrArg vB (sI hJ2))
/-- cardgame/event.fielded -/
def event_fielded (a0 : SState) (a1 : Int) : Option (SObject × Bool) :=
 (zone_Find a0 a1).bind fun r1 =>
 (some (if r1.2 = true then r1.1.Zone == (0 : Int) else false)).bind fun b2 =>
 some (r1.1, b2)
def event_fielded_C (a0 : SState) (a1 : Int) (r : SObject × Bool) : Prop := PCall Tryz.prog I0 19 [vA encSState a0, vI a1] (· = .tup [vA encSObject r.1, vB r.2])
theorem event_fielded_ok {a0 : SState} {a1 : Int} {r : SObject × Bool} (h : event_fielded a0 a1 = some r) : event_fielded_C a0 a1 r := by
 refine PCall.body I0_stable (by kernel_rfl) Tryz.func19 rfl Tryz.ntmps19 (rs := [.cell 4 42, .tmp 5]) rfl rfl ?_
 intro w0 av old gv
 unfold event_fielded at h
 refine Rg [.a, .a, .a] (sl 21 [(1, vI a1), (2, vP [2] (0)), (4, vP [4] (0))] [bx [4] [.int .i64 (0 : Int), .int .i64 (0 : Int), .int .i64 (0 : Int), .int .i64 (0 : Int), .int .i64 (0 : Int), .bool false, .bool false, .bool false, .bool false, .int .i64 (0 : Int), .int .i64 (((⟨(0 : Int), (0 : Int), (0 : Int)⟩ : A3 (Int))).x0), .int .i64 (((⟨(0 : Int), (0 : Int), (0 : Int)⟩ : A3 (Int))).x1), .int .i64 (((⟨(0 : Int), (0 : Int), (0 : Int)⟩ : A3 (Int))).x2), .int .i64 (0 : Int), .int .i64 (0 : Int), .int .i64 (0 : Int), .bool false, .int .i64 (0 : Int), .int .i64 (0 : Int)], bx [2] (encSState a0)]) (aN) ?_
 obtain ⟨r1, hr1, h⟩ := bS h
 refine Rg [.a, .a, (.c (.tup [vA encSObject r1.1, vB r1.2])), .a, .a, .a, .a, .a, .a] (sl 21 [(4, vP [4] (0)), (6, vP [6] (0)), (7, vB r1.2)] [bx [6] (encSObject r1.1), bx [4] [.int .i64 (0 : Int), .int .i64 (0 : Int), .int .i64 (0 : Int), .int .i64 (0 : Int), .int .i64 (0 : Int), .bool false, .bool false, .bool false, .bool false, .int .i64 (0 : Int), .int .i64 (((⟨(0 : Int), (0 : Int), (0 : Int)⟩ : A3 (Int))).x0), .int .i64 (((⟨(0 : Int), (0 : Int), (0 : Int)⟩ : A3 (Int))).x1), .int .i64 (((⟨(0 : Int), (0 : Int), (0 : Int)⟩ : A3 (Int))).x2), .int .i64 (0 : Int), .int .i64 (0 : Int), .int .i64 (0 : Int), .bool false, .int .i64 (0 : Int), .int .i64 (0 : Int)]]) (aC (zone_Find_ok hr1) <| aC (show True ∧ 0 < [V.undef, V.undef].length from ⟨trivial, (by decide)⟩) <| aC (show True ∧ 1 < [V.undef, V.undef].length from ⟨trivial, (by decide)⟩) <| aN) ?_
 refine Holds.seq ?_
 obtain ⟨b2, hb2, h⟩ := bS h
 refine Holds.regN [0, 1, 2, 3, 6, 7, 14, 15, 30, 31, 62, 63, 126, 127, 255, 511, 191, 159, 143, 135] 511 [.a, .a, .a, .a, .a, .a, (.v (vB b2)), .a, .a] [[6], [4]] (fun n => ⟨[.undef, .undef, .undef, .undef, vP [4] (0), cond (Nat.testBit n 8) (vB b2) (.undef), vP [6] (0), vB r1.2, .undef, .undef, .undef, .undef, .undef, .undef, cond (Nat.testBit n 0) (vA encSObject r1.1) (.undef), cond (Nat.testBit n 1) (vB r1.2) (.undef), cond (Nat.testBit n 2) (vB r1.2) (.undef), cond (Nat.testBit n 3) (.g (r1.2 == true) (vP [6] (4))) (.undef), cond (Nat.testBit n 4) (.g (r1.2 == true) (vI r1.1.Zone)) (.undef), cond (Nat.testBit n 5) (.g (r1.2 == true) (vB (r1.1.Zone == (0 : Int)))) (.undef), cond (Nat.testBit n 6) (vB b2) (.undef)], List.filterMap id [some (bx [6] (encSObject r1.1)), cond (Nat.testBit n 7) (some (bx [4] (encSObject r1.1))) (some (bx [4] [.int .i64 (0 : Int), .int .i64 (0 : Int), .int .i64 (0 : Int), .int .i64 (0 : Int), .int .i64 (0 : Int), .bool false, .bool false, .bool false, .bool false, .int .i64 (0 : Int), .int .i64 (((⟨(0 : Int), (0 : Int), (0 : Int)⟩ : A3 (Int))).x0), .int .i64 (((⟨(0 : Int), (0 : Int), (0 : Int)⟩ : A3 (Int))).x1), .int .i64 (((⟨(0 : Int), (0 : Int), (0 : Int)⟩ : A3 (Int))).x2), .int .i64 (0 : Int), .int .i64 (0 : Int), .int .i64 (0 : Int), .bool false, .int .i64 (0 : Int), .int .i64 (0 : Int)]))], [], []⟩) [[], [], [], [], [(r1.2 == true) = true → andL [(r1.2 == true) = true → (r1.2 == true) = true]], [(r1.2 == true) = true → andL [(r1.2 == true) = true → (r1.2 == true) = true]], [r1.2 = true → (r1.2 == true) = true, (vB (if r1.2 = true then r1.1.Zone == (0 : Int) else false) : V) = vB b2], [], []] followsP (by kernel_rfl) (by kernel_rfl) (by decide) (Less.t (by kernel_rfl)) (by kernel_rfl) ⟨trivial, trivial, trivial, trivial, ⟨(fun hg => ⟨id, trivial⟩), trivial⟩, ⟨(fun hg => ⟨id, trivial⟩), trivial⟩, ⟨(fun q => (gT q)), (congrArg vB (sI hb2)), trivial⟩, trivial, trivial, trivial⟩ ?_
 refine Tn ?_
 refine Ls (sl 21 [(4, vP [4] (0)), (5, vB b2)] [bx [4] (encSObject r1.1)]) ?_
 refine Holds.ret ?_
 exact bE (.tup [vA encSObject r1.1, vB b2]) (.tup [.agg (encSObject r1.1), vB b2]) (congrArg (fun (q : SObject × Bool) => (.tup [vA encSObject q.1, vB q.2] : V)) (sI h))
/-- cardgame/event.moves -/
def event_moves (a0 : SState) (a1 : SEvent) : Option (Bool) :=
 (zone_Find a0 a1.Object).bind fun r1 =>
 (some (if r1.2 = true then r1.1.Zone == a1.From else false)).bind fun b2 =>
 (some (if b2 = true then a1.To != a1.From else false)).bind fun b3 =>
 (some (if b3 = true then decide ((0 : Int) ≤ a1.To) else false)).bind fun b4 =>
 (some (if b4 = true then decide (a1.To ≤ (4 : Int)) else false)).bind fun b5 =>
 (some (if b5 = true then decide ((0 : Int) ≤ a1.Player) else false)).bind fun b6 =>
 (some (if b6 = true then decide (a1.Player < (a0.Players.length : Int)) else false)).bind fun b7 =>
 some b7
def event_moves_C (a0 : SState) (a1 : SEvent) (r : Bool) : Prop := PCall Tryz.prog I0 21 [vA encSState a0, vA encSEvent a1] (· = vB r)
theorem event_moves_ok {a0 : SState} {a1 : SEvent} {r : Bool} (h : event_moves a0 a1 = some r) : event_moves_C a0 a1 r := by
 refine PCall.body I0_stable (by kernel_rfl) Tryz.func21 rfl Tryz.ntmps21 (rs := [.tmp 4]) rfl rfl ?_
 intro w0 av old gv
 unfold event_moves at h
 refine Rg [.a, .a, .a] (sl 52 [(2, vP [2] (0)), (3, vP [3] (0))] [bx [3] (encSEvent a1), bx [2] (encSState a0)]) (aN) ?_
 obtain ⟨r1, hr1, h⟩ := bS h
 refine Rg [.a, .a, .a, (.c (.tup [vA encSObject r1.1, vB r1.2])), .a, .a, .a, .a, .a, .a] (sl 52 [(2, vP [2] (0)), (3, vP [3] (0)), (5, vP [5] (0)), (6, vB r1.2)] [bx [5] (encSObject r1.1), bx [3] (encSEvent a1), bx [2] (encSState a0)]) (aC (zone_Find_ok hr1) <| aC (show True ∧ 0 < [V.undef, V.undef].length from ⟨trivial, (by decide)⟩) <| aC (show True ∧ 1 < [V.undef, V.undef].length from ⟨trivial, (by decide)⟩) <| aN) ?_
 obtain ⟨b2, hb2, h⟩ := bS h
 obtain ⟨b3, hb3, h⟩ := bS h
 obtain ⟨b4, hb4, h⟩ := bS h
 obtain ⟨b5, hb5, h⟩ := bS h
 obtain ⟨b6, hb6, h⟩ := bS h
 obtain ⟨b7, hb7, h⟩ := bS h
 refine Rg [.a, .a, .a, .a, .a, .a, .a, (.v (vB b2)), .a, .a, .a, .a, .a, .a, (.v (vB b3)), .a, .a, .a, .a, (.v (vB b4)), .a, .a, .a, .a, (.v (vB b5)), .a, .a, .a, .a, (.v (vB b6)), .a, .a, .a, .a, .a, .a, .a, (.v (vB b7)), .a] (sl 52 [(4, vB b7)] []) (aG (r1.2 == true) <| aG (r1.2 == true) <| aH (r1.2 == true) <| aT r1.2 <| aB hb2 <| aG (b2 == true) <| aG (b2 == true) <| aH (b2 == true) <| aT b2 <| aB hb3 <| aG (b3 == true) <| aG (b3 == true) <| aT b3 <| aB hb4 <| aG (b4 == true) <| aG (b4 == true) <| aT b4 <| aB hb5 <| aG (b5 == true) <| aG (b5 == true) <| aT b5 <| aB hb6 <| aG (b6 == true) <| aG (b6 == true) <| aG (b6 == true) <| aH (b6 == true) <| aT b6 <| aB hb7 <| aN) ?_
 refine Holds.ret ?_
 exact bQ (vB b7) (congrArg vB (sI h))
/-- cardgame/cardgameref32.in -/
def r32_in (a0 : SState) (a1 : Int) (a2 : Int) : Option (Bool) :=
 (r25_Find a0 a1).bind fun r1 =>
 (some (if r1.2 = true then r1.1.Zone == a2 else false)).bind fun b2 =>
 some b2
end Go.PL
