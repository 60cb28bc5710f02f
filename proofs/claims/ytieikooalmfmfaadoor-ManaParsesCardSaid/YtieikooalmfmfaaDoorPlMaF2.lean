/- Functions of the program, as partial functions in Lean, with proofs. -/
import Derived.Test.YtieikooalmfmfaaDoorPlMaB
import Derived.Test.YtieikooalmfmfaaDoorPlMaF0
import Derived.Test.YtieikooalmfmfaaDoorPlMaF1
namespace Go.PL
open Go Go.RowKit Go.Proofs
set_option maxRecDepth 100000
set_option linter.all false
set_option maxHeartbeats 1000000
attribute [local irreducible] Holds thenQ blockQ
def num_Number (a0 : List UInt8) : Option (Int × Bool) := match dAtoiV a0 with
  | some _ => num_NumberV a0
  | none => num_NumberB a0
def num_Number_C (a0 : List UInt8) (r : Int × Bool) : Prop := PCall Tryd.prog I0 55 [vS a0] (· = .tup [vI r.1, vB r.2])
theorem num_Number_ok {a0 : List UInt8} {r : Int × Bool} (h : num_Number a0 = some r) : num_Number_C a0 r := by
  unfold num_Number at h
  split at h
  · exact num_NumberV_ok h
  · exact num_NumberB_ok h

def mana_Value_J4 (a0 : SCost) (a1 : Int) (v_t5_3 : Int) : Option (Int) :=
 (num_Mul a0.X (if (0 : Int) < a1 then a1 else (0 : Int))).bind fun r5 =>
 (num_Add v_t5_3 r5).bind fun r6 =>
 some r6
def mana_Value_B12 (a0 : SCost) (v_t5_9 : Int) (vt15_10 : Int) : Option ((Int × Int) ⊕ (Int)) :=
 (if (decide (vt15_10 < (5 : Int))) = true then
  (idx a0.Color.l vt15_10).bind fun e14 =>
  some (.inl ((wrap64 (v_t5_9 + e14)), (wrap64 (vt15_10 + (1 : Int)))))
 else
  some (.inr v_t5_9))
/-- cardgame/mana.Value -/
def mana_Value (a0 : SCost) (a1 : Int) : Option (Int) :=
 (mana_Is a0).bind fun r1 =>
 (if (!r1) = true then
  some (0 : Int)
 else
  (iter (fun (v : Int × Int) => mana_Value_B12 a0 v.1 v.2) FU (a0.Generic, (0 : Int))).bind (fun o0 => mana_Value_J4 a0 a1 o0))
def mana_Value_C (a0 : SCost) (a1 : Int) (r : Int) : Prop := PCall Tryd.prog I0 18 [vA encSCost a0, vI a1] (· = vI r)
theorem mana_Value_ok {a0 : SCost} {a1 : Int} {r : Int} (h : mana_Value a0 a1 = some r) : mana_Value_C a0 a1 r := by
 refine PCall.body I0_stable (by kernel_rfl) Tryd.func18 rfl Tryd.ntmps18 (rs := [.tmp 4]) rfl rfl ?_
 intro w0 av old gv
 unfold mana_Value at h
 refine Rg [.a, .a] (sl 29 [(1, vI a1), (2, vP [2] (0))] [bx [2] (encSCost a0)]) (aN) ?_
 refine Holds.seq ?_
 obtain ⟨r1, hr1, h⟩ := bS h
 refine Rg [.a, (.c (vB r1)), .a] (sl 29 [(1, vI a1), (2, vP [2] (0)), (10, vB (!r1))] [bx [2] (encSCost a0)]) (aC (mana_Is_ok hr1) <| aN) ?_
 refine iB h (fun b2 h => ?_) (fun b2 h => ?_)
 · refine Rg [.a] (sl 29 [(4, vI (0 : Int))] []) (aN) ?_
   refine Holds.ret ?_
   refine Tr ?_
   exact bQ (vI (0 : Int)) (congrArg vI (sI h))
 · refine Holds.skip ?_
   refine Tn ?_
   refine Rg [.a, .a, .a] (sl 29 [(1, vI a1), (2, vP [2] (0)), (5, vI a0.Generic)] [bx [2] (encSCost a0)]) (aN) ?_
   refine Sj (X := Int) (fun v => (sl 29 [(1, vI a1), (2, vP [2] (0)), (5, vI v)] [bx [2] (encSCost a0)])) (fun v => mana_Value_J4 a0 a1 v = some r) ?_ ?_
   · refine Rg [.a, .a, .a] (sl 29 [(1, vI a1), (2, vP [2] (0)), (5, vI a0.Generic), (14, vA (eA5 (eI .i64)) a0.Color), (15, vI (0 : Int))] [bx [2] (encSCost a0)]) (aN) ?_
     refine Holds.block ?_
     obtain ⟨oB12, hiB12, h⟩ := bS h
     refine It (fun (v : Int × Int) => (sl 29 [(1, vI a1), (2, vP [2] (0)), (5, vI v.1), (14, vA (eA5 (eI .i64)) a0.Color), (15, vI v.2)] [bx [2] (encSCost a0)])) hiB12 (wT) ?_
     rintro ⟨v_t5_9, vt15_10⟩ zB12 hzB12 hoB12
     replace hzB12 : mana_Value_B12 a0 v_t5_9 vt15_10 = some zB12 := hzB12
     unfold mana_Value_B12 at hzB12
     refine Rg [.a] (sl 29 [(1, vI a1), (2, vP [2] (0)), (5, vI v_t5_9), (14, vA (eA5 (eI .i64)) a0.Color), (15, vI vt15_10), (16, vB (decide (vt15_10 < (5 : Int))))] [bx [2] (encSCost a0)]) (aN) ?_
     refine Holds.seq ?_
     refine iB hzB12 (fun b13 hzB12 => ?_) (fun b13 hzB12 => ?_)
     · refine Holds.skip ?_
       refine Tn ?_
       refine Holds.seq ?_
       refine Holds.block ?_
       obtain ⟨e14, he14, hzB12⟩ := bS hzB12
       refine Rg [(.v (vI e14)), .a] (sl 29 [(1, vI a1), (2, vP [2] (0)), (5, vI v_t5_9), (7, vI e14), (14, vA (eA5 (eI .i64)) a0.Color), (15, vI vt15_10)] [bx [2] (encSCost a0)]) (aC (show (0 ≤ vt15_10 ∧ vt15_10 < ((5 : Nat) : Int)) ∧ (vt15_10).toNat * 1 + 1 ≤ (eA5 (eI .i64) a0.Color).length ∧ toV false ((vt15_10).toNat * 1) 1 (eA5 (eI .i64) a0.Color) = vI e14 from ⟨idx_b he14, arr_ld (e := eI .i64) (N := 1) (l := a0.Color.l) (base := 0) (pre := []) (post := []) (by kernel_rfl) rfl he14 (lenI .i64) (o := 0) (by simp) (by decide) (by decide) (by kernel_rfl)⟩) <| aC (Eq.refl (vI e14)) <| aN) ?_
       refine Re [.a, .a, .a, .a] (sl 29 [(1, vI a1), (2, vP [2] (0)), (5, vI (wrap64 (v_t5_9 + e14))), (7, vI e14), (14, vA (eA5 (eI .i64)) a0.Color), (15, vI vt15_10), (18, vI v_t5_9), (19, vI e14), (20, vI (wrap64 (v_t5_9 + e14)))] [bx [2] (encSCost a0)]) (aN) ?_
       refine blockQ.normal ?_
       refine Tn ?_
       refine Re [.a, .a] (sl 29 [(1, vI a1), (2, vP [2] (0)), (5, vI (wrap64 (v_t5_9 + e14))), (7, vI e14), (14, vA (eA5 (eI .i64)) a0.Color), (15, vI (wrap64 (vt15_10 + (1 : Int)))), (18, vI v_t5_9), (19, vI e14), (20, vI (wrap64 (v_t5_9 + e14))), (21, vI (wrap64 (vt15_10 + (1 : Int))))] [bx [2] (encSCost a0)]) (aN) ?_
       refine Tn ⟨((wrap64 (v_t5_9 + e14)), (wrap64 (vt15_10 + (1 : Int)))), (sI hzB12).symm, wT⟩
     · refine Holds.exit ?_
       refine thenQ.exit ?_
       have hoB12_ := hoB12 _ (sI hzB12).symm
       subst hoB12_
       refine thenQ.exit ?_
       refine blockQ.out ?_
       refine Tn ⟨v_t5_9, h, wT⟩
   · rintro v_t5_3 hJ4
     replace hJ4 : mana_Value_J4 a0 a1 v_t5_3 = some r := hJ4
     unfold mana_Value_J4 at hJ4
     obtain ⟨r5, hr5, hJ4⟩ := bS hJ4
     obtain ⟨r6, hr6, hJ4⟩ := bS hJ4
     refine Rg [.a, .a, .a, .a, .a, (.c (vI r5)), (.c (vI r6)), .a] (sl 29 [(4, vI r6)] []) (aC (show (True ∧ (True ∧ True)) ∧ True from ⟨⟨trivial, ⟨trivial, trivial⟩⟩, trivial⟩) <| aC (num_Mul_ok hr5) <| aC (num_Add_ok hr6) <| aN) ?_
     refine Holds.ret ?_
     exact bQ (vI r6) (congrArg vI (sI hJ4))
def r08_Text_J8  (s_t3_7 : List UInt8) : Option ((List UInt8)) :=
 (if (s_t3_7 == ([] : List UInt8)) = true then
  some str_0
 else
  some s_t3_7)
def r08_Text_J18 (i_t5_13 : Int) (s_t3_17 : List UInt8) : Option (((List UInt8) × Int) ⊕ ((List UInt8))) :=
 some (.inl (s_t3_17, (wrap64 (i_t5_13 + (1 : Int)))))
def r08_Text_B24 (a0 : SCost) (i_t5_13 : Int) (s_t3_21 : List UInt8) (k_t6_22 : Int) : Option (((List UInt8) × Int) ⊕ ((List UInt8))) :=
 (idx a0.Color.l i_t5_13).bind fun e25 =>
 (if (decide (k_t6_22 < e25)) = true then
  (ssub str_ACJRE i_t5_13 (wrap64 (i_t5_13 + (1 : Int)))).bind fun s27 =>
  (cat s_t3_21 s27).bind fun s28 =>
  some (.inl (s28, (wrap64 (k_t6_22 + (1 : Int)))))
 else
  some (.inr s_t3_21))
def r08_Text_B15 (a0 : SCost) (s_t3_12 : List UInt8) (i_t5_13 : Int) : Option (((List UInt8) × Int) ⊕ ((List UInt8))) :=
 (if (decide (i_t5_13 < (5 : Int))) = true then
  (iter (fun (v : (List UInt8) × Int) => r08_Text_B24 a0 i_t5_13 v.1 v.2) FU (s_t3_12, (0 : Int))).bind (fun o0 => r08_Text_J18 i_t5_13 o0)
 else
  some (.inr s_t3_12))
def r08_Text_J6 (a0 : SCost) (s_t3_5 : List UInt8) : Option ((List UInt8)) :=
 (iter (fun (v : (List UInt8) × Int) => r08_Text_B15 a0 v.1 v.2) FU (s_t3_5, (0 : Int))).bind (fun o0 => r08_Text_J8 o0)
def r08_Text_J4 (a0 : SCost) (s_t3_3 : List UInt8) : Option ((List UInt8)) :=
 (if (a0.Generic != (0 : Int)) = true then
  (r01_Text a0.Generic).bind fun r30 =>
  (cat s_t3_3 r30).bind fun s31 =>
  r08_Text_J6 a0 s31
 else
  r08_Text_J6 a0 s_t3_3)
def r08_Text_B37 (a0 : SCost) (s_t3_34 : List UInt8) (i_t4_35 : Int) : Option (((List UInt8) × Int) ⊕ ((List UInt8))) :=
 (if (decide (i_t4_35 < a0.X)) = true then
  (cat s_t3_34 str_X).bind fun s39 =>
  some (.inl (s39, (wrap64 (i_t4_35 + (1 : Int)))))
 else
  some (.inr s_t3_34))
/-- cardgame/cardgameref08.Text -/
def r08_Text (a0 : SCost) : Option ((List UInt8)) :=
 (r08_Is a0).bind fun r1 =>
 (if (!r1) = true then
  some ([] : List UInt8)
 else
  (iter (fun (v : (List UInt8) × Int) => r08_Text_B37 a0 v.1 v.2) FU (([] : List UInt8), (0 : Int))).bind (fun o0 => r08_Text_J4 a0 o0))
def r08_Text_C (a0 : SCost) (r : (List UInt8)) : Prop := PCall Tryd.prog I0 24 [vA encSCost a0] (· = vS r)
theorem r08_Text_ok {a0 : SCost} {r : (List UInt8)} (h : r08_Text a0 = some r) : r08_Text_C a0 r := by
 refine PCall.body I0_stable (by kernel_rfl) Tryd.func24 rfl Tryd.ntmps24 (rs := [.tmp 2]) rfl rfl ?_
 intro w0 av old gv
 unfold r08_Text at h
 refine Rg [.a, .a] (sl 47 [(1, vP [1] (0))] [bx [1] (encSCost a0)]) (aN) ?_
 refine Holds.seq ?_
 obtain ⟨r1, hr1, h⟩ := bS h
 refine Rg [.a, (.c (vB r1)), .a] (sl 47 [(1, vP [1] (0)), (9, vB (!r1))] [bx [1] (encSCost a0)]) (aC (r08_Is_ok hr1) <| aN) ?_
 refine iB h (fun b2 h => ?_) (fun b2 h => ?_)
 · refine Rg [.a] (sl 47 [(2, vS ([] : List UInt8))] []) (aN) ?_
   refine Holds.ret ?_
   refine Tr ?_
   exact bQ (vS ([] : List UInt8)) (congrArg vS (sI h))
 · refine Holds.skip ?_
   refine Tn ?_
   refine Rg [.a] (sl 47 [(1, vP [1] (0)), (3, vS ([] : List UInt8))] [bx [1] (encSCost a0)]) (aN) ?_
   refine Sj (X := (List UInt8)) (fun v => (sl 47 [(1, vP [1] (0)), (3, vS v)] [bx [1] (encSCost a0)])) (fun v => r08_Text_J4 a0 v = some r) ?_ ?_
   · refine Rg [.a] (sl 47 [(1, vP [1] (0)), (3, vS ([] : List UInt8)), (4, vI (0 : Int))] [bx [1] (encSCost a0)]) (aN) ?_
     refine Holds.block ?_
     obtain ⟨oB37, hiB37, h⟩ := bS h
     refine It (fun (v : (List UInt8) × Int) => (sl 47 [(1, vP [1] (0)), (3, vS v.1), (4, vI v.2)] [bx [1] (encSCost a0)])) hiB37 (wT) ?_
     rintro ⟨s_t3_34, i_t4_35⟩ zB37 hzB37 hoB37
     replace hzB37 : r08_Text_B37 a0 s_t3_34 i_t4_35 = some zB37 := hzB37
     unfold r08_Text_B37 at hzB37
     refine Holds.seq ?_
     refine Rg [.a, .a, .a, .a] (sl 47 [(1, vP [1] (0)), (3, vS s_t3_34), (4, vI i_t4_35), (13, vB (decide (i_t4_35 < a0.X)))] [bx [1] (encSCost a0)]) (aN) ?_
     refine iB hzB37 (fun b38 hzB37 => ?_) (fun b38 hzB37 => ?_)
     · refine Holds.skip ?_
       refine Tn ?_
       refine Holds.seq ?_
       refine Holds.block ?_
       obtain ⟨s39, hs39, hzB37⟩ := bS hzB37
       refine Re [.a, (.v (vS s39)), .a] (sl 47 [(1, vP [1] (0)), (3, vS s39), (4, vI i_t4_35), (13, vB (decide (i_t4_35 < a0.X))), (16, vS s_t3_34), (17, vS s39)] [bx [1] (encSCost a0)]) (aC (cat_b hs39) <| aC (congrArg (fun z => V.c (.str z)) (cat_x hs39).symm) <| aN) ?_
       refine blockQ.normal ?_
       refine Tn ?_
       refine Re [.a, .a, .a] (sl 47 [(1, vP [1] (0)), (3, vS s39), (4, vI (wrap64 (i_t4_35 + (1 : Int)))), (13, vB (decide (i_t4_35 < a0.X))), (14, vI i_t4_35), (15, vI (wrap64 (i_t4_35 + (1 : Int)))), (16, vS s_t3_34), (17, vS s39)] [bx [1] (encSCost a0)]) (aN) ?_
       refine Tn ⟨(s39, (wrap64 (i_t4_35 + (1 : Int)))), (sI hzB37).symm, wT⟩
     · refine Holds.exit ?_
       refine thenQ.exit ?_
       have hoB37_ := hoB37 _ (sI hzB37).symm
       subst hoB37_
       refine thenQ.exit ?_
       refine blockQ.out ?_
       refine Tn ⟨s_t3_34, h, wT⟩
   · rintro s_t3_3 hJ4
     replace hJ4 : r08_Text_J4 a0 s_t3_3 = some r := hJ4
     unfold r08_Text_J4 at hJ4
     refine Sj (X := (List UInt8)) (fun v => (sl 47 [(1, vP [1] (0)), (3, vS v)] [bx [1] (encSCost a0)])) (fun v => r08_Text_J6 a0 v = some r) ?_ ?_
     · refine Rg [.a, .a, .a] (sl 47 [(1, vP [1] (0)), (3, vS s_t3_3), (20, vB (a0.Generic != (0 : Int)))] [bx [1] (encSCost a0)]) (aN) ?_
       refine iB hJ4 (fun b29 hJ4 => ?_) (fun b29 hJ4 => ?_)
       · obtain ⟨r30, hr30, hJ4⟩ := bS hJ4
         obtain ⟨s31, hs31, hJ4⟩ := bS hJ4
         refine Re [.a, .a, .a, (.c (vS r30)), (.v (vS s31)), .a] (sl 47 [(1, vP [1] (0)), (3, vS s31), (20, vB (a0.Generic != (0 : Int))), (21, vS s_t3_3), (22, vP [1] (0)), (23, vI a0.Generic), (24, vS r30), (25, vS s31)] [bx [1] (encSCost a0)]) (aC (r01_Text_ok hr30) <| aC (cat_b hs31) <| aC (congrArg (fun z => V.c (.str z)) (cat_x hs31).symm) <| aN) ?_
         refine Tn ⟨s31, hJ4, wT⟩
       · refine Holds.skip ?_
         refine Tn ⟨s_t3_3, hJ4, wT⟩
     · rintro s_t3_5 hJ6
       replace hJ6 : r08_Text_J6 a0 s_t3_5 = some r := hJ6
       unfold r08_Text_J6 at hJ6
       refine Sj (X := (List UInt8)) (fun v => (sl 47 [(3, vS v)] [])) (fun v => r08_Text_J8 v = some r) ?_ ?_
       · refine Rg [.a] (sl 47 [(1, vP [1] (0)), (3, vS s_t3_5), (5, vI (0 : Int))] [bx [1] (encSCost a0)]) (aN) ?_
         refine Holds.block ?_
         obtain ⟨oB15, hiB15, hJ6⟩ := bS hJ6
         refine It (fun (v : (List UInt8) × Int) => (sl 47 [(1, vP [1] (0)), (3, vS v.1), (5, vI v.2)] [bx [1] (encSCost a0)])) hiB15 (wT) ?_
         rintro ⟨s_t3_12, i_t5_13⟩ zB15 hzB15 hoB15
         replace hzB15 : r08_Text_B15 a0 s_t3_12 i_t5_13 = some zB15 := hzB15
         unfold r08_Text_B15 at hzB15
         refine Holds.seq ?_
         refine Rg [.a, .a] (sl 47 [(1, vP [1] (0)), (3, vS s_t3_12), (5, vI i_t5_13), (27, vB (decide (i_t5_13 < (5 : Int))))] [bx [1] (encSCost a0)]) (aN) ?_
         refine iB hzB15 (fun b16 hzB15 => ?_) (fun b16 hzB15 => ?_)
         · refine Holds.skip ?_
           refine Tn ?_
           refine Sj (X := (List UInt8)) (fun v => (sl 47 [(1, vP [1] (0)), (3, vS v), (5, vI i_t5_13)] [bx [1] (encSCost a0)])) (fun v => r08_Text_J18 i_t5_13 v = some zB15) ?_ ?_
           · refine Holds.block ?_
             refine Rg [.a] (sl 47 [(1, vP [1] (0)), (3, vS s_t3_12), (5, vI i_t5_13), (6, vI (0 : Int))] [bx [1] (encSCost a0)]) (aN) ?_
             refine Holds.block ?_
             obtain ⟨oB24, hiB24, hzB15⟩ := bS hzB15
             refine It (fun (v : (List UInt8) × Int) => (sl 47 [(1, vP [1] (0)), (3, vS v.1), (5, vI i_t5_13), (6, vI v.2)] [bx [1] (encSCost a0)])) hiB24 (wT) ?_
             rintro ⟨s_t3_21, k_t6_22⟩ zB24 hzB24 hoB24
             replace hzB24 : r08_Text_B24 a0 i_t5_13 s_t3_21 k_t6_22 = some zB24 := hzB24
             unfold r08_Text_B24 at hzB24
             refine Holds.seq ?_
             obtain ⟨e25, he25, hzB24⟩ := bS hzB24
             refine Rg [.a, .a, .a, .a, (.v (vI e25)), .a] (sl 47 [(1, vP [1] (0)), (3, vS s_t3_21), (5, vI i_t5_13), (6, vI k_t6_22), (35, vB (decide (k_t6_22 < e25)))] [bx [1] (encSCost a0)]) (aC (idx_b he25) <| aC (ald he25 (lenI .i64) (encSCost a0) 2 7 0 1 false (vI e25)) <| aC (Eq.refl (vI e25)) <| aN) ?_
             refine iB hzB24 (fun b26 hzB24 => ?_) (fun b26 hzB24 => ?_)
             · refine Holds.skip ?_
               refine Tn ?_
               refine Holds.seq ?_
               refine Holds.block ?_
               obtain ⟨s27, hs27, hzB24⟩ := bS hzB24
               obtain ⟨s28, hs28, hzB24⟩ := bS hzB24
               refine Re [.a, .a, .a, .a, (.v (vS s27)), (.v (vS s28)), .a] (sl 47 [(1, vP [1] (0)), (3, vS s28), (5, vI i_t5_13), (6, vI k_t6_22), (35, vB (decide (k_t6_22 < e25))), (38, vS s_t3_21), (39, vI i_t5_13), (40, vI i_t5_13), (41, vI (wrap64 (i_t5_13 + (1 : Int)))), (42, vS s27), (43, vS s28)] [bx [1] (encSCost a0)]) (aC (ssub_b hs27) <| aC (congrArg (fun z => V.c (.str z)) (ssub_x hs27).symm) <| aC (cat_b hs28) <| aC (congrArg (fun z => V.c (.str z)) (cat_x hs28).symm) <| aN) ?_
               refine blockQ.normal ?_
               refine Tn ?_
               refine Re [.a, .a, .a] (sl 47 [(1, vP [1] (0)), (3, vS s28), (5, vI i_t5_13), (6, vI (wrap64 (k_t6_22 + (1 : Int)))), (35, vB (decide (k_t6_22 < e25))), (36, vI k_t6_22), (37, vI (wrap64 (k_t6_22 + (1 : Int)))), (38, vS s_t3_21), (39, vI i_t5_13), (40, vI i_t5_13), (41, vI (wrap64 (i_t5_13 + (1 : Int)))), (42, vS s27), (43, vS s28)] [bx [1] (encSCost a0)]) (aN) ?_
               refine Tn ⟨(s28, (wrap64 (k_t6_22 + (1 : Int)))), (sI hzB24).symm, wT⟩
             · refine Holds.exit ?_
               refine thenQ.exit ?_
               have hoB24_ := hoB24 _ (sI hzB24).symm
               subst hoB24_
               refine thenQ.exit ?_
               refine blockQ.out ?_
               refine blockQ.normal ?_
               refine Tn ⟨s_t3_21, hzB15, wT⟩
           · rintro s_t3_17 hJ18
             replace hJ18 : r08_Text_J18 i_t5_13 s_t3_17 = some zB15 := hJ18
             unfold r08_Text_J18 at hJ18
             refine Re [.a, .a, .a] (sl 47 [(1, vP [1] (0)), (3, vS s_t3_17), (5, vI (wrap64 (i_t5_13 + (1 : Int)))), (28, vI i_t5_13), (29, vI (wrap64 (i_t5_13 + (1 : Int))))] [bx [1] (encSCost a0)]) (aN) ?_
             refine Tn ⟨(s_t3_17, (wrap64 (i_t5_13 + (1 : Int)))), (sI hJ18).symm, wT⟩
         · refine Holds.exit ?_
           refine thenQ.exit ?_
           have hoB15_ := hoB15 _ (sI hzB15).symm
           subst hoB15_
           refine thenQ.exit ?_
           refine blockQ.out ?_
           refine Tn ⟨s_t3_12, hJ6, wT⟩
       · rintro s_t3_7 hJ8
         replace hJ8 : r08_Text_J8 s_t3_7 = some r := hJ8
         unfold r08_Text_J8 at hJ8
         refine Holds.seq ?_
         refine Rg [.a, .a] (sl 47 [(3, vS s_t3_7), (45, vB (s_t3_7 == ([] : List UInt8)))] []) (aN) ?_
         refine iB hJ8 (fun b9 hJ8 => ?_) (fun b9 hJ8 => ?_)
         · refine Rg [.a] (sl 47 [(2, vS str_0)] []) (aN) ?_
           refine Holds.ret ?_
           refine Tr ?_
           exact bQ (vS str_0) (congrArg vS (sI hJ8))
         · refine Holds.skip ?_
           refine Tn ?_
           refine Rg [.a, .a] (sl 47 [(2, vS s_t3_7)] []) (aN) ?_
           refine Holds.ret ?_
           exact bQ (vS s_t3_7) (congrArg vS (sI hJ8))
end Go.PL
