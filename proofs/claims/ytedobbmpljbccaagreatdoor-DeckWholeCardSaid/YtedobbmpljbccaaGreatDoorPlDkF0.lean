/- Functions of the program, as partial functions in Lean, with proofs. -/
import Derived.Test.YtedobbmpljbccaaGreatDoorPlDkB
namespace Go.PL
open Go Go.RowKit Go.Proofs
set_option maxRecDepth 100000
set_option linter.all false
set_option maxHeartbeats 1000000
attribute [local irreducible] Holds thenQ blockQ
/-- cardgame/cardgameref02.low -/
def r02_low (a0 : Int) : Option (Bool) :=
 (some (if (decide ((97 : Int) ≤ a0)) = true then decide (a0 ≤ (122 : Int)) else false)).bind fun b1 =>
 some b1
def r02_low_C (a0 : Int) (r : Bool) : Prop := PCall Tryz.prog I0 73 [.c (.int .u8 a0)] (· = vB r)
theorem r02_low_ok {a0 : Int} {r : Bool} (h : r02_low a0 = some r) : r02_low_C a0 r := by
 refine PCall.body I0_stable (by kernel_rfl) Tryz.func73 rfl Tryz.ntmps73 (rs := [.tmp 2]) rfl rfl ?_
 intro w0 av old gv
 unfold r02_low at h
 refine Rg [.a] (sl 9 [(0, .c (.int .u8 a0))] []) (aN) ?_
 obtain ⟨b1, hb1, h⟩ := bS h
 refine Rg [.a, .a, .a, .a, .a, (.v (vB b1)), .a] (sl 9 [(2, vB b1)] []) (aG ((decide ((97 : Int) ≤ a0)) == true) <| aT (decide ((97 : Int) ≤ a0)) <| aB hb1 <| aN) ?_
 refine Holds.ret ?_
 exact bQ (vB b1) (congrArg vB (sI h))
def r08_Is_J5  : Option (Bool) :=
 some true
def r08_Is_B8 (a0 : SCost) (i_t3_7 : Int) : Option ((Int) ⊕ (Unit ⊕ Unit)) :=
 (if (decide (i_t3_7 < (5 : Int))) = true then
  (idx a0.Color.l i_t3_7).bind fun e10 =>
  (gd ((decide (e10 < (0 : Int))) == false) (idx a0.Color.l i_t3_7)).bind fun e11 =>
  (some (if (decide (e10 < (0 : Int))) = true then true else decide ((9 : Int) < e11))).bind fun b12 =>
  (if b12 = true then
   some (.inr (.inl ()))
  else
   some (.inl (wrap64 (i_t3_7 + (1 : Int)))))
 else
  some (.inr (.inr ())))
/-- cardgame/cardgameref08.Is -/
def r08_Is (a0 : SCost) : Option (Bool) :=
 (some (if (decide (a0.Generic < (0 : Int))) = true then true else decide ((99 : Int) < a0.Generic))).bind fun b1 =>
 (some (if b1 = true then true else decide (a0.X < (0 : Int)))).bind fun b2 =>
 (some (if b2 = true then true else decide ((2 : Int) < a0.X))).bind fun b3 =>
 (if b3 = true then
  some false
 else
  (iter (fun (v : Int) => r08_Is_B8 a0 v) FU (0 : Int)).bind (Sum.elim (fun o0 => some false) (fun o1 => r08_Is_J5)))
def r08_Is_C (a0 : SCost) (r : Bool) : Prop := PCall Tryz.prog I0 56 [vA encSCost a0] (· = vB r)
theorem r08_Is_ok {a0 : SCost} {r : Bool} (h : r08_Is a0 = some r) : r08_Is_C a0 r := by
 refine PCall.body I0_stable (by kernel_rfl) Tryz.func56 rfl Tryz.ntmps56 (rs := [.tmp 2]) rfl rfl ?_
 intro w0 av old gv
 unfold r08_Is at h
 refine Rg [.a, .a] (sl 38 [(1, vP [1] (0))] [bx [1] (encSCost a0)]) (aN) ?_
 refine Holds.seq ?_
 obtain ⟨b1, hb1, h⟩ := bS h
 obtain ⟨b2, hb2, h⟩ := bS h
 obtain ⟨b3, hb3, h⟩ := bS h
 refine Rg [.a, .a, .a, .a, .a, .a, .a, (.v (vB b1)), .a, .a, .a, .a, (.v (vB b2)), .a, .a, .a, .a, (.v (vB b3))] (sl 38 [(1, vP [1] (0)), (21, vB b3)] [bx [1] (encSCost a0)]) (aG ((decide (a0.Generic < (0 : Int))) == false) <| aG ((decide (a0.Generic < (0 : Int))) == false) <| aF (decide (a0.Generic < (0 : Int))) <| aB hb1 <| aG (b1 == false) <| aG (b1 == false) <| aF b1 <| aB hb2 <| aG (b2 == false) <| aG (b2 == false) <| aF b2 <| aB hb3 <| aN) ?_
 refine iB h (fun b4 h => ?_) (fun b4 h => ?_)
 · refine Rg [.a] (sl 38 [(2, vB false)] []) (aN) ?_
   refine Holds.ret ?_
   refine Tr ?_
   exact bQ (vB false) (congrArg vB (sI h))
 · refine Holds.skip ?_
   refine Tn ?_
   refine Sj (X := Unit) (fun v => (sl 38 [] [])) (fun v => r08_Is_J5 = some r) ?_ ?_
   · refine Rg [.a] (sl 38 [(1, vP [1] (0)), (3, vI (0 : Int))] [bx [1] (encSCost a0)]) (aN) ?_
     refine Holds.block ?_
     obtain ⟨oB8, hiB8, h⟩ := bS h
     refine It (fun (v : Int) => (sl 38 [(1, vP [1] (0)), (3, vI v)] [bx [1] (encSCost a0)])) hiB8 (wT) ?_
     rintro i_t3_7 zB8 hzB8 hoB8
     replace hzB8 : r08_Is_B8 a0 i_t3_7 = some zB8 := hzB8
     unfold r08_Is_B8 at hzB8
     refine Holds.seq ?_
     refine Rg [.a, .a] (sl 38 [(1, vP [1] (0)), (3, vI i_t3_7), (23, vB (decide (i_t3_7 < (5 : Int))))] [bx [1] (encSCost a0)]) (aN) ?_
     refine iB hzB8 (fun b9 hzB8 => ?_) (fun b9 hzB8 => ?_)
     · refine Holds.skip ?_
       refine Tn ?_
       refine Holds.seq ?_
       refine Holds.block ?_
       obtain ⟨e10, he10, hzB8⟩ := bS hzB8
       obtain ⟨e11, he11, hzB8⟩ := bS hzB8
       obtain ⟨b12, hb12, hzB8⟩ := bS hzB8
       refine Rg [.a, .a, .a, (.v (vI e10)), .a, .a, .a, .a, .a, (.v (vI e11)), .a, (.v (vB b12))] (sl 38 [(1, vP [1] (0)), (3, vI i_t3_7), (37, vB b12)] [bx [1] (encSCost a0)]) (aC (idx_b he10) <| aC (ald he10 (lenI .i64) (encSCost a0) 2 7 0 1 false (vI e10)) <| aC (Eq.refl (vI e10)) <| aC (fun hg : ((decide (e10 < (0 : Int))) == false) = true => aC (gi ((decide (e10 < (0 : Int))) == false)) <| aC (gi ((decide (e10 < (0 : Int))) == false)) <| aC (gidx_b he11 hg).1 <| aN) <| aC (fun hg : ((decide (e10 < (0 : Int))) == false) = true => aC (gi ((decide (e10 < (0 : Int))) == false)) <| aC (ald (gd_t he11 hg) (lenI .i64) (encSCost a0) 2 7 0 1 false (vI e11)) <| aC (Eq.refl (vI e11)) <| aN) <| aG ((decide (e10 < (0 : Int))) == false) <| aF (decide (e10 < (0 : Int))) <| aB hb12 <| aN) ?_
       refine iB hzB8 (fun b13 hzB8 => ?_) (fun b13 hzB8 => ?_)
       · refine Rg [.a] (sl 38 [(2, vB false)] []) (aN) ?_
         refine Holds.ret ?_
         refine blockQ.ret ?_
         refine Tr ?_
         have hoB8_ := hoB8 _ (sI hzB8).symm
         subst hoB8_
         replace h := sumL h
         refine Tr ?_
         refine blockQ.ret ?_
         refine Tr ?_
         exact bQ (vB false) (congrArg vB (sI h))
       · refine Holds.skip ?_
         refine blockQ.normal ?_
         refine Tn ?_
         refine Re [.a, .a, .a] (sl 38 [(1, vP [1] (0)), (3, vI (wrap64 (i_t3_7 + (1 : Int)))), (24, vI i_t3_7), (25, vI (wrap64 (i_t3_7 + (1 : Int)))), (37, vB b12)] [bx [1] (encSCost a0)]) (aN) ?_
         refine Tn ⟨(wrap64 (i_t3_7 + (1 : Int))), (sI hzB8).symm, wT⟩
     · refine Holds.exit ?_
       refine thenQ.exit ?_
       have hoB8_ := hoB8 _ (sI hzB8).symm
       subst hoB8_
       replace h := sumR h
       refine thenQ.exit ?_
       refine blockQ.out ?_
       refine Tn ⟨(), h, wT⟩
   · rintro _ hJ5
     replace hJ5 : r08_Is_J5 = some r := hJ5
     unfold r08_Is_J5 at hJ5
     refine Rg [.a] (sl 38 [(2, vB true)] []) (aN) ?_
     refine Holds.ret ?_
     exact bQ (vB true) (congrArg vB (sI hJ5))
/-- cardgame/cardgameref10.superWords -/
def r10_superWords : Option ((List (List UInt8))) :=
 some ([str_basic, str_unique] : List (List UInt8))
def r10_superWords_C (r : (List (List UInt8))) : Prop := PCall Tryz.prog I0 93 [] (· = vL eS r)
theorem r10_superWords_ok {r : (List (List UInt8))} (h : r10_superWords  = some r) : r10_superWords_C r := by
 refine PCall.body I0_stable (by kernel_rfl) Tryz.func93 rfl Tryz.ntmps93 (rs := [.tmp 0]) rfl rfl ?_
 intro w0 av old gv
 unfold r10_superWords at h
 refine Rg [.a] (sl 2 [] []) (aN) ?_
 refine Rg [.a, .a] (sl 2 [(0, vO [1])] [rw_ [1] 9 1 eS ([str_basic, str_unique] : List (List UInt8))]) (aN) ?_
 refine Holds.ret ?_
 exact bE (vO [1]) (vL eS ([str_basic, str_unique] : List (List UInt8))) (congrArg (vL eS) (sI h))
def r10_index_J1  : Option (Int) :=
 some (-1 : Int)
def r10_index_B5 (a0 : List (List UInt8)) (a1 : List UInt8) (i_t5_3 : Int) : Option ((Int) ⊕ (Int ⊕ Unit)) :=
 (if (decide (i_t5_3 < (a0.length : Int))) = true then
  (idx a0 i_t5_3).bind fun e7 =>
  (if (e7 == a1) = true then
   some (.inr (.inl i_t5_3))
  else
   some (.inl (wrap64 (i_t5_3 + (1 : Int)))))
 else
  some (.inr (.inr ())))
/-- cardgame/cardgameref10.index -/
def r10_index (a0 : List (List UInt8)) (a1 : List UInt8) : Option (Int) :=
 (iter (fun (v : Int) => r10_index_B5 a0 a1 v) FU (0 : Int)).bind (Sum.elim (fun o0 => some o0) (fun o1 => r10_index_J1))
def r10_index_C (a0 : List (List UInt8)) (a1 : List UInt8) (r : Int) : Prop := PCall Tryz.prog I0 92 [vL eS a0, vS a1] (· = vI r)
theorem r10_index_ok {a0 : List (List UInt8)} {a1 : List UInt8} {r : Int} (h : r10_index a0 a1 = some r) : r10_index_C a0 a1 r := by
 refine PCall.body I0_stable (by kernel_rfl) Tryz.func92 rfl Tryz.ntmps92 (rs := [.tmp 4]) rfl rfl ?_
 intro w0 av old gv
 unfold r10_index at h
 refine Rg [.a] (sl 19 [(0, vL eS a0), (1, vS a1)] []) (aN) ?_
 refine Sj (X := Unit) (fun v => (sl 19 [] [])) (fun v => r10_index_J1 = some r) ?_ ?_
 · refine Rg [.a] (sl 19 [(0, vL eS a0), (1, vS a1), (5, vI (0 : Int))] []) (aN) ?_
   refine Holds.block ?_
   obtain ⟨oB5, hiB5, h⟩ := bS h
   refine It (fun (v : Int) => (sl 19 [(0, vL eS a0), (1, vS a1), (5, vI v)] [])) hiB5 (wT) ?_
   rintro i_t5_3 zB5 hzB5 hoB5
   replace hzB5 : r10_index_B5 a0 a1 i_t5_3 = some zB5 := hzB5
   unfold r10_index_B5 at hzB5
   refine Holds.seq ?_
   refine Rg [.a, .a, .a, .a] (sl 19 [(0, vL eS a0), (1, vS a1), (5, vI i_t5_3), (9, vB (decide (i_t5_3 < (a0.length : Int))))] []) (aN) ?_
   refine iB hzB5 (fun b6 hzB5 => ?_) (fun b6 hzB5 => ?_)
   · refine Holds.skip ?_
     refine Tn ?_
     refine Holds.seq ?_
     refine Holds.block ?_
     obtain ⟨e7, he7, hzB5⟩ := bS hzB5
     refine Rg [.a, .a, .a, (.v (vS e7)), .a, .a] (sl 19 [(0, vL eS a0), (1, vS a1), (5, vI i_t5_3), (17, vB (e7 == a1))] []) (aC (idx_b he7) <| aC (eld he7 lenS 0 1 false (vS e7)) <| aC (Eq.refl (vS e7)) <| aN) ?_
     refine iB hzB5 (fun b8 hzB5 => ?_) (fun b8 hzB5 => ?_)
     · refine Rg [.a, .a] (sl 19 [(4, vI i_t5_3)] []) (aN) ?_
       refine Holds.ret ?_
       refine blockQ.ret ?_
       refine Tr ?_
       have hoB5_ := hoB5 _ (sI hzB5).symm
       subst hoB5_
       replace h := sumL h
       refine Tr ?_
       refine blockQ.ret ?_
       refine Tr ?_
       exact bQ (vI i_t5_3) (congrArg vI (sI h))
     · refine Holds.skip ?_
       refine blockQ.normal ?_
       refine Tn ?_
       refine Re [.a, .a, .a] (sl 19 [(0, vL eS a0), (1, vS a1), (5, vI (wrap64 (i_t5_3 + (1 : Int)))), (10, vI i_t5_3), (11, vI (wrap64 (i_t5_3 + (1 : Int)))), (17, vB (e7 == a1))] []) (aN) ?_
       refine Tn ⟨(wrap64 (i_t5_3 + (1 : Int))), (sI hzB5).symm, wT⟩
   · refine Holds.exit ?_
     refine thenQ.exit ?_
     have hoB5_ := hoB5 _ (sI hzB5).symm
     subst hoB5_
     replace h := sumR h
     refine thenQ.exit ?_
     refine blockQ.out ?_
     refine Tn ⟨(), h, wT⟩
 · rintro _ hJ1
   replace hJ1 : r10_index_J1 = some r := hJ1
   unfold r10_index_J1 at hJ1
   refine Rg [.a] (sl 19 [(4, vI (-1 : Int))] []) (aN) ?_
   refine Holds.ret ?_
   exact bQ (vI (-1 : Int)) (congrArg vI (sI hJ1))
/-- cardgame/cardgameref10.typeWords -/
def r10_typeWords : Option ((List (List UInt8))) :=
 some ([str_creature, str_instant, str_ritual, str_relic, str_charm, str_land] : List (List UInt8))
def r10_typeWords_C (r : (List (List UInt8))) : Prop := PCall Tryz.prog I0 94 [] (· = vL eS r)
theorem r10_typeWords_ok {r : (List (List UInt8))} (h : r10_typeWords  = some r) : r10_typeWords_C r := by
 refine PCall.body I0_stable (by kernel_rfl) Tryz.func94 rfl Tryz.ntmps94 (rs := [.tmp 0]) rfl rfl ?_
 intro w0 av old gv
 unfold r10_typeWords at h
 refine Rg [.a] (sl 2 [] []) (aN) ?_
 refine Rg [.a, .a] (sl 2 [(0, vO [1])] [rw_ [1] 9 1 eS ([str_creature, str_instant, str_ritual, str_relic, str_charm, str_land] : List (List UInt8))]) (aN) ?_
 refine Holds.ret ?_
 exact bE (vO [1]) (vL eS ([str_creature, str_instant, str_ritual, str_relic, str_charm, str_land] : List (List UInt8))) (congrArg (vL eS) (sI h))
def r10_bit_J2  (mask_t0_1 : Int) : Option (Bool) :=
 some ((Int.tmod mask_t0_1 (2 : Int)) == (1 : Int))
def r10_bit_B8 (a1 : Int) (mask_t0_5 : Int) (k_t5_6 : Int) : Option ((Int × Int) ⊕ (Int)) :=
 (if (decide (k_t5_6 < a1)) = true then
  some (.inl ((wrap64 (Int.tdiv mask_t0_5 (2 : Int))), (wrap64 (k_t5_6 + (1 : Int)))))
 else
  some (.inr mask_t0_5))
/-- cardgame/cardgameref10.bit -/
def r10_bit (a0 : Int) (a1 : Int) : Option (Bool) :=
 (iter (fun (v : Int × Int) => r10_bit_B8 a1 v.1 v.2) FU (a0, (0 : Int))).bind (fun o0 => r10_bit_J2 o0)
def r10_bit_C (a0 : Int) (a1 : Int) (r : Bool) : Prop := PCall Tryz.prog I0 75 [vI a0, vI a1] (· = vB r)
theorem r10_bit_ok {a0 : Int} {a1 : Int} {r : Bool} (h : r10_bit a0 a1 = some r) : r10_bit_C a0 a1 r := by
 refine PCall.body I0_stable (by kernel_rfl) Tryz.func75 rfl Tryz.ntmps75 (rs := [.tmp 4]) rfl rfl ?_
 intro w0 av old gv
 unfold r10_bit at h
 refine Rg [.a] (sl 16 [(0, vI a0), (1, vI a1)] []) (aN) ?_
 refine Sj (X := Int) (fun v => (sl 16 [(0, vI v)] [])) (fun v => r10_bit_J2 v = some r) ?_ ?_
 · refine Rg [.a] (sl 16 [(0, vI a0), (1, vI a1), (5, vI (0 : Int))] []) (aN) ?_
   refine Holds.block ?_
   obtain ⟨oB8, hiB8, h⟩ := bS h
   refine It (fun (v : Int × Int) => (sl 16 [(0, vI v.1), (1, vI a1), (5, vI v.2)] [])) hiB8 (wT) ?_
   rintro ⟨mask_t0_5, k_t5_6⟩ zB8 hzB8 hoB8
   replace hzB8 : r10_bit_B8 a1 mask_t0_5 k_t5_6 = some zB8 := hzB8
   unfold r10_bit_B8 at hzB8
   refine Holds.seq ?_
   refine Rg [.a, .a, .a] (sl 16 [(0, vI mask_t0_5), (1, vI a1), (5, vI k_t5_6), (8, vB (decide (k_t5_6 < a1)))] []) (aN) ?_
   refine iB hzB8 (fun b9 hzB8 => ?_) (fun b9 hzB8 => ?_)
   · refine Holds.skip ?_
     refine Tn ?_
     refine Holds.seq ?_
     refine Holds.block ?_
     refine Re [.a, .a, .a] (sl 16 [(0, vI (wrap64 (Int.tdiv mask_t0_5 (2 : Int)))), (1, vI a1), (5, vI k_t5_6), (8, vB (decide (k_t5_6 < a1))), (11, vI mask_t0_5), (12, vI (wrap64 (Int.tdiv mask_t0_5 (2 : Int))))] []) (aC (show (2 : Int) ≠ 0 from (by decide)) <| aN) ?_
     refine blockQ.normal ?_
     refine Tn ?_
     refine Re [.a, .a, .a] (sl 16 [(0, vI (wrap64 (Int.tdiv mask_t0_5 (2 : Int)))), (1, vI a1), (5, vI (wrap64 (k_t5_6 + (1 : Int)))), (8, vB (decide (k_t5_6 < a1))), (9, vI k_t5_6), (10, vI (wrap64 (k_t5_6 + (1 : Int)))), (11, vI mask_t0_5), (12, vI (wrap64 (Int.tdiv mask_t0_5 (2 : Int))))] []) (aN) ?_
     refine Tn ⟨((wrap64 (Int.tdiv mask_t0_5 (2 : Int))), (wrap64 (k_t5_6 + (1 : Int)))), (sI hzB8).symm, wT⟩
   · refine Holds.exit ?_
     refine thenQ.exit ?_
     have hoB8_ := hoB8 _ (sI hzB8).symm
     subst hoB8_
     refine thenQ.exit ?_
     refine blockQ.out ?_
     refine Tn ⟨mask_t0_5, h, wT⟩
 · rintro mask_t0_1 hJ2
   replace hJ2 : r10_bit_J2 mask_t0_1 = some r := hJ2
   unfold r10_bit_J2 at hJ2
   refine Rg [.a, .a, .a, .a] (sl 16 [(4, vB ((Int.tmod mask_t0_1 (2 : Int)) == (1 : Int)))] []) (aC (show (2 : Int) ≠ 0 from (by decide)) <| aN) ?_
   refine Holds.ret ?_
   exact bQ (vB ((Int.tmod mask_t0_1 (2 : Int)) == (1 : Int))) (congrArg vB (sI hJ2))
/-- cardgame/cardgameref11.Is -/
def r11_Is (a0 : Int) : Option (Bool) :=
 (some (if (decide ((0 : Int) ≤ a0)) = true then decide (a0 ≤ (131071 : Int)) else false)).bind fun b1 =>
 some b1
def r11_Is_C (a0 : Int) (r : Bool) : Prop := PCall Tryz.prog I0 58 [vI a0] (· = vB r)
theorem r11_Is_ok {a0 : Int} {r : Bool} (h : r11_Is a0 = some r) : r11_Is_C a0 r := by
 refine PCall.body I0_stable (by kernel_rfl) Tryz.func58 rfl Tryz.ntmps58 (rs := [.tmp 2]) rfl rfl ?_
 intro w0 av old gv
 unfold r11_Is at h
 refine Rg [.a] (sl 9 [(0, vI a0)] []) (aN) ?_
 obtain ⟨b1, hb1, h⟩ := bS h
 refine Rg [.a, .a, .a, .a, .a, (.v (vB b1)), .a] (sl 9 [(2, vB b1)] []) (aG ((decide ((0 : Int) ≤ a0)) == true) <| aT (decide ((0 : Int) ≤ a0)) <| aB hb1 <| aN) ?_
 refine Holds.ret ?_
 exact bQ (vB b1) (congrArg vB (sI h))
/-- cardgame/cardgameref21.creature -/
def r21_creature (a0 : SCard) : Option (Bool) :=
 some ((bAnd .i64 a0.Line.Types (1 : Int)) != (0 : Int))
def r21_creature_C (a0 : SCard) (r : Bool) : Prop := PCall Tryz.prog I0 59 [vA encSCard a0] (· = vB r)
theorem r21_creature_ok {a0 : SCard} {r : Bool} (h : r21_creature a0 = some r) : r21_creature_C a0 r := by
 refine PCall.body I0_stable (by kernel_rfl) Tryz.func59 rfl Tryz.ntmps59 (rs := [.tmp 2]) rfl rfl ?_
 intro w0 av old gv
 unfold r21_creature at h
 refine Rg [.a, .a] (sl 8 [(1, vP [1] (0))] [bx [1] (encSCard a0)]) (aN) ?_
 refine Rg [.a, .a, .a, .a, .a, .a] (sl 8 [(2, vB ((bAnd .i64 a0.Line.Types (1 : Int)) != (0 : Int)))] []) (aN) ?_
 refine Holds.ret ?_
 exact bQ (vB ((bAnd .i64 a0.Line.Types (1 : Int)) != (0 : Int))) (congrArg vB (sI h))
def r13_apart_J5  : Option (Bool) :=
 some true
def r13_apart_B12  (a_t0_9 : Int) (b_t1_10 : Int) (i_t7_11 : Int) : Option ((Int × Int × Int) ⊕ (Unit ⊕ Unit)) :=
 (if (decide (i_t7_11 < (6 : Int))) = true then
  (some (if ((Int.tmod a_t0_9 (2 : Int)) == (1 : Int)) = true then (Int.tmod b_t1_10 (2 : Int)) == (1 : Int) else false)).bind fun b14 =>
  (if b14 = true then
   some (.inr (.inl ()))
  else
   some (.inl ((wrap64 (Int.tdiv a_t0_9 (2 : Int))), (wrap64 (Int.tdiv b_t1_10 (2 : Int))), (wrap64 (i_t7_11 + (1 : Int))))))
 else
  some (.inr (.inr ())))
/-- cardgame/cardgameref13.apart -/
def r13_apart (a0 : Int) (a1 : Int) (a2 : Int) : Option (Bool) :=
 (some (if (decide (a0 < (0 : Int))) = true then true else decide (a2 < a0))).bind fun b1 =>
 (some (if b1 = true then true else decide (a1 < (0 : Int)))).bind fun b2 =>
 (some (if b2 = true then true else decide (a2 < a1))).bind fun b3 =>
 (if b3 = true then
  some false
 else
  (iter (fun (v : Int × Int × Int) => r13_apart_B12 v.1 v.2.1 v.2.2) FU (a0, a1, (0 : Int))).bind (Sum.elim (fun o0 => some false) (fun o1 => r13_apart_J5)))
def r13_apart_C (a0 : Int) (a1 : Int) (a2 : Int) (r : Bool) : Prop := PCall Tryz.prog I0 95 [vI a0, vI a1, vI a2] (· = vB r)
theorem r13_apart_ok {a0 : Int} {a1 : Int} {a2 : Int} {r : Bool} (h : r13_apart a0 a1 a2 = some r) : r13_apart_C a0 a1 a2 r := by
 refine PCall.body I0_stable (by kernel_rfl) Tryz.func95 rfl Tryz.ntmps95 (rs := [.tmp 6]) rfl rfl ?_
 intro w0 av old gv
 unfold r13_apart at h
 refine Rg [.a] (sl 40 [(0, vI a0), (1, vI a1), (2, vI a2)] []) (aN) ?_
 refine Holds.seq ?_
 obtain ⟨b1, hb1, h⟩ := bS h
 obtain ⟨b2, hb2, h⟩ := bS h
 obtain ⟨b3, hb3, h⟩ := bS h
 refine Rg [.a, .a, .a, .a, .a, .a, (.v (vB b1)), .a, .a, .a, (.v (vB b2)), .a, .a, .a, .a, (.v (vB b3))] (sl 40 [(0, vI a0), (1, vI a1), (23, vB b3)] []) (aH ((decide (a0 < (0 : Int))) == false) <| aF (decide (a0 < (0 : Int))) <| aB hb1 <| aG (b1 == false) <| aF b1 <| aB hb2 <| aH (b2 == false) <| aF b2 <| aB hb3 <| aN) ?_
 refine iB h (fun b4 h => ?_) (fun b4 h => ?_)
 · refine Rg [.a] (sl 40 [(6, vB false)] []) (aN) ?_
   refine Holds.ret ?_
   refine Tr ?_
   exact bQ (vB false) (congrArg vB (sI h))
 · refine Holds.skip ?_
   refine Tn ?_
   refine Sj (X := Unit) (fun v => (sl 40 [] [])) (fun v => r13_apart_J5 = some r) ?_ ?_
   · refine Rg [.a] (sl 40 [(0, vI a0), (1, vI a1), (7, vI (0 : Int))] []) (aN) ?_
     refine Holds.block ?_
     obtain ⟨oB12, hiB12, h⟩ := bS h
     refine It (fun (v : Int × Int × Int) => (sl 40 [(0, vI v.1), (1, vI v.2.1), (7, vI v.2.2)] [])) hiB12 (wT) ?_
     rintro ⟨a_t0_9, b_t1_10, i_t7_11⟩ zB12 hzB12 hoB12
     replace hzB12 : r13_apart_B12 a_t0_9 b_t1_10 i_t7_11 = some zB12 := hzB12
     unfold r13_apart_B12 at hzB12
     refine Holds.seq ?_
     refine Rg [.a, .a] (sl 40 [(0, vI a_t0_9), (1, vI b_t1_10), (7, vI i_t7_11), (25, vB (decide (i_t7_11 < (6 : Int))))] []) (aN) ?_
     refine iB hzB12 (fun b13 hzB12 => ?_) (fun b13 hzB12 => ?_)
     · refine Holds.skip ?_
       refine Tn ?_
       refine Holds.seq ?_
       refine Holds.block ?_
       refine Holds.seq ?_
       obtain ⟨b14, hb14, hzB12⟩ := bS hzB12
       refine Rg [.a, .a, .a, .a, .a, .a, .a, (.v (vB b14))] (sl 40 [(0, vI a_t0_9), (1, vI b_t1_10), (7, vI i_t7_11), (35, vB b14)] []) (aC (show (2 : Int) ≠ 0 from (by decide)) <| aC (fun hg : (((Int.tmod a_t0_9 (2 : Int)) == (1 : Int)) == true) = true => aC (gi (((Int.tmod a_t0_9 (2 : Int)) == (1 : Int)) == true)) <| aC (show (2 : Int) ≠ 0 from (by decide)) <| aN) <| aG (((Int.tmod a_t0_9 (2 : Int)) == (1 : Int)) == true) <| aT ((Int.tmod a_t0_9 (2 : Int)) == (1 : Int)) <| aB hb14 <| aN) ?_
       refine iB hzB12 (fun b15 hzB12 => ?_) (fun b15 hzB12 => ?_)
       · refine Rg [.a] (sl 40 [(6, vB false)] []) (aN) ?_
         refine Holds.ret ?_
         refine Tr ?_
         refine blockQ.ret ?_
         refine Tr ?_
         have hoB12_ := hoB12 _ (sI hzB12).symm
         subst hoB12_
         replace h := sumL h
         refine Tr ?_
         refine blockQ.ret ?_
         refine Tr ?_
         exact bQ (vB false) (congrArg vB (sI h))
       · refine Holds.skip ?_
         refine Tn ?_
         refine Rg [.a, .a, .a] (sl 40 [(0, vI (wrap64 (Int.tdiv a_t0_9 (2 : Int)))), (1, vI b_t1_10), (7, vI i_t7_11)] []) (aC (show (2 : Int) ≠ 0 from (by decide)) <| aN) ?_
         refine Re [.a, .a, .a] (sl 40 [(0, vI (wrap64 (Int.tdiv a_t0_9 (2 : Int)))), (1, vI (wrap64 (Int.tdiv b_t1_10 (2 : Int)))), (7, vI i_t7_11), (38, vI b_t1_10), (39, vI (wrap64 (Int.tdiv b_t1_10 (2 : Int))))] []) (aC (show (2 : Int) ≠ 0 from (by decide)) <| aN) ?_
         refine blockQ.normal ?_
         refine Tn ?_
         refine Re [.a, .a, .a] (sl 40 [(0, vI (wrap64 (Int.tdiv a_t0_9 (2 : Int)))), (1, vI (wrap64 (Int.tdiv b_t1_10 (2 : Int)))), (7, vI (wrap64 (i_t7_11 + (1 : Int)))), (26, vI i_t7_11), (27, vI (wrap64 (i_t7_11 + (1 : Int)))), (38, vI b_t1_10), (39, vI (wrap64 (Int.tdiv b_t1_10 (2 : Int))))] []) (aN) ?_
         refine Tn ⟨((wrap64 (Int.tdiv a_t0_9 (2 : Int))), (wrap64 (Int.tdiv b_t1_10 (2 : Int))), (wrap64 (i_t7_11 + (1 : Int)))), (sI hzB12).symm, wT⟩
     · refine Holds.exit ?_
       refine thenQ.exit ?_
       have hoB12_ := hoB12 _ (sI hzB12).symm
       subst hoB12_
       replace h := sumR h
       refine thenQ.exit ?_
       refine blockQ.out ?_
       refine Tn ⟨(), h, wT⟩
   · rintro _ hJ5
     replace hJ5 : r13_apart_J5 = some r := hJ5
     unfold r13_apart_J5 at hJ5
     refine Rg [.a] (sl 40 [(6, vB true)] []) (aN) ?_
     refine Holds.ret ?_
     exact bQ (vB true) (congrArg vB (sI hJ5))
/-- cardgame/cardgameref13.bound -/
def r13_bound (a0 : SBound) : Option (Bool) :=
 (some (if (decide (a0.Kind < (0 : Int))) = true then true else decide ((3 : Int) < a0.Kind))).bind fun b1 =>
 (some (if b1 = true then true else decide (a0.N < (0 : Int)))).bind fun b2 =>
 (some (if b2 = true then true else decide ((1000000 : Int) < a0.N))).bind fun b3 =>
 (if b3 = true then
  some false
 else
  (some (if (a0.Kind != (0 : Int)) = true then true else a0.N == (0 : Int))).bind fun b5 =>
  some b5)
def r13_bound_C (a0 : SBound) (r : Bool) : Prop := PCall Tryz.prog I0 96 [vA encSBound a0] (· = vB r)
theorem r13_bound_ok {a0 : SBound} {r : Bool} (h : r13_bound a0 = some r) : r13_bound_C a0 r := by
 refine PCall.body I0_stable (by kernel_rfl) Tryz.func96 rfl Tryz.ntmps96 (rs := [.tmp 2]) rfl rfl ?_
 intro w0 av old gv
 unfold r13_bound at h
 refine Rg [.a, .a] (sl 29 [(1, vP [1] (0))] [bx [1] (encSBound a0)]) (aN) ?_
 refine Holds.seq ?_
 obtain ⟨b1, hb1, h⟩ := bS h
 obtain ⟨b2, hb2, h⟩ := bS h
 obtain ⟨b3, hb3, h⟩ := bS h
 refine Rg [.a, .a, .a, .a, .a, .a, .a, (.v (vB b1)), .a, .a, .a, .a, (.v (vB b2)), .a, .a, .a, .a, (.v (vB b3))] (sl 29 [(1, vP [1] (0)), (20, vB b3)] [bx [1] (encSBound a0)]) (aG ((decide (a0.Kind < (0 : Int))) == false) <| aG ((decide (a0.Kind < (0 : Int))) == false) <| aF (decide (a0.Kind < (0 : Int))) <| aB hb1 <| aG (b1 == false) <| aG (b1 == false) <| aF b1 <| aB hb2 <| aG (b2 == false) <| aG (b2 == false) <| aF b2 <| aB hb3 <| aN) ?_
 refine iB h (fun b4 h => ?_) (fun b4 h => ?_)
 · refine Rg [.a] (sl 29 [(2, vB false)] []) (aN) ?_
   refine Holds.ret ?_
   refine Tr ?_
   exact bQ (vB false) (congrArg vB (sI h))
 · refine Holds.skip ?_
   refine Tn ?_
   obtain ⟨b5, hb5, h⟩ := bS h
   refine Rg [.a, .a, .a, .a, .a, .a, .a, (.v (vB b5)), .a] (sl 29 [(2, vB b5)] []) (aG ((a0.Kind != (0 : Int)) == false) <| aG ((a0.Kind != (0 : Int)) == false) <| aF (a0.Kind != (0 : Int)) <| aB hb5 <| aN) ?_
   refine Holds.ret ?_
   exact bQ (vB b5) (congrArg vB (sI h))
def r15_used_J2  (b1_1 : SMod) : Option (SMod) :=
 some b1_1
def r15_used_J11 (a0 : SMod) (vt24_10 : Bool) : Option (SMod) :=
 (if vt24_10 = true then
  r15_used_J2 ({ { { a0 with Kind := (0 : Int) } with N := (0 : Int) } with M := (0 : Int) })
 else
  r15_used_J2 ({ a0 with Kind := (0 : Int) }))
def r15_used_J7 (a0 : SMod) (vt16_6 : Bool) : Option (SMod) :=
 (if vt16_6 = true then
  r15_used_J2 ({ { a0 with Kind := (0 : Int) } with Sub := ([] : List UInt8) })
 else
  (if (a0.Kind == (11 : Int)) = true then
   r15_used_J2 ({ { a0 with Kind := (0 : Int) } with Filter := (⟨(0 : Int), (0 : Int), (0 : Int), (0 : Int), (0 : Int), (0 : Int), (0 : Int), [], (0 : Int), (0 : Int), (⟨(0 : Int), (0 : Int)⟩ : SBound), (⟨(0 : Int), (0 : Int)⟩ : SBound), (⟨(0 : Int), (0 : Int)⟩ : SBound)⟩ : SFilter) })
  else
   (if (a0.Kind == (12 : Int)) = true then
    r15_used_J11 a0 (a0.Kind == (12 : Int))
   else
    r15_used_J11 a0 (a0.Kind == (13 : Int)))))
def r15_used_J4 (a0 : SMod) (vt8_3 : Bool) : Option (SMod) :=
 (if vt8_3 = true then
  r15_used_J2 ({ { a0 with Kind := (0 : Int) } with N := (0 : Int) })
 else
  (if (a0.Kind == (4 : Int)) = true then
   r15_used_J7 a0 (a0.Kind == (4 : Int))
  else
   r15_used_J7 a0 (a0.Kind == (5 : Int))))
/-- cardgame/cardgameref15.used -/
def r15_used (a0 : SMod) : Option (SMod) :=
 (if (a0.Kind == (2 : Int)) = true then
  r15_used_J4 a0 (a0.Kind == (2 : Int))
 else
  (if (a0.Kind == (3 : Int)) = true then
   r15_used_J4 a0 (a0.Kind == (3 : Int))
  else
   (if (a0.Kind == (6 : Int)) = true then
    r15_used_J4 a0 (a0.Kind == (6 : Int))
   else
    (if (a0.Kind == (7 : Int)) = true then
     r15_used_J4 a0 (a0.Kind == (7 : Int))
    else
     (if (a0.Kind == (8 : Int)) = true then
      r15_used_J4 a0 (a0.Kind == (8 : Int))
     else
      r15_used_J4 a0 (a0.Kind == (9 : Int)))))))
def r15_used_C (a0 : SMod) (r : SMod) : Prop := PCall Tryz.prog I0 114 [vA encSMod a0] (· = vA encSMod r)
theorem r15_used_ok {a0 : SMod} {r : SMod} (h : r15_used a0 = some r) : r15_used_C a0 r := by
 refine PCall.body I0_stable (by kernel_rfl) Tryz.func114 rfl Tryz.ntmps114 (rs := [.cell 2 152]) rfl rfl ?_
 intro w0 av old gv
 unfold r15_used at h
 refine Rg [.a, .a] (sl 30 [(1, vP [1] (0)), (2, vP [2] (0))] [bx [2] [.int .i64 (0 : Int), .int .i64 (0 : Int), .int .i64 (0 : Int), .str ([]), .int .i64 (0 : Int), .int .i64 (0 : Int), .int .i64 (0 : Int), .int .i64 (0 : Int), .int .i64 (0 : Int), .int .i64 (0 : Int), .int .i64 (0 : Int), .str ([]), .int .i64 (0 : Int), .int .i64 (0 : Int), .int .i64 (0 : Int), .int .i64 (0 : Int), .int .i64 (0 : Int), .int .i64 (0 : Int), .int .i64 (0 : Int), .int .i64 (0 : Int)], bx [1] (encSMod a0)]) (aN) ?_
 refine Rg [.a, .a, .a] (sl 30 [(1, vP [1] (0)), (2, vP [2] (0)), (3, vI a0.Kind)] [bx [2] [.int .i64 (0 : Int), .int .i64 (0 : Int), .int .i64 (0 : Int), .str ([]), .int .i64 (0 : Int), .int .i64 (0 : Int), .int .i64 (0 : Int), .int .i64 (0 : Int), .int .i64 (0 : Int), .int .i64 (0 : Int), .int .i64 (0 : Int), .str ([]), .int .i64 (0 : Int), .int .i64 (0 : Int), .int .i64 (0 : Int), .int .i64 (0 : Int), .int .i64 (0 : Int), .int .i64 (0 : Int), .int .i64 (0 : Int), .int .i64 (0 : Int)], bx [1] (encSMod a0)]) (aN) ?_
 refine Rg [.a, .a] (sl 30 [(1, vP [1] (0)), (2, vP [2] (0)), (3, vI a0.Kind)] [bx [2] [.int .i64 (0 : Int), .int .i64 (0 : Int), .int .i64 (0 : Int), .str ([]), .int .i64 (0 : Int), .int .i64 (0 : Int), .int .i64 (0 : Int), .int .i64 (0 : Int), .int .i64 (0 : Int), .int .i64 (0 : Int), .int .i64 (0 : Int), .str ([]), .int .i64 (0 : Int), .int .i64 (0 : Int), .int .i64 (0 : Int), .int .i64 (0 : Int), .int .i64 (0 : Int), .int .i64 (0 : Int), .int .i64 (0 : Int), .int .i64 (0 : Int)], bx [1] (encSMod ({ a0 with Kind := (0 : Int) }))]) (aN) ?_
 refine Sj (X := SMod) (fun v => (sl 30 [(1, vP [1] (0)), (2, vP [2] (0))] [bx [2] [.int .i64 (0 : Int), .int .i64 (0 : Int), .int .i64 (0 : Int), .str ([]), .int .i64 (0 : Int), .int .i64 (0 : Int), .int .i64 (0 : Int), .int .i64 (0 : Int), .int .i64 (0 : Int), .int .i64 (0 : Int), .int .i64 (0 : Int), .str ([]), .int .i64 (0 : Int), .int .i64 (0 : Int), .int .i64 (0 : Int), .int .i64 (0 : Int), .int .i64 (0 : Int), .int .i64 (0 : Int), .int .i64 (0 : Int), .int .i64 (0 : Int)], bx [1] (encSMod v)])) (fun v => r15_used_J2 v = some r) ?_ ?_
 · refine Rg [.a] (sl 30 [(1, vP [1] (0)), (2, vP [2] (0)), (7, vI a0.Kind)] [bx [2] [.int .i64 (0 : Int), .int .i64 (0 : Int), .int .i64 (0 : Int), .str ([]), .int .i64 (0 : Int), .int .i64 (0 : Int), .int .i64 (0 : Int), .int .i64 (0 : Int), .int .i64 (0 : Int), .int .i64 (0 : Int), .int .i64 (0 : Int), .str ([]), .int .i64 (0 : Int), .int .i64 (0 : Int), .int .i64 (0 : Int), .int .i64 (0 : Int), .int .i64 (0 : Int), .int .i64 (0 : Int), .int .i64 (0 : Int), .int .i64 (0 : Int)], bx [1] (encSMod ({ a0 with Kind := (0 : Int) }))]) (aN) ?_
   refine Holds.block ?_
   refine Sj (X := Bool) (fun v => (sl 30 [(1, vP [1] (0)), (2, vP [2] (0)), (7, vI a0.Kind), (8, vB v)] [bx [2] [.int .i64 (0 : Int), .int .i64 (0 : Int), .int .i64 (0 : Int), .str ([]), .int .i64 (0 : Int), .int .i64 (0 : Int), .int .i64 (0 : Int), .int .i64 (0 : Int), .int .i64 (0 : Int), .int .i64 (0 : Int), .int .i64 (0 : Int), .str ([]), .int .i64 (0 : Int), .int .i64 (0 : Int), .int .i64 (0 : Int), .int .i64 (0 : Int), .int .i64 (0 : Int), .int .i64 (0 : Int), .int .i64 (0 : Int), .int .i64 (0 : Int)], bx [1] (encSMod ({ a0 with Kind := (0 : Int) }))])) (fun v => r15_used_J4 a0 v = some r) ?_ ?_
   · refine Rg [.a, .a] (sl 30 [(1, vP [1] (0)), (2, vP [2] (0)), (7, vI a0.Kind), (8, vB (a0.Kind == (2 : Int)))] [bx [2] [.int .i64 (0 : Int), .int .i64 (0 : Int), .int .i64 (0 : Int), .str ([]), .int .i64 (0 : Int), .int .i64 (0 : Int), .int .i64 (0 : Int), .int .i64 (0 : Int), .int .i64 (0 : Int), .int .i64 (0 : Int), .int .i64 (0 : Int), .str ([]), .int .i64 (0 : Int), .int .i64 (0 : Int), .int .i64 (0 : Int), .int .i64 (0 : Int), .int .i64 (0 : Int), .int .i64 (0 : Int), .int .i64 (0 : Int), .int .i64 (0 : Int)], bx [1] (encSMod ({ a0 with Kind := (0 : Int) }))]) (aN) ?_
     refine iB h (fun b15 h => ?_) (fun b15 h => ?_)
     · refine Holds.skip ?_
       refine Tn ⟨(a0.Kind == (2 : Int)), h, wT⟩
     · refine Rg [.a, .a] (sl 30 [(1, vP [1] (0)), (2, vP [2] (0)), (7, vI a0.Kind), (8, vB (a0.Kind == (3 : Int)))] [bx [2] [.int .i64 (0 : Int), .int .i64 (0 : Int), .int .i64 (0 : Int), .str ([]), .int .i64 (0 : Int), .int .i64 (0 : Int), .int .i64 (0 : Int), .int .i64 (0 : Int), .int .i64 (0 : Int), .int .i64 (0 : Int), .int .i64 (0 : Int), .str ([]), .int .i64 (0 : Int), .int .i64 (0 : Int), .int .i64 (0 : Int), .int .i64 (0 : Int), .int .i64 (0 : Int), .int .i64 (0 : Int), .int .i64 (0 : Int), .int .i64 (0 : Int)], bx [1] (encSMod ({ a0 with Kind := (0 : Int) }))]) (aN) ?_
       refine iB h (fun b16 h => ?_) (fun b16 h => ?_)
       · refine Holds.skip ?_
         refine Tn ⟨(a0.Kind == (3 : Int)), h, wT⟩
       · refine Rg [.a, .a] (sl 30 [(1, vP [1] (0)), (2, vP [2] (0)), (7, vI a0.Kind), (8, vB (a0.Kind == (6 : Int)))] [bx [2] [.int .i64 (0 : Int), .int .i64 (0 : Int), .int .i64 (0 : Int), .str ([]), .int .i64 (0 : Int), .int .i64 (0 : Int), .int .i64 (0 : Int), .int .i64 (0 : Int), .int .i64 (0 : Int), .int .i64 (0 : Int), .int .i64 (0 : Int), .str ([]), .int .i64 (0 : Int), .int .i64 (0 : Int), .int .i64 (0 : Int), .int .i64 (0 : Int), .int .i64 (0 : Int), .int .i64 (0 : Int), .int .i64 (0 : Int), .int .i64 (0 : Int)], bx [1] (encSMod ({ a0 with Kind := (0 : Int) }))]) (aN) ?_
         refine iB h (fun b17 h => ?_) (fun b17 h => ?_)
         · refine Holds.skip ?_
           refine Tn ⟨(a0.Kind == (6 : Int)), h, wT⟩
         · refine Rg [.a, .a] (sl 30 [(1, vP [1] (0)), (2, vP [2] (0)), (7, vI a0.Kind), (8, vB (a0.Kind == (7 : Int)))] [bx [2] [.int .i64 (0 : Int), .int .i64 (0 : Int), .int .i64 (0 : Int), .str ([]), .int .i64 (0 : Int), .int .i64 (0 : Int), .int .i64 (0 : Int), .int .i64 (0 : Int), .int .i64 (0 : Int), .int .i64 (0 : Int), .int .i64 (0 : Int), .str ([]), .int .i64 (0 : Int), .int .i64 (0 : Int), .int .i64 (0 : Int), .int .i64 (0 : Int), .int .i64 (0 : Int), .int .i64 (0 : Int), .int .i64 (0 : Int), .int .i64 (0 : Int)], bx [1] (encSMod ({ a0 with Kind := (0 : Int) }))]) (aN) ?_
           refine iB h (fun b18 h => ?_) (fun b18 h => ?_)
           · refine Holds.skip ?_
             refine Tn ⟨(a0.Kind == (7 : Int)), h, wT⟩
           · refine Rg [.a, .a] (sl 30 [(1, vP [1] (0)), (2, vP [2] (0)), (7, vI a0.Kind), (8, vB (a0.Kind == (8 : Int)))] [bx [2] [.int .i64 (0 : Int), .int .i64 (0 : Int), .int .i64 (0 : Int), .str ([]), .int .i64 (0 : Int), .int .i64 (0 : Int), .int .i64 (0 : Int), .int .i64 (0 : Int), .int .i64 (0 : Int), .int .i64 (0 : Int), .int .i64 (0 : Int), .str ([]), .int .i64 (0 : Int), .int .i64 (0 : Int), .int .i64 (0 : Int), .int .i64 (0 : Int), .int .i64 (0 : Int), .int .i64 (0 : Int), .int .i64 (0 : Int), .int .i64 (0 : Int)], bx [1] (encSMod ({ a0 with Kind := (0 : Int) }))]) (aN) ?_
             refine iB h (fun b19 h => ?_) (fun b19 h => ?_)
             · refine Holds.skip ?_
               refine Tn ⟨(a0.Kind == (8 : Int)), h, wT⟩
             · refine Re [.a, .a] (sl 30 [(1, vP [1] (0)), (2, vP [2] (0)), (7, vI a0.Kind), (8, vB (a0.Kind == (9 : Int))), (14, vB (a0.Kind == (9 : Int)))] [bx [2] [.int .i64 (0 : Int), .int .i64 (0 : Int), .int .i64 (0 : Int), .str ([]), .int .i64 (0 : Int), .int .i64 (0 : Int), .int .i64 (0 : Int), .int .i64 (0 : Int), .int .i64 (0 : Int), .int .i64 (0 : Int), .int .i64 (0 : Int), .str ([]), .int .i64 (0 : Int), .int .i64 (0 : Int), .int .i64 (0 : Int), .int .i64 (0 : Int), .int .i64 (0 : Int), .int .i64 (0 : Int), .int .i64 (0 : Int), .int .i64 (0 : Int)], bx [1] (encSMod ({ a0 with Kind := (0 : Int) }))]) (aN) ?_
               refine Tn ⟨(a0.Kind == (9 : Int)), h, wT⟩
   · rintro vt8_3 hJ4
     replace hJ4 : r15_used_J4 a0 vt8_3 = some r := hJ4
     unfold r15_used_J4 at hJ4
     refine iB hJ4 (fun b5 hJ4 => ?_) (fun b5 hJ4 => ?_)
     · refine Re [.a, .a] (sl 30 [(1, vP [1] (0)), (2, vP [2] (0)), (7, vI a0.Kind), (8, vB vt8_3), (15, vP [1] (1))] [bx [2] [.int .i64 (0 : Int), .int .i64 (0 : Int), .int .i64 (0 : Int), .str ([]), .int .i64 (0 : Int), .int .i64 (0 : Int), .int .i64 (0 : Int), .int .i64 (0 : Int), .int .i64 (0 : Int), .int .i64 (0 : Int), .int .i64 (0 : Int), .str ([]), .int .i64 (0 : Int), .int .i64 (0 : Int), .int .i64 (0 : Int), .int .i64 (0 : Int), .int .i64 (0 : Int), .int .i64 (0 : Int), .int .i64 (0 : Int), .int .i64 (0 : Int)], bx [1] (encSMod ({ { a0 with Kind := (0 : Int) } with N := (0 : Int) }))]) (aN) ?_
       refine blockQ.normal ?_
       refine Tn ⟨({ { a0 with Kind := (0 : Int) } with N := (0 : Int) }), hJ4, wT⟩
     · refine Sj (X := Bool) (fun v => (sl 30 [(1, vP [1] (0)), (2, vP [2] (0)), (7, vI a0.Kind), (16, vB v)] [bx [2] [.int .i64 (0 : Int), .int .i64 (0 : Int), .int .i64 (0 : Int), .str ([]), .int .i64 (0 : Int), .int .i64 (0 : Int), .int .i64 (0 : Int), .int .i64 (0 : Int), .int .i64 (0 : Int), .int .i64 (0 : Int), .int .i64 (0 : Int), .str ([]), .int .i64 (0 : Int), .int .i64 (0 : Int), .int .i64 (0 : Int), .int .i64 (0 : Int), .int .i64 (0 : Int), .int .i64 (0 : Int), .int .i64 (0 : Int), .int .i64 (0 : Int)], bx [1] (encSMod ({ a0 with Kind := (0 : Int) }))])) (fun v => r15_used_J7 a0 v = some r) ?_ ?_
       · refine Rg [.a, .a] (sl 30 [(1, vP [1] (0)), (2, vP [2] (0)), (7, vI a0.Kind), (16, vB (a0.Kind == (4 : Int)))] [bx [2] [.int .i64 (0 : Int), .int .i64 (0 : Int), .int .i64 (0 : Int), .str ([]), .int .i64 (0 : Int), .int .i64 (0 : Int), .int .i64 (0 : Int), .int .i64 (0 : Int), .int .i64 (0 : Int), .int .i64 (0 : Int), .int .i64 (0 : Int), .str ([]), .int .i64 (0 : Int), .int .i64 (0 : Int), .int .i64 (0 : Int), .int .i64 (0 : Int), .int .i64 (0 : Int), .int .i64 (0 : Int), .int .i64 (0 : Int), .int .i64 (0 : Int)], bx [1] (encSMod ({ a0 with Kind := (0 : Int) }))]) (aN) ?_
         refine iB hJ4 (fun b14 hJ4 => ?_) (fun b14 hJ4 => ?_)
         · refine Holds.skip ?_
           refine Tn ⟨(a0.Kind == (4 : Int)), hJ4, wT⟩
         · refine Re [.a, .a] (sl 30 [(1, vP [1] (0)), (2, vP [2] (0)), (7, vI a0.Kind), (16, vB (a0.Kind == (5 : Int))), (18, vB (a0.Kind == (5 : Int)))] [bx [2] [.int .i64 (0 : Int), .int .i64 (0 : Int), .int .i64 (0 : Int), .str ([]), .int .i64 (0 : Int), .int .i64 (0 : Int), .int .i64 (0 : Int), .int .i64 (0 : Int), .int .i64 (0 : Int), .int .i64 (0 : Int), .int .i64 (0 : Int), .str ([]), .int .i64 (0 : Int), .int .i64 (0 : Int), .int .i64 (0 : Int), .int .i64 (0 : Int), .int .i64 (0 : Int), .int .i64 (0 : Int), .int .i64 (0 : Int), .int .i64 (0 : Int)], bx [1] (encSMod ({ a0 with Kind := (0 : Int) }))]) (aN) ?_
           refine Tn ⟨(a0.Kind == (5 : Int)), hJ4, wT⟩
       · rintro vt16_6 hJ7
         replace hJ7 : r15_used_J7 a0 vt16_6 = some r := hJ7
         unfold r15_used_J7 at hJ7
         refine iB hJ7 (fun b8 hJ7 => ?_) (fun b8 hJ7 => ?_)
         · refine Re [.a, .a] (sl 30 [(1, vP [1] (0)), (2, vP [2] (0)), (7, vI a0.Kind), (16, vB vt16_6), (19, vP [1] (3))] [bx [2] [.int .i64 (0 : Int), .int .i64 (0 : Int), .int .i64 (0 : Int), .str ([]), .int .i64 (0 : Int), .int .i64 (0 : Int), .int .i64 (0 : Int), .int .i64 (0 : Int), .int .i64 (0 : Int), .int .i64 (0 : Int), .int .i64 (0 : Int), .str ([]), .int .i64 (0 : Int), .int .i64 (0 : Int), .int .i64 (0 : Int), .int .i64 (0 : Int), .int .i64 (0 : Int), .int .i64 (0 : Int), .int .i64 (0 : Int), .int .i64 (0 : Int)], bx [1] (encSMod ({ { a0 with Kind := (0 : Int) } with Sub := ([] : List UInt8) }))]) (aN) ?_
           refine blockQ.normal ?_
           refine Tn ⟨({ { a0 with Kind := (0 : Int) } with Sub := ([] : List UInt8) }), hJ7, wT⟩
         · refine Rg [.a, .a] (sl 30 [(1, vP [1] (0)), (2, vP [2] (0)), (7, vI a0.Kind), (20, vB (a0.Kind == (11 : Int)))] [bx [2] [.int .i64 (0 : Int), .int .i64 (0 : Int), .int .i64 (0 : Int), .str ([]), .int .i64 (0 : Int), .int .i64 (0 : Int), .int .i64 (0 : Int), .int .i64 (0 : Int), .int .i64 (0 : Int), .int .i64 (0 : Int), .int .i64 (0 : Int), .str ([]), .int .i64 (0 : Int), .int .i64 (0 : Int), .int .i64 (0 : Int), .int .i64 (0 : Int), .int .i64 (0 : Int), .int .i64 (0 : Int), .int .i64 (0 : Int), .int .i64 (0 : Int)], bx [1] (encSMod ({ a0 with Kind := (0 : Int) }))]) (aN) ?_
           refine iB hJ7 (fun b9 hJ7 => ?_) (fun b9 hJ7 => ?_)
           · refine Re [.a, .a, .a] (sl 30 [(1, vP [1] (0)), (2, vP [2] (0)), (7, vI a0.Kind), (20, vB (a0.Kind == (11 : Int))), (22, .agg [.int .i64 (0 : Int), .int .i64 (0 : Int), .int .i64 (0 : Int), .int .i64 (0 : Int), .int .i64 (0 : Int), .int .i64 (0 : Int), .int .i64 (0 : Int), .str ([]), .int .i64 (0 : Int), .int .i64 (0 : Int), .int .i64 (0 : Int), .int .i64 (0 : Int), .int .i64 (0 : Int), .int .i64 (0 : Int), .int .i64 (0 : Int), .int .i64 (0 : Int)]), (23, vP [1] (4))] [bx [2] [.int .i64 (0 : Int), .int .i64 (0 : Int), .int .i64 (0 : Int), .str ([]), .int .i64 (0 : Int), .int .i64 (0 : Int), .int .i64 (0 : Int), .int .i64 (0 : Int), .int .i64 (0 : Int), .int .i64 (0 : Int), .int .i64 (0 : Int), .str ([]), .int .i64 (0 : Int), .int .i64 (0 : Int), .int .i64 (0 : Int), .int .i64 (0 : Int), .int .i64 (0 : Int), .int .i64 (0 : Int), .int .i64 (0 : Int), .int .i64 (0 : Int)], bx [1] (encSMod ({ { a0 with Kind := (0 : Int) } with Filter := (⟨(0 : Int), (0 : Int), (0 : Int), (0 : Int), (0 : Int), (0 : Int), (0 : Int), [], (0 : Int), (0 : Int), (⟨(0 : Int), (0 : Int)⟩ : SBound), (⟨(0 : Int), (0 : Int)⟩ : SBound), (⟨(0 : Int), (0 : Int)⟩ : SBound)⟩ : SFilter) }))]) (aC (And.intro trivial okp94) <| aN) ?_
             refine blockQ.normal ?_
             refine Tn ⟨({ { a0 with Kind := (0 : Int) } with Filter := (⟨(0 : Int), (0 : Int), (0 : Int), (0 : Int), (0 : Int), (0 : Int), (0 : Int), [], (0 : Int), (0 : Int), (⟨(0 : Int), (0 : Int)⟩ : SBound), (⟨(0 : Int), (0 : Int)⟩ : SBound), (⟨(0 : Int), (0 : Int)⟩ : SBound)⟩ : SFilter) }), hJ7, wT⟩
           · refine Sj (X := Bool) (fun v => (sl 30 [(1, vP [1] (0)), (2, vP [2] (0)), (24, vB v)] [bx [2] [.int .i64 (0 : Int), .int .i64 (0 : Int), .int .i64 (0 : Int), .str ([]), .int .i64 (0 : Int), .int .i64 (0 : Int), .int .i64 (0 : Int), .int .i64 (0 : Int), .int .i64 (0 : Int), .int .i64 (0 : Int), .int .i64 (0 : Int), .str ([]), .int .i64 (0 : Int), .int .i64 (0 : Int), .int .i64 (0 : Int), .int .i64 (0 : Int), .int .i64 (0 : Int), .int .i64 (0 : Int), .int .i64 (0 : Int), .int .i64 (0 : Int)], bx [1] (encSMod ({ a0 with Kind := (0 : Int) }))])) (fun v => r15_used_J11 a0 v = some r) ?_ ?_
             · refine Rg [.a, .a] (sl 30 [(1, vP [1] (0)), (2, vP [2] (0)), (7, vI a0.Kind), (24, vB (a0.Kind == (12 : Int)))] [bx [2] [.int .i64 (0 : Int), .int .i64 (0 : Int), .int .i64 (0 : Int), .str ([]), .int .i64 (0 : Int), .int .i64 (0 : Int), .int .i64 (0 : Int), .int .i64 (0 : Int), .int .i64 (0 : Int), .int .i64 (0 : Int), .int .i64 (0 : Int), .str ([]), .int .i64 (0 : Int), .int .i64 (0 : Int), .int .i64 (0 : Int), .int .i64 (0 : Int), .int .i64 (0 : Int), .int .i64 (0 : Int), .int .i64 (0 : Int), .int .i64 (0 : Int)], bx [1] (encSMod ({ a0 with Kind := (0 : Int) }))]) (aN) ?_
               refine iB hJ7 (fun b13 hJ7 => ?_) (fun b13 hJ7 => ?_)
               · refine Holds.skip ?_
                 refine Tn ⟨(a0.Kind == (12 : Int)), hJ7, wT⟩
               · refine Re [.a, .a] (sl 30 [(1, vP [1] (0)), (2, vP [2] (0)), (7, vI a0.Kind), (24, vB (a0.Kind == (13 : Int))), (26, vB (a0.Kind == (13 : Int)))] [bx [2] [.int .i64 (0 : Int), .int .i64 (0 : Int), .int .i64 (0 : Int), .str ([]), .int .i64 (0 : Int), .int .i64 (0 : Int), .int .i64 (0 : Int), .int .i64 (0 : Int), .int .i64 (0 : Int), .int .i64 (0 : Int), .int .i64 (0 : Int), .str ([]), .int .i64 (0 : Int), .int .i64 (0 : Int), .int .i64 (0 : Int), .int .i64 (0 : Int), .int .i64 (0 : Int), .int .i64 (0 : Int), .int .i64 (0 : Int), .int .i64 (0 : Int)], bx [1] (encSMod ({ a0 with Kind := (0 : Int) }))]) (aN) ?_
                 refine Tn ⟨(a0.Kind == (13 : Int)), hJ7, wT⟩
             · rintro vt24_10 hJ11
               replace hJ11 : r15_used_J11 a0 vt24_10 = some r := hJ11
               unfold r15_used_J11 at hJ11
               refine iB hJ11 (fun b12 hJ11 => ?_) (fun b12 hJ11 => ?_)
               · refine Rg [.a, .a] (sl 30 [(1, vP [1] (0)), (2, vP [2] (0))] [bx [2] [.int .i64 (0 : Int), .int .i64 (0 : Int), .int .i64 (0 : Int), .str ([]), .int .i64 (0 : Int), .int .i64 (0 : Int), .int .i64 (0 : Int), .int .i64 (0 : Int), .int .i64 (0 : Int), .int .i64 (0 : Int), .int .i64 (0 : Int), .str ([]), .int .i64 (0 : Int), .int .i64 (0 : Int), .int .i64 (0 : Int), .int .i64 (0 : Int), .int .i64 (0 : Int), .int .i64 (0 : Int), .int .i64 (0 : Int), .int .i64 (0 : Int)], bx [1] (encSMod ({ { a0 with Kind := (0 : Int) } with N := (0 : Int) }))]) (aN) ?_
                 refine Re [.a, .a] (sl 30 [(1, vP [1] (0)), (2, vP [2] (0)), (28, vP [1] (2))] [bx [2] [.int .i64 (0 : Int), .int .i64 (0 : Int), .int .i64 (0 : Int), .str ([]), .int .i64 (0 : Int), .int .i64 (0 : Int), .int .i64 (0 : Int), .int .i64 (0 : Int), .int .i64 (0 : Int), .int .i64 (0 : Int), .int .i64 (0 : Int), .str ([]), .int .i64 (0 : Int), .int .i64 (0 : Int), .int .i64 (0 : Int), .int .i64 (0 : Int), .int .i64 (0 : Int), .int .i64 (0 : Int), .int .i64 (0 : Int), .int .i64 (0 : Int)], bx [1] (encSMod ({ { { a0 with Kind := (0 : Int) } with N := (0 : Int) } with M := (0 : Int) }))]) (aN) ?_
                 refine blockQ.normal ?_
                 refine Tn ⟨({ { { a0 with Kind := (0 : Int) } with N := (0 : Int) } with M := (0 : Int) }), hJ11, wT⟩
               · refine Holds.skip ?_
                 refine blockQ.normal ?_
                 refine Tn ⟨({ a0 with Kind := (0 : Int) }), hJ11, wT⟩
 · rintro b1_1 hJ2
   replace hJ2 : r15_used_J2 b1_1 = some r := hJ2
   unfold r15_used_J2 at hJ2
   refine Rg [.a, .a] (sl 30 [(2, vP [2] (0))] [bx [2] (encSMod b1_1)]) (aN) ?_
   refine Holds.ret ?_
   exact bE (vA encSMod b1_1) (.agg (encSMod b1_1)) (congrArg (vA encSMod) (sI hJ2))
/-- cardgame/cardgameref15.types -/
def r15_types (a0 : Int) : Option (Bool) :=
 (some (if (decide ((1 : Int) ≤ a0)) = true then decide (a0 ≤ (63 : Int)) else false)).bind fun b1 =>
 (some (if b1 = true then (bAnd .i64 a0 (6 : Int)) == (0 : Int) else false)).bind fun b2 =>
 some b2
def r15_types_C (a0 : Int) (r : Bool) : Prop := PCall Tryz.prog I0 115 [vI a0] (· = vB r)
theorem r15_types_ok {a0 : Int} {r : Bool} (h : r15_types a0 = some r) : r15_types_C a0 r := by
 refine PCall.body I0_stable (by kernel_rfl) Tryz.func115 rfl Tryz.ntmps115 (rs := [.tmp 2]) rfl rfl ?_
 intro w0 av old gv
 unfold r15_types at h
 refine Rg [.a] (sl 14 [(0, vI a0)] []) (aN) ?_
 obtain ⟨b1, hb1, h⟩ := bS h
 obtain ⟨b2, hb2, h⟩ := bS h
 refine Rg [.a, .a, .a, .a, .a, (.v (vB b1)), .a, .a, .a, .a, (.v (vB b2)), .a] (sl 14 [(2, vB b2)] []) (aG ((decide ((1 : Int) ≤ a0)) == true) <| aT (decide ((1 : Int) ≤ a0)) <| aB hb1 <| aG (b1 == true) <| aG (b1 == true) <| aT b1 <| aB hb2 <| aN) ?_
 refine Holds.ret ?_
 exact bQ (vB b2) (congrArg vB (sI h))
/-- cardgame/cardgameref09.Is -/
def r09_Is (a0 : Int) : Option (Bool) :=
 (some (if (decide ((0 : Int) ≤ a0)) = true then decide (a0 ≤ (31 : Int)) else false)).bind fun b1 =>
 some b1
def r09_Is_C (a0 : Int) (r : Bool) : Prop := PCall Tryz.prog I0 131 [vI a0] (· = vB r)
theorem r09_Is_ok {a0 : Int} {r : Bool} (h : r09_Is a0 = some r) : r09_Is_C a0 r := by
 refine PCall.body I0_stable (by kernel_rfl) Tryz.func131 rfl Tryz.ntmps131 (rs := [.tmp 2]) rfl rfl ?_
 intro w0 av old gv
 unfold r09_Is at h
 refine Rg [.a] (sl 9 [(0, vI a0)] []) (aN) ?_
 obtain ⟨b1, hb1, h⟩ := bS h
 refine Rg [.a, .a, .a, .a, .a, (.v (vB b1)), .a] (sl 9 [(2, vB b1)] []) (aG ((decide ((0 : Int) ≤ a0)) == true) <| aT (decide ((0 : Int) ≤ a0)) <| aB hb1 <| aN) ?_
 refine Holds.ret ?_
 exact bQ (vB b1) (congrArg vB (sI h))
/-- cardgame/cardgameref09.Name -/
def r09_Name (a0 : Int) : Option ((List UInt8)) :=
 (if (a0 == (0 : Int)) = true then
  some str_amber
 else
  (if (a0 == (1 : Int)) = true then
   some str_cobalt
  else
   (if (a0 == (2 : Int)) = true then
    some str_jet
   else
    (if (a0 == (3 : Int)) = true then
     some str_ruby
    else
     (if (a0 == (4 : Int)) = true then
      some str_emerald
     else
      some ([] : List UInt8))))))
def r09_Name_C (a0 : Int) (r : (List UInt8)) : Prop := PCall Tryz.prog I0 132 [vI a0] (· = vS r)
theorem r09_Name_ok {a0 : Int} {r : (List UInt8)} (h : r09_Name a0 = some r) : r09_Name_C a0 r := by
 refine PCall.body I0_stable (by kernel_rfl) Tryz.func132 rfl Tryz.ntmps132 (rs := [.tmp 2]) rfl rfl ?_
 intro w0 av old gv
 unfold r09_Name at h
 refine Rg [.a] (sl 14 [(0, vI a0)] []) (aN) ?_
 refine Holds.seq ?_
 refine Rg [.a] (sl 14 [(3, vI a0)] []) (aN) ?_
 refine Holds.block ?_
 refine Rg [.a, .a] (sl 14 [(3, vI a0), (4, vB (a0 == (0 : Int)))] []) (aN) ?_
 refine iB h (fun b1 h => ?_) (fun b1 h => ?_)
 · refine Rg [.a] (sl 14 [(2, vS str_amber)] []) (aN) ?_
   refine Holds.ret ?_
   refine blockQ.ret ?_
   refine Tr ?_
   exact bQ (vS str_amber) (congrArg vS (sI h))
 · refine Rg [.a, .a] (sl 14 [(3, vI a0), (6, vB (a0 == (1 : Int)))] []) (aN) ?_
   refine iB h (fun b2 h => ?_) (fun b2 h => ?_)
   · refine Rg [.a] (sl 14 [(2, vS str_cobalt)] []) (aN) ?_
     refine Holds.ret ?_
     refine blockQ.ret ?_
     refine Tr ?_
     exact bQ (vS str_cobalt) (congrArg vS (sI h))
   · refine Rg [.a, .a] (sl 14 [(3, vI a0), (8, vB (a0 == (2 : Int)))] []) (aN) ?_
     refine iB h (fun b3 h => ?_) (fun b3 h => ?_)
     · refine Rg [.a] (sl 14 [(2, vS str_jet)] []) (aN) ?_
       refine Holds.ret ?_
       refine blockQ.ret ?_
       refine Tr ?_
       exact bQ (vS str_jet) (congrArg vS (sI h))
     · refine Rg [.a, .a] (sl 14 [(3, vI a0), (10, vB (a0 == (3 : Int)))] []) (aN) ?_
       refine iB h (fun b4 h => ?_) (fun b4 h => ?_)
       · refine Rg [.a] (sl 14 [(2, vS str_ruby)] []) (aN) ?_
         refine Holds.ret ?_
         refine blockQ.ret ?_
         refine Tr ?_
         exact bQ (vS str_ruby) (congrArg vS (sI h))
       · refine Rg [.a, .a] (sl 14 [(12, vB (a0 == (4 : Int)))] []) (aN) ?_
         refine iB h (fun b5 h => ?_) (fun b5 h => ?_)
         · refine Rg [.a] (sl 14 [(2, vS str_emerald)] []) (aN) ?_
           refine Holds.ret ?_
           refine blockQ.ret ?_
           refine Tr ?_
           exact bQ (vS str_emerald) (congrArg vS (sI h))
         · refine Holds.skip ?_
           refine blockQ.normal ?_
           refine Tn ?_
           refine Rg [.a] (sl 14 [(2, vS ([] : List UInt8))] []) (aN) ?_
           refine Holds.ret ?_
           exact bQ (vS ([] : List UInt8)) (congrArg vS (sI h))
/-- cardgame/cardgameref11.names -/
def r11_names : Option ((List (List UInt8))) :=
 some ([str_flying, str_reach, str_haste, str_vigilant, str_trample, str_first_strike, str_double_strike, str_deadly, str_lifelink, str_menace, str_defender, str_warded, str_sturdy, str_elusive, str_no_attack, str_no_block, str_must_attack] : List (List UInt8))
def r11_names_C (r : (List (List UInt8))) : Prop := PCall Tryz.prog I0 147 [] (· = vL eS r)
theorem r11_names_ok {r : (List (List UInt8))} (h : r11_names  = some r) : r11_names_C r := by
 refine PCall.body I0_stable (by kernel_rfl) Tryz.func147 rfl Tryz.ntmps147 (rs := [.tmp 0]) rfl rfl ?_
 intro w0 av old gv
 unfold r11_names at h
 refine Rg [.a] (sl 2 [] []) (aN) ?_
 refine Rg [.a, .a] (sl 2 [(0, vO [1])] [rw_ [1] 9 1 eS ([str_flying, str_reach, str_haste, str_vigilant, str_trample, str_first_strike, str_double_strike, str_deadly, str_lifelink, str_menace, str_defender, str_warded, str_sturdy, str_elusive, str_no_attack, str_no_block, str_must_attack] : List (List UInt8))]) (aN) ?_
 refine Holds.ret ?_
 exact bE (vO [1]) (vL eS ([str_flying, str_reach, str_haste, str_vigilant, str_trample, str_first_strike, str_double_strike, str_deadly, str_lifelink, str_menace, str_defender, str_warded, str_sturdy, str_elusive, str_no_attack, str_no_block, str_must_attack] : List (List UInt8))) (congrArg (vL eS) (sI h))
/-- cardgame/cardgameref13.zoneWords -/
def r13_zoneWords : Option ((List (List UInt8))) :=
 some ([([] : List UInt8), str_in_hand, str_in_library, str_in_graveyard, str_in_exile, str_on_stack] : List (List UInt8))
def r13_zoneWords_C (r : (List (List UInt8))) : Prop := PCall Tryz.prog I0 134 [] (· = vL eS r)
theorem r13_zoneWords_ok {r : (List (List UInt8))} (h : r13_zoneWords  = some r) : r13_zoneWords_C r := by
 refine PCall.body I0_stable (by kernel_rfl) Tryz.func134 rfl Tryz.ntmps134 (rs := [.tmp 0]) rfl rfl ?_
 intro w0 av old gv
 unfold r13_zoneWords at h
 refine Rg [.a] (sl 2 [] []) (aN) ?_
 refine Rg [.a, .a] (sl 2 [(0, vO [1])] [rw_ [1] 9 1 eS ([([] : List UInt8), str_in_hand, str_in_library, str_in_graveyard, str_in_exile, str_on_stack] : List (List UInt8))]) (aN) ?_
 refine Holds.ret ?_
 exact bE (vO [1]) (vL eS ([([] : List UInt8), str_in_hand, str_in_library, str_in_graveyard, str_in_exile, str_on_stack] : List (List UInt8))) (congrArg (vL eS) (sI h))
/-- cardgame/cardgameref13.whoWords -/
def r13_whoWords : Option ((List (List UInt8))) :=
 some ([([] : List UInt8), str_yours, str_theirs] : List (List UInt8))
def r13_whoWords_C (r : (List (List UInt8))) : Prop := PCall Tryz.prog I0 135 [] (· = vL eS r)
theorem r13_whoWords_ok {r : (List (List UInt8))} (h : r13_whoWords  = some r) : r13_whoWords_C r := by
 refine PCall.body I0_stable (by kernel_rfl) Tryz.func135 rfl Tryz.ntmps135 (rs := [.tmp 0]) rfl rfl ?_
 intro w0 av old gv
 unfold r13_whoWords at h
 refine Rg [.a] (sl 2 [] []) (aN) ?_
 refine Rg [.a, .a] (sl 2 [(0, vO [1])] [rw_ [1] 9 1 eS ([([] : List UInt8), str_yours, str_theirs] : List (List UInt8))]) (aN) ?_
 refine Holds.ret ?_
 exact bE (vO [1]) (vL eS ([([] : List UInt8), str_yours, str_theirs] : List (List UInt8))) (congrArg (vL eS) (sI h))
/-- cardgame/cardgameref13.selfWords -/
def r13_selfWords : Option ((List (List UInt8))) :=
 some ([([] : List UInt8), str_self, str_other] : List (List UInt8))
def r13_selfWords_C (r : (List (List UInt8))) : Prop := PCall Tryz.prog I0 136 [] (· = vL eS r)
theorem r13_selfWords_ok {r : (List (List UInt8))} (h : r13_selfWords  = some r) : r13_selfWords_C r := by
 refine PCall.body I0_stable (by kernel_rfl) Tryz.func136 rfl Tryz.ntmps136 (rs := [.tmp 0]) rfl rfl ?_
 intro w0 av old gv
 unfold r13_selfWords at h
 refine Rg [.a] (sl 2 [] []) (aN) ?_
 refine Rg [.a, .a] (sl 2 [(0, vO [1])] [rw_ [1] 9 1 eS ([([] : List UInt8), str_self, str_other] : List (List UInt8))]) (aN) ?_
 refine Holds.ret ?_
 exact bE (vO [1]) (vL eS ([([] : List UInt8), str_self, str_other] : List (List UInt8))) (congrArg (vL eS) (sI h))
/-- cardgame/cardgameref13.tapWords -/
def r13_tapWords : Option ((List (List UInt8))) :=
 some ([([] : List UInt8), str_tapped, str_untapped] : List (List UInt8))
def r13_tapWords_C (r : (List (List UInt8))) : Prop := PCall Tryz.prog I0 137 [] (· = vL eS r)
theorem r13_tapWords_ok {r : (List (List UInt8))} (h : r13_tapWords  = some r) : r13_tapWords_C r := by
 refine PCall.body I0_stable (by kernel_rfl) Tryz.func137 rfl Tryz.ntmps137 (rs := [.tmp 0]) rfl rfl ?_
 intro w0 av old gv
 unfold r13_tapWords at h
 refine Rg [.a] (sl 2 [] []) (aN) ?_
 refine Rg [.a, .a] (sl 2 [(0, vO [1])] [rw_ [1] 9 1 eS ([([] : List UInt8), str_tapped, str_untapped] : List (List UInt8))]) (aN) ?_
 refine Holds.ret ?_
 exact bE (vO [1]) (vL eS ([([] : List UInt8), str_tapped, str_untapped] : List (List UInt8))) (congrArg (vL eS) (sI h))
def r13_bit_J2  (mask_t0_1 : Int) : Option (Bool) :=
 some ((Int.tmod mask_t0_1 (2 : Int)) == (1 : Int))
def r13_bit_B8 (a1 : Int) (mask_t0_5 : Int) (k_t5_6 : Int) : Option ((Int × Int) ⊕ (Int)) :=
 (if (decide (k_t5_6 < a1)) = true then
  some (.inl ((wrap64 (Int.tdiv mask_t0_5 (2 : Int))), (wrap64 (k_t5_6 + (1 : Int)))))
 else
  some (.inr mask_t0_5))
/-- cardgame/cardgameref13.bit -/
def r13_bit (a0 : Int) (a1 : Int) : Option (Bool) :=
 (iter (fun (v : Int × Int) => r13_bit_B8 a1 v.1 v.2) FU (a0, (0 : Int))).bind (fun o0 => r13_bit_J2 o0)
def r13_bit_C (a0 : Int) (a1 : Int) (r : Bool) : Prop := PCall Tryz.prog I0 139 [vI a0, vI a1] (· = vB r)
theorem r13_bit_ok {a0 : Int} {a1 : Int} {r : Bool} (h : r13_bit a0 a1 = some r) : r13_bit_C a0 a1 r := by
 refine PCall.body I0_stable (by kernel_rfl) Tryz.func139 rfl Tryz.ntmps139 (rs := [.tmp 4]) rfl rfl ?_
 intro w0 av old gv
 unfold r13_bit at h
 refine Rg [.a] (sl 16 [(0, vI a0), (1, vI a1)] []) (aN) ?_
 refine Sj (X := Int) (fun v => (sl 16 [(0, vI v)] [])) (fun v => r13_bit_J2 v = some r) ?_ ?_
 · refine Rg [.a] (sl 16 [(0, vI a0), (1, vI a1), (5, vI (0 : Int))] []) (aN) ?_
   refine Holds.block ?_
   obtain ⟨oB8, hiB8, h⟩ := bS h
   refine It (fun (v : Int × Int) => (sl 16 [(0, vI v.1), (1, vI a1), (5, vI v.2)] [])) hiB8 (wT) ?_
   rintro ⟨mask_t0_5, k_t5_6⟩ zB8 hzB8 hoB8
   replace hzB8 : r13_bit_B8 a1 mask_t0_5 k_t5_6 = some zB8 := hzB8
   unfold r13_bit_B8 at hzB8
   refine Holds.seq ?_
   refine Rg [.a, .a, .a] (sl 16 [(0, vI mask_t0_5), (1, vI a1), (5, vI k_t5_6), (8, vB (decide (k_t5_6 < a1)))] []) (aN) ?_
   refine iB hzB8 (fun b9 hzB8 => ?_) (fun b9 hzB8 => ?_)
   · refine Holds.skip ?_
     refine Tn ?_
     refine Holds.seq ?_
     refine Holds.block ?_
     refine Re [.a, .a, .a] (sl 16 [(0, vI (wrap64 (Int.tdiv mask_t0_5 (2 : Int)))), (1, vI a1), (5, vI k_t5_6), (8, vB (decide (k_t5_6 < a1))), (11, vI mask_t0_5), (12, vI (wrap64 (Int.tdiv mask_t0_5 (2 : Int))))] []) (aC (show (2 : Int) ≠ 0 from (by decide)) <| aN) ?_
     refine blockQ.normal ?_
     refine Tn ?_
     refine Re [.a, .a, .a] (sl 16 [(0, vI (wrap64 (Int.tdiv mask_t0_5 (2 : Int)))), (1, vI a1), (5, vI (wrap64 (k_t5_6 + (1 : Int)))), (8, vB (decide (k_t5_6 < a1))), (9, vI k_t5_6), (10, vI (wrap64 (k_t5_6 + (1 : Int)))), (11, vI mask_t0_5), (12, vI (wrap64 (Int.tdiv mask_t0_5 (2 : Int))))] []) (aN) ?_
     refine Tn ⟨((wrap64 (Int.tdiv mask_t0_5 (2 : Int))), (wrap64 (k_t5_6 + (1 : Int)))), (sI hzB8).symm, wT⟩
   · refine Holds.exit ?_
     refine thenQ.exit ?_
     have hoB8_ := hoB8 _ (sI hzB8).symm
     subst hoB8_
     refine thenQ.exit ?_
     refine blockQ.out ?_
     refine Tn ⟨mask_t0_5, h, wT⟩
 · rintro mask_t0_1 hJ2
   replace hJ2 : r13_bit_J2 mask_t0_1 = some r := hJ2
   unfold r13_bit_J2 at hJ2
   refine Rg [.a, .a, .a, .a] (sl 16 [(4, vB ((Int.tmod mask_t0_1 (2 : Int)) == (1 : Int)))] []) (aC (show (2 : Int) ≠ 0 from (by decide)) <| aN) ?_
   refine Holds.ret ?_
   exact bQ (vB ((Int.tmod mask_t0_1 (2 : Int)) == (1 : Int))) (congrArg vB (sI hJ2))
/-- cardgame/cardgameref13.signs -/
def r13_signs : Option ((List (List UInt8))) :=
 some ([([] : List UInt8), str_x3e3d, str_x3c3d, str_x3d] : List (List UInt8))
def r13_signs_C (r : (List (List UInt8))) : Prop := PCall Tryz.prog I0 148 [] (· = vL eS r)
theorem r13_signs_ok {r : (List (List UInt8))} (h : r13_signs  = some r) : r13_signs_C r := by
 refine PCall.body I0_stable (by kernel_rfl) Tryz.func148 rfl Tryz.ntmps148 (rs := [.tmp 0]) rfl rfl ?_
 intro w0 av old gv
 unfold r13_signs at h
 refine Rg [.a] (sl 2 [] []) (aN) ?_
 refine Rg [.a, .a] (sl 2 [(0, vO [1])] [rw_ [1] 9 1 eS ([([] : List UInt8), str_x3e3d, str_x3c3d, str_x3d] : List (List UInt8))]) (aN) ?_
 refine Holds.ret ?_
 exact bE (vO [1]) (vL eS ([([] : List UInt8), str_x3e3d, str_x3c3d, str_x3d] : List (List UInt8))) (congrArg (vL eS) (sI h))
def r01_digits_J3  (s_t3_2 : List UInt8) : Option ((List UInt8)) :=
 some s_t3_2
def r01_digits_B9  (u_t0_6 : Int) (s_t3_7 : List UInt8) : Option ((Int × (List UInt8)) ⊕ ((List UInt8))) :=
 (if (decide ((0 : Int) < u_t0_6)) = true then
  (need (∀ n ∈ ([IntKind.u8.wrap (IntKind.u64.wrap ((48 : Int) + (Int.tmod u_t0_6 (10 : Int))))] : List (Int)), 0 ≤ n ∧ n < 256)).bind fun u11 =>
  (cat (bytesU ([IntKind.u8.wrap (IntKind.u64.wrap ((48 : Int) + (Int.tmod u_t0_6 (10 : Int))))] : List (Int))) s_t3_7).bind fun s12 =>
  some (.inl ((IntKind.u64.wrap (Int.tdiv u_t0_6 (10 : Int))), s12))
 else
  some (.inr s_t3_7))
/-- cardgame/cardgameref01.digits -/
def r01_digits (a0 : Int) : Option ((List UInt8)) :=
 (need (∀ n ∈ ([IntKind.u8.wrap (IntKind.u64.wrap ((48 : Int) + (Int.tmod a0 (10 : Int))))] : List (Int)), 0 ≤ n ∧ n < 256)).bind fun u1 =>
 (iter (fun (v : Int × (List UInt8)) => r01_digits_B9 v.1 v.2) FU ((IntKind.u64.wrap (Int.tdiv a0 (10 : Int))), (bytesU ([IntKind.u8.wrap (IntKind.u64.wrap ((48 : Int) + (Int.tmod a0 (10 : Int))))] : List (Int))))).bind (fun o0 => r01_digits_J3 o0)
def r01_digits_C (a0 : Int) (r : (List UInt8)) : Prop := PCall Tryz.prog I0 40 [.c (.int .u64 a0)] (· = vS r)
theorem r01_digits_ok {a0 : Int} {r : (List UInt8)} (h : r01_digits a0 = some r) : r01_digits_C a0 r := by
 refine PCall.body I0_stable (by kernel_rfl) Tryz.func40 rfl Tryz.ntmps40 (rs := [.tmp 2]) rfl rfl ?_
 intro w0 av old gv
 unfold r01_digits at h
 refine Rg [.a] (sl 25 [(0, .c (.int .u64 a0))] []) (aN) ?_
 obtain ⟨u1, hu1, h⟩ := bS h
 refine Rg [.a, .a, .a, .a, .a, (.v (vS (bytesU ([IntKind.u8.wrap (IntKind.u64.wrap ((48 : Int) + (Int.tmod a0 (10 : Int))))] : List (Int))))), .a] (sl 25 [(0, .c (.int .u64 a0)), (3, vS (bytesU ([IntKind.u8.wrap (IntKind.u64.wrap ((48 : Int) + (Int.tmod a0 (10 : Int))))] : List (Int))))] []) (aC (show (10 : Int) ≠ 0 from (by decide)) <| aC (show (isByteSlice Tryz.prog 54 = true ∧ isStr Tryz.prog 9 = true) ∧ 1 = 1 ∧ bytesOK (([IntKind.u8.wrap (IntKind.u64.wrap ((48 : Int) + (Int.tmod a0 (10 : Int))))] : List (Int)).flatMap (eI .u8)) from ⟨⟨by kernel_rfl, by kernel_rfl⟩, rfl, bytesOK_flat (need_b hu1)⟩) <| aC (congrArg (fun z => V.c (.str z)) (bytesT_flat ([IntKind.u8.wrap (IntKind.u64.wrap ((48 : Int) + (Int.tmod a0 (10 : Int))))] : List (Int)))) <| aN) ?_
 refine Sj (X := (List UInt8)) (fun v => (sl 25 [(3, vS v)] [])) (fun v => r01_digits_J3 v = some r) ?_ ?_
 · refine Rg [.a, .a, .a] (sl 25 [(0, .c (.int .u64 (IntKind.u64.wrap (Int.tdiv a0 (10 : Int))))), (3, vS (bytesU ([IntKind.u8.wrap (IntKind.u64.wrap ((48 : Int) + (Int.tmod a0 (10 : Int))))] : List (Int))))] []) (aC (show (10 : Int) ≠ 0 from (by decide)) <| aN) ?_
   refine Holds.block ?_
   obtain ⟨oB9, hiB9, h⟩ := bS h
   refine It (fun (v : Int × (List UInt8)) => (sl 25 [(0, .c (.int .u64 v.1)), (3, vS v.2)] [])) hiB9 (wT) ?_
   rintro ⟨u_t0_6, s_t3_7⟩ zB9 hzB9 hoB9
   replace hzB9 : r01_digits_B9 u_t0_6 s_t3_7 = some zB9 := hzB9
   unfold r01_digits_B9 at hzB9
   refine Holds.seq ?_
   refine Rg [.a, .a] (sl 25 [(0, .c (.int .u64 u_t0_6)), (3, vS s_t3_7), (13, vB (decide ((0 : Int) < u_t0_6)))] []) (aN) ?_
   refine iB hzB9 (fun b10 hzB9 => ?_) (fun b10 hzB9 => ?_)
   · refine Holds.skip ?_
     refine Tn ?_
     refine Holds.seq ?_
     refine Holds.block ?_
     obtain ⟨u11, hu11, hzB9⟩ := bS hzB9
     obtain ⟨s12, hs12, hzB9⟩ := bS hzB9
     refine Re [.a, .a, .a, .a, .a, (.v (vS (bytesU ([IntKind.u8.wrap (IntKind.u64.wrap ((48 : Int) + (Int.tmod u_t0_6 (10 : Int))))] : List (Int))))), .a, (.v (vS s12)), .a] (sl 25 [(0, .c (.int .u64 u_t0_6)), (3, vS s12), (13, vB (decide ((0 : Int) < u_t0_6))), (16, .c (.int .u64 u_t0_6)), (17, .c (.int .u64 (Int.tmod u_t0_6 (10 : Int)))), (18, .c (.int .u64 (IntKind.u64.wrap ((48 : Int) + (Int.tmod u_t0_6 (10 : Int)))))), (19, .c (.int .u8 (IntKind.u8.wrap (IntKind.u64.wrap ((48 : Int) + (Int.tmod u_t0_6 (10 : Int))))))), (20, vO [20]), (21, vS (bytesU ([IntKind.u8.wrap (IntKind.u64.wrap ((48 : Int) + (Int.tmod u_t0_6 (10 : Int))))] : List (Int)))), (22, vS s_t3_7), (23, vS s12)] [rw_ [20] 5 1 (eI .u8) ([IntKind.u8.wrap (IntKind.u64.wrap ((48 : Int) + (Int.tmod u_t0_6 (10 : Int))))] : List (Int))]) (aC (show (10 : Int) ≠ 0 from (by decide)) <| aC (show (isByteSlice Tryz.prog 54 = true ∧ isStr Tryz.prog 9 = true) ∧ 1 = 1 ∧ bytesOK (([IntKind.u8.wrap (IntKind.u64.wrap ((48 : Int) + (Int.tmod u_t0_6 (10 : Int))))] : List (Int)).flatMap (eI .u8)) from ⟨⟨by kernel_rfl, by kernel_rfl⟩, rfl, bytesOK_flat (need_b hu11)⟩) <| aC (congrArg (fun z => V.c (.str z)) (bytesT_flat ([IntKind.u8.wrap (IntKind.u64.wrap ((48 : Int) + (Int.tmod u_t0_6 (10 : Int))))] : List (Int)))) <| aC (cat_b hs12) <| aC (congrArg (fun z => V.c (.str z)) (cat_x hs12).symm) <| aN) ?_
     refine blockQ.normal ?_
     refine Tn ?_
     refine Re [.a, .a, .a] (sl 25 [(0, .c (.int .u64 (IntKind.u64.wrap (Int.tdiv u_t0_6 (10 : Int))))), (3, vS s12), (13, vB (decide ((0 : Int) < u_t0_6))), (14, .c (.int .u64 u_t0_6)), (15, .c (.int .u64 (IntKind.u64.wrap (Int.tdiv u_t0_6 (10 : Int))))), (16, .c (.int .u64 u_t0_6)), (17, .c (.int .u64 (Int.tmod u_t0_6 (10 : Int)))), (18, .c (.int .u64 (IntKind.u64.wrap ((48 : Int) + (Int.tmod u_t0_6 (10 : Int)))))), (19, .c (.int .u8 (IntKind.u8.wrap (IntKind.u64.wrap ((48 : Int) + (Int.tmod u_t0_6 (10 : Int))))))), (20, vO [20]), (21, vS (bytesU ([IntKind.u8.wrap (IntKind.u64.wrap ((48 : Int) + (Int.tmod u_t0_6 (10 : Int))))] : List (Int)))), (22, vS s_t3_7), (23, vS s12)] [rw_ [20] 5 1 (eI .u8) ([IntKind.u8.wrap (IntKind.u64.wrap ((48 : Int) + (Int.tmod u_t0_6 (10 : Int))))] : List (Int))]) (aC (show (10 : Int) ≠ 0 from (by decide)) <| aN) ?_
     refine Tn ⟨((IntKind.u64.wrap (Int.tdiv u_t0_6 (10 : Int))), s12), (sI hzB9).symm, wT⟩
   · refine Holds.exit ?_
     refine thenQ.exit ?_
     have hoB9_ := hoB9 _ (sI hzB9).symm
     subst hoB9_
     refine thenQ.exit ?_
     refine blockQ.out ?_
     refine Tn ⟨s_t3_7, h, wT⟩
 · rintro s_t3_2 hJ3
   replace hJ3 : r01_digits_J3 s_t3_2 = some r := hJ3
   unfold r01_digits_J3 at hJ3
   refine Rg [.a, .a] (sl 25 [(2, vS s_t3_2)] []) (aN) ?_
   refine Holds.ret ?_
   exact bQ (vS s_t3_2) (congrArg vS (sI hJ3))
def r02_Join_J2  (s_t5_1 : List UInt8) : Option ((List UInt8)) :=
 some s_t5_1
def r02_Join_J11 (a0 : List (List UInt8)) (i_t6_6 : Int) (s_t5_10 : List UInt8) : Option (((List UInt8) × Int) ⊕ ((List UInt8))) :=
 (idx a0 i_t6_6).bind fun e12 =>
 (cat s_t5_10 e12).bind fun s13 =>
 some (.inl (s13, (wrap64 (i_t6_6 + (1 : Int)))))
def r02_Join_B8 (a0 : List (List UInt8)) (a1 : List UInt8) (s_t5_5 : List UInt8) (i_t6_6 : Int) : Option (((List UInt8) × Int) ⊕ ((List UInt8))) :=
 (if (decide (i_t6_6 < (a0.length : Int))) = true then
  (if (decide ((0 : Int) < i_t6_6)) = true then
   (cat s_t5_5 a1).bind fun s15 =>
   r02_Join_J11 a0 i_t6_6 s15
  else
   r02_Join_J11 a0 i_t6_6 s_t5_5)
 else
  some (.inr s_t5_5))
/-- cardgame/cardgameref02.Join -/
def r02_Join (a0 : List (List UInt8)) (a1 : List UInt8) : Option ((List UInt8)) :=
 (iter (fun (v : (List UInt8) × Int) => r02_Join_B8 a0 a1 v.1 v.2) FU (([] : List UInt8), (0 : Int))).bind (fun o0 => r02_Join_J2 o0)
def r02_Join_C (a0 : List (List UInt8)) (a1 : List UInt8) (r : (List UInt8)) : Prop := PCall Tryz.prog I0 142 [vL eS a0, vS a1] (· = vS r)
theorem r02_Join_ok {a0 : List (List UInt8)} {a1 : List UInt8} {r : (List UInt8)} (h : r02_Join a0 a1 = some r) : r02_Join_C a0 a1 r := by
 refine PCall.body I0_stable (by kernel_rfl) Tryz.func142 rfl Tryz.ntmps142 (rs := [.tmp 4]) rfl rfl ?_
 intro w0 av old gv
 unfold r02_Join at h
 refine Rg [.a] (sl 25 [(0, vL eS a0), (1, vS a1)] []) (aN) ?_
 refine Rg [.a] (sl 25 [(0, vL eS a0), (1, vS a1), (5, vS ([] : List UInt8))] []) (aN) ?_
 refine Sj (X := (List UInt8)) (fun v => (sl 25 [(5, vS v)] [])) (fun v => r02_Join_J2 v = some r) ?_ ?_
 · refine Rg [.a] (sl 25 [(0, vL eS a0), (1, vS a1), (5, vS ([] : List UInt8)), (6, vI (0 : Int))] []) (aN) ?_
   refine Holds.block ?_
   obtain ⟨oB8, hiB8, h⟩ := bS h
   refine It (fun (v : (List UInt8) × Int) => (sl 25 [(0, vL eS a0), (1, vS a1), (5, vS v.1), (6, vI v.2)] [])) hiB8 (wT) ?_
   rintro ⟨s_t5_5, i_t6_6⟩ zB8 hzB8 hoB8
   replace hzB8 : r02_Join_B8 a0 a1 s_t5_5 i_t6_6 = some zB8 := hzB8
   unfold r02_Join_B8 at hzB8
   refine Holds.seq ?_
   refine Rg [.a, .a, .a, .a] (sl 25 [(0, vL eS a0), (1, vS a1), (5, vS s_t5_5), (6, vI i_t6_6), (10, vB (decide (i_t6_6 < (a0.length : Int))))] []) (aN) ?_
   refine iB hzB8 (fun b9 hzB8 => ?_) (fun b9 hzB8 => ?_)
   · refine Holds.skip ?_
     refine Tn ?_
     refine Holds.seq ?_
     refine Holds.block ?_
     refine Sj (X := (List UInt8)) (fun v => (sl 25 [(0, vL eS a0), (1, vS a1), (5, vS v), (6, vI i_t6_6)] [])) (fun v => r02_Join_J11 a0 i_t6_6 v = some zB8) ?_ ?_
     · refine Rg [.a, .a] (sl 25 [(0, vL eS a0), (1, vS a1), (5, vS s_t5_5), (6, vI i_t6_6), (14, vB (decide ((0 : Int) < i_t6_6)))] []) (aN) ?_
       refine iB hzB8 (fun b14 hzB8 => ?_) (fun b14 hzB8 => ?_)
       · obtain ⟨s15, hs15, hzB8⟩ := bS hzB8
         refine Re [.a, .a, (.v (vS s15)), .a] (sl 25 [(0, vL eS a0), (1, vS a1), (5, vS s15), (6, vI i_t6_6), (14, vB (decide ((0 : Int) < i_t6_6))), (15, vS s_t5_5), (16, vS a1), (17, vS s15)] []) (aC (cat_b hs15) <| aC (congrArg (fun z => V.c (.str z)) (cat_x hs15).symm) <| aN) ?_
         refine Tn ⟨s15, hzB8, wT⟩
       · refine Holds.skip ?_
         refine Tn ⟨s_t5_5, hzB8, wT⟩
     · rintro s_t5_10 hJ11
       replace hJ11 : r02_Join_J11 a0 i_t6_6 s_t5_10 = some zB8 := hJ11
       unfold r02_Join_J11 at hJ11
       obtain ⟨e12, he12, hJ11⟩ := bS hJ11
       obtain ⟨s13, hs13, hJ11⟩ := bS hJ11
       refine Re [.a, .a, .a, .a, (.v (vS e12)), (.v (vS s13)), .a] (sl 25 [(0, vL eS a0), (1, vS a1), (5, vS s13), (6, vI i_t6_6), (18, vS s_t5_10), (19, vL eS a0), (20, vI i_t6_6), (21, vX eS a0 ((i_t6_6).toNat * 1)), (22, vS e12), (23, vS s13)] []) (aC (idx_b he12) <| aC (eld he12 lenS 0 1 false (vS e12)) <| aC (Eq.refl (vS e12)) <| aC (cat_b hs13) <| aC (congrArg (fun z => V.c (.str z)) (cat_x hs13).symm) <| aN) ?_
       refine blockQ.normal ?_
       refine Tn ?_
       refine Re [.a, .a, .a] (sl 25 [(0, vL eS a0), (1, vS a1), (5, vS s13), (6, vI (wrap64 (i_t6_6 + (1 : Int)))), (11, vI i_t6_6), (12, vI (wrap64 (i_t6_6 + (1 : Int)))), (18, vS s_t5_10), (19, vL eS a0), (20, vI i_t6_6), (21, vX eS a0 ((i_t6_6).toNat * 1)), (22, vS e12), (23, vS s13)] []) (aN) ?_
       refine Tn ⟨(s13, (wrap64 (i_t6_6 + (1 : Int)))), (sI hJ11).symm, wT⟩
   · refine Holds.exit ?_
     refine thenQ.exit ?_
     have hoB8_ := hoB8 _ (sI hzB8).symm
     subst hoB8_
     refine thenQ.exit ?_
     refine blockQ.out ?_
     refine Tn ⟨s_t5_5, h, wT⟩
 · rintro s_t5_1 hJ2
   replace hJ2 : r02_Join_J2 s_t5_1 = some r := hJ2
   unfold r02_Join_J2 at hJ2
   refine Rg [.a, .a] (sl 25 [(4, vS s_t5_1)] []) (aN) ?_
   refine Holds.ret ?_
   exact bQ (vS s_t5_1) (congrArg vS (sI hJ2))
/-- cardgame/cardgameref18.word -/
def r18_word (a0 : Int) : Option ((List UInt8)) :=
 (if (a0 == (1 : Int)) = true then
  some str_enters
 else
  (if (a0 == (2 : Int)) = true then
   some str_leaves
  else
   (if (a0 == (3 : Int)) = true then
    some str_dies
   else
    (if (a0 == (4 : Int)) = true then
     some str_attacks
    else
     (if (a0 == (5 : Int)) = true then
      some str_blocks
     else
      (if (a0 == (6 : Int)) = true then
       some str_deals
      else
       (if (a0 == (7 : Int)) = true then
        some str_dealt
       else
        (if (a0 == (8 : Int)) = true then
         some str_draws
        else
         (if (a0 == (9 : Int)) = true then
          some str_casts
         else
          (if (a0 == (10 : Int)) = true then
           some str_upkeep
          else
           (if (a0 == (11 : Int)) = true then
            some str_end
           else
            (if (a0 == (12 : Int)) = true then
             some str_gains
            else
             (if (a0 == (13 : Int)) = true then
              some str_loses
             else
              (if (a0 == (14 : Int)) = true then
               some str_placed
              else
               some ([] : List UInt8)))))))))))))))
def r18_word_C (a0 : Int) (r : (List UInt8)) : Prop := PCall Tryz.prog I0 99 [vI a0] (· = vS r)
theorem r18_word_ok {a0 : Int} {r : (List UInt8)} (h : r18_word a0 = some r) : r18_word_C a0 r := by
 refine PCall.body I0_stable (by kernel_rfl) Tryz.func99 rfl Tryz.ntmps99 (rs := [.tmp 2]) rfl rfl ?_
 intro w0 av old gv
 unfold r18_word at h
 refine Rg [.a] (sl 32 [(0, vI a0)] []) (aN) ?_
 refine Holds.seq ?_
 refine Rg [.a] (sl 32 [(3, vI a0)] []) (aN) ?_
 refine Holds.block ?_
 refine Rg [.a, .a] (sl 32 [(3, vI a0), (4, vB (a0 == (1 : Int)))] []) (aN) ?_
 refine iB h (fun b1 h => ?_) (fun b1 h => ?_)
 · refine Rg [.a] (sl 32 [(2, vS str_enters)] []) (aN) ?_
   refine Holds.ret ?_
   refine blockQ.ret ?_
   refine Tr ?_
   exact bQ (vS str_enters) (congrArg vS (sI h))
 · refine Rg [.a, .a] (sl 32 [(3, vI a0), (6, vB (a0 == (2 : Int)))] []) (aN) ?_
   refine iB h (fun b2 h => ?_) (fun b2 h => ?_)
   · refine Rg [.a] (sl 32 [(2, vS str_leaves)] []) (aN) ?_
     refine Holds.ret ?_
     refine blockQ.ret ?_
     refine Tr ?_
     exact bQ (vS str_leaves) (congrArg vS (sI h))
   · refine Rg [.a, .a] (sl 32 [(3, vI a0), (8, vB (a0 == (3 : Int)))] []) (aN) ?_
     refine iB h (fun b3 h => ?_) (fun b3 h => ?_)
     · refine Rg [.a] (sl 32 [(2, vS str_dies)] []) (aN) ?_
       refine Holds.ret ?_
       refine blockQ.ret ?_
       refine Tr ?_
       exact bQ (vS str_dies) (congrArg vS (sI h))
     · refine Rg [.a, .a] (sl 32 [(3, vI a0), (10, vB (a0 == (4 : Int)))] []) (aN) ?_
       refine iB h (fun b4 h => ?_) (fun b4 h => ?_)
       · refine Rg [.a] (sl 32 [(2, vS str_attacks)] []) (aN) ?_
         refine Holds.ret ?_
         refine blockQ.ret ?_
         refine Tr ?_
         exact bQ (vS str_attacks) (congrArg vS (sI h))
       · refine Rg [.a, .a] (sl 32 [(3, vI a0), (12, vB (a0 == (5 : Int)))] []) (aN) ?_
         refine iB h (fun b5 h => ?_) (fun b5 h => ?_)
         · refine Rg [.a] (sl 32 [(2, vS str_blocks)] []) (aN) ?_
           refine Holds.ret ?_
           refine blockQ.ret ?_
           refine Tr ?_
           exact bQ (vS str_blocks) (congrArg vS (sI h))
         · refine Rg [.a, .a] (sl 32 [(3, vI a0), (14, vB (a0 == (6 : Int)))] []) (aN) ?_
           refine iB h (fun b6 h => ?_) (fun b6 h => ?_)
           · refine Rg [.a] (sl 32 [(2, vS str_deals)] []) (aN) ?_
             refine Holds.ret ?_
             refine blockQ.ret ?_
             refine Tr ?_
             exact bQ (vS str_deals) (congrArg vS (sI h))
           · refine Rg [.a, .a] (sl 32 [(3, vI a0), (16, vB (a0 == (7 : Int)))] []) (aN) ?_
             refine iB h (fun b7 h => ?_) (fun b7 h => ?_)
             · refine Rg [.a] (sl 32 [(2, vS str_dealt)] []) (aN) ?_
               refine Holds.ret ?_
               refine blockQ.ret ?_
               refine Tr ?_
               exact bQ (vS str_dealt) (congrArg vS (sI h))
             · refine Rg [.a, .a] (sl 32 [(3, vI a0), (18, vB (a0 == (8 : Int)))] []) (aN) ?_
               refine iB h (fun b8 h => ?_) (fun b8 h => ?_)
               · refine Rg [.a] (sl 32 [(2, vS str_draws)] []) (aN) ?_
                 refine Holds.ret ?_
                 refine blockQ.ret ?_
                 refine Tr ?_
                 exact bQ (vS str_draws) (congrArg vS (sI h))
               · refine Rg [.a, .a] (sl 32 [(3, vI a0), (20, vB (a0 == (9 : Int)))] []) (aN) ?_
                 refine iB h (fun b9 h => ?_) (fun b9 h => ?_)
                 · refine Rg [.a] (sl 32 [(2, vS str_casts)] []) (aN) ?_
                   refine Holds.ret ?_
                   refine blockQ.ret ?_
                   refine Tr ?_
                   exact bQ (vS str_casts) (congrArg vS (sI h))
                 · refine Rg [.a, .a] (sl 32 [(3, vI a0), (22, vB (a0 == (10 : Int)))] []) (aN) ?_
                   refine iB h (fun b10 h => ?_) (fun b10 h => ?_)
                   · refine Rg [.a] (sl 32 [(2, vS str_upkeep)] []) (aN) ?_
                     refine Holds.ret ?_
                     refine blockQ.ret ?_
                     refine Tr ?_
                     exact bQ (vS str_upkeep) (congrArg vS (sI h))
                   · refine Rg [.a, .a] (sl 32 [(3, vI a0), (24, vB (a0 == (11 : Int)))] []) (aN) ?_
                     refine iB h (fun b11 h => ?_) (fun b11 h => ?_)
                     · refine Rg [.a] (sl 32 [(2, vS str_end)] []) (aN) ?_
                       refine Holds.ret ?_
                       refine blockQ.ret ?_
                       refine Tr ?_
                       exact bQ (vS str_end) (congrArg vS (sI h))
                     · refine Rg [.a, .a] (sl 32 [(3, vI a0), (26, vB (a0 == (12 : Int)))] []) (aN) ?_
                       refine iB h (fun b12 h => ?_) (fun b12 h => ?_)
                       · refine Rg [.a] (sl 32 [(2, vS str_gains)] []) (aN) ?_
                         refine Holds.ret ?_
                         refine blockQ.ret ?_
                         refine Tr ?_
                         exact bQ (vS str_gains) (congrArg vS (sI h))
                       · refine Rg [.a, .a] (sl 32 [(3, vI a0), (28, vB (a0 == (13 : Int)))] []) (aN) ?_
                         refine iB h (fun b13 h => ?_) (fun b13 h => ?_)
                         · refine Rg [.a] (sl 32 [(2, vS str_loses)] []) (aN) ?_
                           refine Holds.ret ?_
                           refine blockQ.ret ?_
                           refine Tr ?_
                           exact bQ (vS str_loses) (congrArg vS (sI h))
                         · refine Rg [.a, .a] (sl 32 [(30, vB (a0 == (14 : Int)))] []) (aN) ?_
                           refine iB h (fun b14 h => ?_) (fun b14 h => ?_)
                           · refine Rg [.a] (sl 32 [(2, vS str_placed)] []) (aN) ?_
                             refine Holds.ret ?_
                             refine blockQ.ret ?_
                             refine Tr ?_
                             exact bQ (vS str_placed) (congrArg vS (sI h))
                           · refine Holds.skip ?_
                             refine blockQ.normal ?_
                             refine Tn ?_
                             refine Rg [.a] (sl 32 [(2, vS ([] : List UInt8))] []) (aN) ?_
                             refine Holds.ret ?_
                             exact bQ (vS ([] : List UInt8)) (congrArg vS (sI h))
/-- cardgame/cardgameref18.hasWho -/
def r18_hasWho (a0 : Int) : Option (Bool) :=
 (some (if (a0 == (8 : Int)) = true then true else a0 == (9 : Int))).bind fun b1 =>
 (some (if b1 = true then true else a0 == (10 : Int))).bind fun b2 =>
 (some (if b2 = true then true else a0 == (11 : Int))).bind fun b3 =>
 (some (if b3 = true then true else a0 == (12 : Int))).bind fun b4 =>
 (some (if b4 = true then true else a0 == (13 : Int))).bind fun b5 =>
 some b5
def r18_hasWho_C (a0 : Int) (r : Bool) : Prop := PCall Tryz.prog I0 100 [vI a0] (· = vB r)
theorem r18_hasWho_ok {a0 : Int} {r : Bool} (h : r18_hasWho a0 = some r) : r18_hasWho_C a0 r := by
 refine PCall.body I0_stable (by kernel_rfl) Tryz.func100 rfl Tryz.ntmps100 (rs := [.tmp 2]) rfl rfl ?_
 intro w0 av old gv
 unfold r18_hasWho at h
 refine Rg [.a] (sl 25 [(0, vI a0)] []) (aN) ?_
 obtain ⟨b1, hb1, h⟩ := bS h
 obtain ⟨b2, hb2, h⟩ := bS h
 obtain ⟨b3, hb3, h⟩ := bS h
 obtain ⟨b4, hb4, h⟩ := bS h
 obtain ⟨b5, hb5, h⟩ := bS h
 refine Rg [.a, .a, .a, .a, .a, (.v (vB b1)), .a, .a, .a, (.v (vB b2)), .a, .a, .a, (.v (vB b3)), .a, .a, .a, (.v (vB b4)), .a, .a, .a, (.v (vB b5)), .a] (sl 25 [(2, vB b5)] []) (aG ((a0 == (8 : Int)) == false) <| aF (a0 == (8 : Int)) <| aB hb1 <| aG (b1 == false) <| aF b1 <| aB hb2 <| aG (b2 == false) <| aF b2 <| aB hb3 <| aG (b3 == false) <| aF b3 <| aB hb4 <| aG (b4 == false) <| aF b4 <| aB hb5 <| aN) ?_
 refine Holds.ret ?_
 exact bQ (vB b5) (congrArg vB (sI h))
/-- cardgame/cardgameref19.plain -/
def r19_plain (a0 : SReplace) : Option (Bool) :=
 (some (if (a0.Zone != (0 : Int)) = true then true else a0.Counter != (0 : Int))).bind fun b1 =>
 (if b1 = true then
  some false
 else
  (some (if (a0.Do == (2 : Int)) = true then true else a0.Do == (4 : Int))).bind fun b3 =>
  (if b3 = true then
   (some (if (decide ((1 : Int) ≤ a0.N)) = true then decide (a0.N ≤ (99 : Int)) else false)).bind fun b5 =>
   some b5
  else
   some (a0.N == (0 : Int))))
def r19_plain_C (a0 : SReplace) (r : Bool) : Prop := PCall Tryz.prog I0 103 [vA encSReplace a0] (· = vB r)
theorem r19_plain_ok {a0 : SReplace} {r : Bool} (h : r19_plain a0 = some r) : r19_plain_C a0 r := by
 refine PCall.body I0_stable (by kernel_rfl) Tryz.func103 rfl Tryz.ntmps103 (rs := [.tmp 2]) rfl rfl ?_
 intro w0 av old gv
 unfold r19_plain at h
 refine Rg [.a, .a] (sl 30 [(1, vP [1] (0))] [bx [1] (encSReplace a0)]) (aN) ?_
 refine Holds.seq ?_
 obtain ⟨b1, hb1, h⟩ := bS h
 refine Rg [.a, .a, .a, .a, .a, .a, .a, (.v (vB b1))] (sl 30 [(1, vP [1] (0)), (10, vB b1)] [bx [1] (encSReplace a0)]) (aG ((a0.Zone != (0 : Int)) == false) <| aG ((a0.Zone != (0 : Int)) == false) <| aF (a0.Zone != (0 : Int)) <| aB hb1 <| aN) ?_
 refine iB h (fun b2 h => ?_) (fun b2 h => ?_)
 · refine Rg [.a] (sl 30 [(2, vB false)] []) (aN) ?_
   refine Holds.ret ?_
   refine Tr ?_
   exact bQ (vB false) (congrArg vB (sI h))
 · refine Holds.skip ?_
   refine Tn ?_
   refine Holds.seq ?_
   obtain ⟨b3, hb3, h⟩ := bS h
   refine Rg [.a, .a, .a, .a, .a, .a, .a, (.v (vB b3))] (sl 30 [(1, vP [1] (0)), (18, vB b3)] [bx [1] (encSReplace a0)]) (aG ((a0.Do == (2 : Int)) == false) <| aG ((a0.Do == (2 : Int)) == false) <| aF (a0.Do == (2 : Int)) <| aB hb3 <| aN) ?_
   refine iB h (fun b4 h => ?_) (fun b4 h => ?_)
   · obtain ⟨b5, hb5, h⟩ := bS h
     refine Rg [.a, .a, .a, .a, .a, .a, .a, (.v (vB b5)), .a] (sl 30 [(2, vB b5)] []) (aG ((decide ((1 : Int) ≤ a0.N)) == true) <| aG ((decide ((1 : Int) ≤ a0.N)) == true) <| aT (decide ((1 : Int) ≤ a0.N)) <| aB hb5 <| aN) ?_
     refine Holds.ret ?_
     refine Tr ?_
     exact bQ (vB b5) (congrArg vB (sI h))
   · refine Holds.skip ?_
     refine Tn ?_
     refine Rg [.a, .a, .a, .a] (sl 30 [(2, vB (a0.N == (0 : Int)))] []) (aN) ?_
     refine Holds.ret ?_
     exact bQ (vB (a0.N == (0 : Int))) (congrArg vB (sI h))
/-- cardgame/cardgameref17.Word -/
def r17_Word (a0 : Int) : Option ((List UInt8)) :=
 (some (if (decide (a0 < (1 : Int))) = true then true else decide ((26 : Int) < a0))).bind fun b1 =>
 (if b1 = true then
  some ([] : List UInt8)
 else
  (idx ([str_damage, str_destroy, str_move, str_draw, str_discard, str_gain, str_lose, str_tap, str_untap, str_put, str_take, str_create, str_mod, str_mana, str_counter, str_copy, str_become, str_sacrifice, str_mill, str_scry, str_search, str_shield, str_turn, str_win, str_defeat, str_venom] : List (List UInt8)) (wrap64 (a0 - (1 : Int)))).bind fun e3 =>
  some e3)
def r17_Word_C (a0 : Int) (r : (List UInt8)) : Prop := PCall Tryz.prog I0 120 [vI a0] (· = vS r)
theorem r17_Word_ok {a0 : Int} {r : (List UInt8)} (h : r17_Word a0 = some r) : r17_Word_C a0 r := by
 refine PCall.body I0_stable (by kernel_rfl) Tryz.func120 rfl Tryz.ntmps120 (rs := [.tmp 2]) rfl rfl ?_
 intro w0 av old gv
 unfold r17_Word at h
 refine Rg [.a] (sl 16 [(0, vI a0)] []) (aN) ?_
 refine Holds.seq ?_
 obtain ⟨b1, hb1, h⟩ := bS h
 refine Rg [.a, .a, .a, .a, .a, (.v (vB b1))] (sl 16 [(0, vI a0), (9, vB b1)] []) (aG ((decide (a0 < (1 : Int))) == false) <| aF (decide (a0 < (1 : Int))) <| aB hb1 <| aN) ?_
 refine iB h (fun b2 h => ?_) (fun b2 h => ?_)
 · refine Rg [.a] (sl 16 [(2, vS ([] : List UInt8))] []) (aN) ?_
   refine Holds.ret ?_
   refine Tr ?_
   exact bQ (vS ([] : List UInt8)) (congrArg vS (sI h))
 · refine Holds.skip ?_
   refine Tn ?_
   refine Rg [.a, .a] (sl 16 [(0, vI a0), (3, vO [10])] [rw_ [10] 9 1 eS ([str_damage, str_destroy, str_move, str_draw, str_discard, str_gain, str_lose, str_tap, str_untap, str_put, str_take, str_create, str_mod, str_mana, str_counter, str_copy, str_become, str_sacrifice, str_mill, str_scry, str_search, str_shield, str_turn, str_win, str_defeat, str_venom] : List (List UInt8))]) (aN) ?_
   obtain ⟨e3, he3, h⟩ := bS h
   refine Rg [.a, .a, .a, .a, (.v (vS e3)), .a] (sl 16 [(2, vS e3)] []) (aC (idx_b he3) <| aC (eld he3 lenS 0 1 false (vS e3)) <| aC (Eq.refl (vS e3)) <| aN) ?_
   refine Holds.ret ?_
   exact bQ (vS e3) (congrArg vS (sI h))
/-- cardgame/cardgameref16.numbered -/
def r16_numbered (a0 : Int) : Option (Bool) :=
 (some (if (a0 == (3 : Int)) = true then true else a0 == (8 : Int))).bind fun b1 =>
 some b1
def r16_numbered_C (a0 : Int) (r : Bool) : Prop := PCall Tryz.prog I0 144 [vI a0] (· = vB r)
theorem r16_numbered_ok {a0 : Int} {r : Bool} (h : r16_numbered a0 = some r) : r16_numbered_C a0 r := by
 refine PCall.body I0_stable (by kernel_rfl) Tryz.func144 rfl Tryz.ntmps144 (rs := [.tmp 2]) rfl rfl ?_
 intro w0 av old gv
 unfold r16_numbered at h
 refine Rg [.a] (sl 9 [(0, vI a0)] []) (aN) ?_
 obtain ⟨b1, hb1, h⟩ := bS h
 refine Rg [.a, .a, .a, .a, .a, (.v (vB b1)), .a] (sl 9 [(2, vB b1)] []) (aG ((a0 == (3 : Int)) == false) <| aF (a0 == (3 : Int)) <| aB hb1 <| aN) ?_
 refine Holds.ret ?_
 exact bQ (vB b1) (congrArg vB (sI h))
/-- cardgame/cardgameref12.Name -/
def r12_Name (a0 : Int) : Option ((List UInt8)) :=
 (if (a0 == (0 : Int)) = true then
  some str_plus
 else
  (if (a0 == (1 : Int)) = true then
   some str_minus
  else
   (if (a0 == (2 : Int)) = true then
    some str_charge
   else
    some ([] : List UInt8))))
def r12_Name_C (a0 : Int) (r : (List UInt8)) : Prop := PCall Tryz.prog I0 123 [vI a0] (· = vS r)
theorem r12_Name_ok {a0 : Int} {r : (List UInt8)} (h : r12_Name a0 = some r) : r12_Name_C a0 r := by
 refine PCall.body I0_stable (by kernel_rfl) Tryz.func123 rfl Tryz.ntmps123 (rs := [.tmp 2]) rfl rfl ?_
 intro w0 av old gv
 unfold r12_Name at h
 refine Rg [.a] (sl 10 [(0, vI a0)] []) (aN) ?_
 refine Holds.seq ?_
 refine Rg [.a] (sl 10 [(3, vI a0)] []) (aN) ?_
 refine Holds.block ?_
 refine Rg [.a, .a] (sl 10 [(3, vI a0), (4, vB (a0 == (0 : Int)))] []) (aN) ?_
 refine iB h (fun b1 h => ?_) (fun b1 h => ?_)
 · refine Rg [.a] (sl 10 [(2, vS str_plus)] []) (aN) ?_
   refine Holds.ret ?_
   refine blockQ.ret ?_
   refine Tr ?_
   exact bQ (vS str_plus) (congrArg vS (sI h))
 · refine Rg [.a, .a] (sl 10 [(3, vI a0), (6, vB (a0 == (1 : Int)))] []) (aN) ?_
   refine iB h (fun b2 h => ?_) (fun b2 h => ?_)
   · refine Rg [.a] (sl 10 [(2, vS str_minus)] []) (aN) ?_
     refine Holds.ret ?_
     refine blockQ.ret ?_
     refine Tr ?_
     exact bQ (vS str_minus) (congrArg vS (sI h))
   · refine Rg [.a, .a] (sl 10 [(8, vB (a0 == (2 : Int)))] []) (aN) ?_
     refine iB h (fun b3 h => ?_) (fun b3 h => ?_)
     · refine Rg [.a] (sl 10 [(2, vS str_charge)] []) (aN) ?_
       refine Holds.ret ?_
       refine blockQ.ret ?_
       refine Tr ?_
       exact bQ (vS str_charge) (congrArg vS (sI h))
     · refine Holds.skip ?_
       refine blockQ.normal ?_
       refine Tn ?_
       refine Rg [.a] (sl 10 [(2, vS ([] : List UInt8))] []) (aN) ?_
       refine Holds.ret ?_
       exact bQ (vS ([] : List UInt8)) (congrArg vS (sI h))
/-- cardgame/cardgameref21.fast -/
def r21_fast (a0 : SCard) : Option (Bool) :=
 (some (if (a0.Line.Types == (2 : Int)) = true then true else a0.Line.Types == (4 : Int))).bind fun b1 =>
 some b1
def r21_fast_C (a0 : SCard) (r : Bool) : Prop := PCall Tryz.prog I0 61 [vA encSCard a0] (· = vB r)
theorem r21_fast_ok {a0 : SCard} {r : Bool} (h : r21_fast a0 = some r) : r21_fast_C a0 r := by
 refine PCall.body I0_stable (by kernel_rfl) Tryz.func61 rfl Tryz.ntmps61 (rs := [.tmp 2]) rfl rfl ?_
 intro w0 av old gv
 unfold r21_fast at h
 refine Rg [.a, .a] (sl 13 [(1, vP [1] (0))] [bx [1] (encSCard a0)]) (aN) ?_
 obtain ⟨b1, hb1, h⟩ := bS h
 refine Rg [.a, .a, .a, .a, .a, .a, .a, .a, .a, (.v (vB b1)), .a] (sl 13 [(2, vB b1)] []) (aG ((a0.Line.Types == (2 : Int)) == false) <| aG ((a0.Line.Types == (2 : Int)) == false) <| aG ((a0.Line.Types == (2 : Int)) == false) <| aF (a0.Line.Types == (2 : Int)) <| aB hb1 <| aN) ?_
 refine Holds.ret ?_
 exact bQ (vB b1) (congrArg vB (sI h))
def r22_Find_J1  : Option (Int) :=
 some (-1 : Int)
def r22_Find_B5 (a0 : List (SCard)) (a1 : List UInt8) (i_t5_3 : Int) : Option ((Int) ⊕ (Int ⊕ Unit)) :=
 (if (decide (i_t5_3 < (a0.length : Int))) = true then
  (idx a0 i_t5_3).bind fun e7 =>
  (if (e7.Name == a1) = true then
   some (.inr (.inl i_t5_3))
  else
   some (.inl (wrap64 (i_t5_3 + (1 : Int)))))
 else
  some (.inr (.inr ())))
/-- cardgame/cardgameref22.Find -/
def r22_Find (a0 : List (SCard)) (a1 : List UInt8) : Option (Int) :=
 (iter (fun (v : Int) => r22_Find_B5 a0 a1 v) FU (0 : Int)).bind (Sum.elim (fun o0 => some o0) (fun o1 => r22_Find_J1))
def r22_Find_C (a0 : List (SCard)) (a1 : List UInt8) (r : Int) : Prop := PCall Tryz.prog I0 47 [vL encSCard a0, vS a1] (· = vI r)
theorem r22_Find_ok {a0 : List (SCard)} {a1 : List UInt8} {r : Int} (h : r22_Find a0 a1 = some r) : r22_Find_C a0 a1 r := by
 refine PCall.body I0_stable (by kernel_rfl) Tryz.func47 rfl Tryz.ntmps47 (rs := [.tmp 4]) rfl rfl ?_
 intro w0 av old gv
 unfold r22_Find at h
 refine Rg [.a] (sl 20 [(0, vL encSCard a0), (1, vS a1)] []) (aN) ?_
 refine Sj (X := Unit) (fun v => (sl 20 [] [])) (fun v => r22_Find_J1 = some r) ?_ ?_
 · refine Rg [.a] (sl 20 [(0, vL encSCard a0), (1, vS a1), (5, vI (0 : Int))] []) (aN) ?_
   refine Holds.block ?_
   obtain ⟨oB5, hiB5, h⟩ := bS h
   refine It (fun (v : Int) => (sl 20 [(0, vL encSCard a0), (1, vS a1), (5, vI v)] [])) hiB5 (wT) ?_
   rintro i_t5_3 zB5 hzB5 hoB5
   replace hzB5 : r22_Find_B5 a0 a1 i_t5_3 = some zB5 := hzB5
   unfold r22_Find_B5 at hzB5
   refine Holds.seq ?_
   refine Rg [.a, .a, .a, .a] (sl 20 [(0, vL encSCard a0), (1, vS a1), (5, vI i_t5_3), (9, vB (decide (i_t5_3 < (a0.length : Int))))] []) (aN) ?_
   refine iB hzB5 (fun b6 hzB5 => ?_) (fun b6 hzB5 => ?_)
   · refine Holds.skip ?_
     refine Tn ?_
     refine Holds.seq ?_
     refine Holds.block ?_
     obtain ⟨e7, he7, hzB5⟩ := bS hzB5
     refine Rg [.a, .a, .a, .a, (.v (vS e7.Name)), .a, .a] (sl 20 [(0, vL encSCard a0), (1, vS a1), (5, vI i_t5_3), (18, vB (e7.Name == a1))] []) (aC (idx_b he7) <| aC (eld he7 lenSCard 0 1 false (vS e7.Name)) <| aC (Eq.refl (vS e7.Name)) <| aN) ?_
     refine iB hzB5 (fun b8 hzB5 => ?_) (fun b8 hzB5 => ?_)
     · refine Rg [.a, .a] (sl 20 [(4, vI i_t5_3)] []) (aN) ?_
       refine Holds.ret ?_
       refine blockQ.ret ?_
       refine Tr ?_
       have hoB5_ := hoB5 _ (sI hzB5).symm
       subst hoB5_
       replace h := sumL h
       refine Tr ?_
       refine blockQ.ret ?_
       refine Tr ?_
       exact bQ (vI i_t5_3) (congrArg vI (sI h))
     · refine Holds.skip ?_
       refine blockQ.normal ?_
       refine Tn ?_
       refine Re [.a, .a, .a] (sl 20 [(0, vL encSCard a0), (1, vS a1), (5, vI (wrap64 (i_t5_3 + (1 : Int)))), (10, vI i_t5_3), (11, vI (wrap64 (i_t5_3 + (1 : Int)))), (18, vB (e7.Name == a1))] []) (aN) ?_
       refine Tn ⟨(wrap64 (i_t5_3 + (1 : Int))), (sI hzB5).symm, wT⟩
   · refine Holds.exit ?_
     refine thenQ.exit ?_
     have hoB5_ := hoB5 _ (sI hzB5).symm
     subst hoB5_
     replace h := sumR h
     refine thenQ.exit ?_
     refine blockQ.out ?_
     refine Tn ⟨(), h, wT⟩
 · rintro _ hJ1
   replace hJ1 : r22_Find_J1 = some r := hJ1
   unfold r22_Find_J1 at hJ1
   refine Rg [.a] (sl 20 [(4, vI (-1 : Int))] []) (aN) ?_
   refine Holds.ret ?_
   exact bQ (vI (-1 : Int)) (congrArg vI (sI hJ1))
/-- cardgame/num.Clamp -/
def num_Clamp (a0 : Int) : Option (Int) :=
 some (if (1000000 : Int) < (if a0 < (-1000000 : Int) then (-1000000 : Int) else a0) then (1000000 : Int) else (if a0 < (-1000000 : Int) then (-1000000 : Int) else a0))
def num_Clamp_C (a0 : Int) (r : Int) : Prop := PCall Tryz.prog I0 43 [vI a0] (· = vI r)
theorem num_Clamp_ok {a0 : Int} {r : Int} (h : num_Clamp a0 = some r) : num_Clamp_C a0 r := by
 refine PCall.body I0_stable (by kernel_rfl) Tryz.func43 rfl Tryz.ntmps43 (rs := [.tmp 2]) rfl rfl ?_
 intro w0 av old gv
 unfold num_Clamp at h
 refine Rg [.a] (sl 6 [(0, vI a0)] []) (aN) ?_
 refine Rg [.a, .a, .a, .a] (sl 6 [(2, vI (if (1000000 : Int) < (if a0 < (-1000000 : Int) then (-1000000 : Int) else a0) then (1000000 : Int) else (if a0 < (-1000000 : Int) then (-1000000 : Int) else a0)))] []) (aC (show (True ∧ (True ∧ True)) ∧ True from ⟨⟨trivial, ⟨trivial, trivial⟩⟩, trivial⟩) <| aC (show (True ∧ (True ∧ True)) ∧ True from ⟨⟨trivial, ⟨trivial, trivial⟩⟩, trivial⟩) <| aN) ?_
 refine Holds.ret ?_
 exact bQ (vI (if (1000000 : Int) < (if a0 < (-1000000 : Int) then (-1000000 : Int) else a0) then (1000000 : Int) else (if a0 < (-1000000 : Int) then (-1000000 : Int) else a0))) (congrArg vI (sI h))
/-- cardgame/num.Text -/
def num_Text (a0 : Int) : Option ((List UInt8)) :=
 (dItoa a0).bind fun r1 =>
 some r1
def num_Text_C (a0 : Int) (r : (List UInt8)) : Prop := PCall Tryz.prog I0 25 [vI a0] (· = vS r)
theorem num_Text_ok {a0 : Int} {r : (List UInt8)} (h : num_Text a0 = some r) : num_Text_C a0 r := by
 refine PCall.body I0_stable (by kernel_rfl) Tryz.func25 rfl Tryz.ntmps25 (rs := [.tmp 2]) rfl rfl ?_
 intro w0 av old gv
 unfold num_Text at h
 refine Rg [.a] (sl 5 [(0, vI a0)] []) (aN) ?_
 obtain ⟨r1, hr1, h⟩ := bS h
 refine Rg [.a, (.c (vS r1)), .a] (sl 5 [(2, vS r1)] []) (aC (okItoa hr1) <| aN) ?_
 refine Holds.ret ?_
 exact bQ (vS r1) (congrArg vS (sI h))
end Go.PL
