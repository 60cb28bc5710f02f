/- Functions of the program, as partial functions in Lean, with proofs. -/
import Derived.Test.YtieikooalmfmfaaDoorPlMaB
namespace Go.PL
open Go Go.RowKit Go.Proofs
set_option maxRecDepth 100000
set_option linter.all false
set_option maxHeartbeats 1000000
attribute [local irreducible] Holds thenQ blockQ
def mana_Is_J1 (a0 : SCost) : Option (Bool) :=
 (some (if (decide ((0 : Int) ≤ a0.Generic)) = true then decide (a0.Generic ≤ (99 : Int)) else false)).bind fun b2 =>
 (some (if b2 = true then decide ((0 : Int) ≤ a0.X) else false)).bind fun b3 =>
 (some (if b3 = true then decide (a0.X ≤ (2 : Int)) else false)).bind fun b4 =>
 some b4
def mana_Is_B7 (a0 : SCost) (vt7_6 : Int) : Option ((Int) ⊕ (Unit ⊕ Unit)) :=
 (if (decide (vt7_6 < (5 : Int))) = true then
  (idx a0.Color.l vt7_6).bind fun e9 =>
  (some (if (decide (e9 < (0 : Int))) = true then true else decide ((9 : Int) < e9))).bind fun b10 =>
  (if b10 = true then
   some (.inr (.inl ()))
  else
   some (.inl (wrap64 (vt7_6 + (1 : Int)))))
 else
  some (.inr (.inr ())))
/-- cardgame/mana.Is -/
def mana_Is (a0 : SCost) : Option (Bool) :=
 (iter (fun (v : Int) => mana_Is_B7 a0 v) FU (0 : Int)).bind (Sum.elim (fun o0 => some false) (fun o1 => mana_Is_J1 a0))
def mana_Is_C (a0 : SCost) (r : Bool) : Prop := PCall Tryd.prog I0 21 [vA encSCost a0] (· = vB r)
theorem mana_Is_ok {a0 : SCost} {r : Bool} (h : mana_Is a0 = some r) : mana_Is_C a0 r := by
 refine PCall.body I0_stable (by kernel_rfl) Tryd.func21 rfl Tryd.ntmps21 (rs := [.tmp 2]) rfl rfl ?_
 intro w0 av old gv
 unfold mana_Is at h
 refine Rg [.a, .a] (sl 35 [(1, vP [1] (0))] [bx [1] (encSCost a0)]) (aN) ?_
 refine Sj (X := Unit) (fun v => (sl 35 [(1, vP [1] (0))] [bx [1] (encSCost a0)])) (fun v => mana_Is_J1 a0 = some r) ?_ ?_
 · refine Rg [.a, .a, .a] (sl 35 [(1, vP [1] (0)), (6, vA (eA5 (eI .i64)) a0.Color), (7, vI (0 : Int))] [bx [1] (encSCost a0)]) (aN) ?_
   refine Holds.block ?_
   obtain ⟨oB7, hiB7, h⟩ := bS h
   refine It (fun (v : Int) => (sl 35 [(1, vP [1] (0)), (6, vA (eA5 (eI .i64)) a0.Color), (7, vI v)] [bx [1] (encSCost a0)])) hiB7 (wT) ?_
   rintro vt7_6 zB7 hzB7 hoB7
   replace hzB7 : mana_Is_B7 a0 vt7_6 = some zB7 := hzB7
   unfold mana_Is_B7 at hzB7
   refine Rg [.a] (sl 35 [(1, vP [1] (0)), (6, vA (eA5 (eI .i64)) a0.Color), (7, vI vt7_6), (8, vB (decide (vt7_6 < (5 : Int))))] [bx [1] (encSCost a0)]) (aN) ?_
   refine Holds.seq ?_
   refine iB hzB7 (fun b8 hzB7 => ?_) (fun b8 hzB7 => ?_)
   · refine Holds.skip ?_
     refine Tn ?_
     refine Holds.seq ?_
     refine Holds.block ?_
     obtain ⟨e9, he9, hzB7⟩ := bS hzB7
     refine Rg [(.v (vI e9)), .a] (sl 35 [(1, vP [1] (0)), (4, vI e9), (6, vA (eA5 (eI .i64)) a0.Color), (7, vI vt7_6)] [bx [1] (encSCost a0)]) (aC (show (0 ≤ vt7_6 ∧ vt7_6 < ((5 : Nat) : Int)) ∧ (vt7_6).toNat * 1 + 1 ≤ (eA5 (eI .i64) a0.Color).length ∧ toV false ((vt7_6).toNat * 1) 1 (eA5 (eI .i64) a0.Color) = vI e9 from ⟨idx_b he9, arr_ld (e := eI .i64) (N := 1) (l := a0.Color.l) (base := 0) (pre := []) (post := []) (by kernel_rfl) rfl he9 (lenI .i64) (o := 0) (by simp) (by decide) (by decide) (by kernel_rfl)⟩) <| aC (Eq.refl (vI e9)) <| aN) ?_
     obtain ⟨b10, hb10, hzB7⟩ := bS hzB7
     refine Rg [.a, .a, .a, .a, .a, (.v (vB b10))] (sl 35 [(1, vP [1] (0)), (6, vA (eA5 (eI .i64)) a0.Color), (7, vI vt7_6), (15, vB b10)] [bx [1] (encSCost a0)]) (aG ((decide (e9 < (0 : Int))) == false) <| aF (decide (e9 < (0 : Int))) <| aB hb10 <| aN) ?_
     refine iB hzB7 (fun b11 hzB7 => ?_) (fun b11 hzB7 => ?_)
     · refine Rg [.a] (sl 35 [(2, vB false)] []) (aN) ?_
       refine Holds.ret ?_
       refine blockQ.ret ?_
       refine Tr ?_
       have hoB7_ := hoB7 _ (sI hzB7).symm
       subst hoB7_
       replace h := sumL h
       refine Tr ?_
       refine blockQ.ret ?_
       refine Tr ?_
       exact bQ (vB false) (congrArg vB (sI h))
     · refine Holds.skip ?_
       refine blockQ.normal ?_
       refine Tn ?_
       refine Re [.a, .a] (sl 35 [(1, vP [1] (0)), (6, vA (eA5 (eI .i64)) a0.Color), (7, vI (wrap64 (vt7_6 + (1 : Int)))), (15, vB b10), (16, vI (wrap64 (vt7_6 + (1 : Int))))] [bx [1] (encSCost a0)]) (aN) ?_
       refine Tn ⟨(wrap64 (vt7_6 + (1 : Int))), (sI hzB7).symm, wT⟩
   · refine Holds.exit ?_
     refine thenQ.exit ?_
     have hoB7_ := hoB7 _ (sI hzB7).symm
     subst hoB7_
     replace h := sumR h
     refine thenQ.exit ?_
     refine blockQ.out ?_
     refine Tn ⟨(), h, wT⟩
 · rintro _ hJ1
   replace hJ1 : mana_Is_J1 a0 = some r := hJ1
   unfold mana_Is_J1 at hJ1
   obtain ⟨b2, hb2, hJ1⟩ := bS hJ1
   obtain ⟨b3, hb3, hJ1⟩ := bS hJ1
   obtain ⟨b4, hb4, hJ1⟩ := bS hJ1
   refine Rg [.a, .a, .a, .a, .a, .a, .a, (.v (vB b2)), .a, .a, .a, .a, (.v (vB b3)), .a, .a, .a, .a, (.v (vB b4)), .a] (sl 35 [(2, vB b4)] []) (aG ((decide ((0 : Int) ≤ a0.Generic)) == true) <| aG ((decide ((0 : Int) ≤ a0.Generic)) == true) <| aT (decide ((0 : Int) ≤ a0.Generic)) <| aB hb2 <| aG (b2 == true) <| aG (b2 == true) <| aT b2 <| aB hb3 <| aG (b3 == true) <| aG (b3 == true) <| aT b3 <| aB hb4 <| aN) ?_
   refine Holds.ret ?_
   exact bQ (vB b4) (congrArg vB (sI hJ1))
def mana_Whole_J1  : Option (Bool) :=
 some true
def mana_Whole_B4 (a0 : A6 (Int)) (vt6_3 : Int) : Option ((Int) ⊕ (Unit ⊕ Unit)) :=
 (if (decide (vt6_3 < (6 : Int))) = true then
  (idx a0.l vt6_3).bind fun e6 =>
  (some (if (decide (e6 < (0 : Int))) = true then true else decide ((1000000 : Int) < e6))).bind fun b7 =>
  (if b7 = true then
   some (.inr (.inl ()))
  else
   some (.inl (wrap64 (vt6_3 + (1 : Int)))))
 else
  some (.inr (.inr ())))
/-- cardgame/mana.Whole -/
def mana_Whole (a0 : A6 (Int)) : Option (Bool) :=
 (iter (fun (v : Int) => mana_Whole_B4 a0 v) FU (0 : Int)).bind (Sum.elim (fun o0 => some false) (fun o1 => mana_Whole_J1))
def mana_Whole_C (a0 : A6 (Int)) (r : Bool) : Prop := PCall Tryd.prog I0 28 [vA (eA6 (eI .i64)) a0] (· = vB r)
theorem mana_Whole_ok {a0 : A6 (Int)} {r : Bool} (h : mana_Whole a0 = some r) : mana_Whole_C a0 r := by
 refine PCall.body I0_stable (by kernel_rfl) Tryd.func28 rfl Tryd.ntmps28 (rs := [.tmp 2]) rfl rfl ?_
 intro w0 av old gv
 unfold mana_Whole at h
 refine Rg [.a, .a] (sl 16 [(1, vP [1] (0))] [bx [1] (eA6 (eI .i64) a0)]) (aN) ?_
 refine Sj (X := Unit) (fun v => (sl 16 [] [])) (fun v => mana_Whole_J1 = some r) ?_ ?_
 · refine Rg [.a, .a] (sl 16 [(5, vA (eA6 (eI .i64)) a0), (6, vI (0 : Int))] []) (aN) ?_
   refine Holds.block ?_
   obtain ⟨oB4, hiB4, h⟩ := bS h
   refine It (fun (v : Int) => (sl 16 [(5, vA (eA6 (eI .i64)) a0), (6, vI v)] [])) hiB4 (wT) ?_
   rintro vt6_3 zB4 hzB4 hoB4
   replace hzB4 : mana_Whole_B4 a0 vt6_3 = some zB4 := hzB4
   unfold mana_Whole_B4 at hzB4
   refine Rg [.a] (sl 16 [(5, vA (eA6 (eI .i64)) a0), (6, vI vt6_3), (7, vB (decide (vt6_3 < (6 : Int))))] []) (aN) ?_
   refine Holds.seq ?_
   refine iB hzB4 (fun b5 hzB4 => ?_) (fun b5 hzB4 => ?_)
   · refine Holds.skip ?_
     refine Tn ?_
     refine Holds.seq ?_
     refine Holds.block ?_
     obtain ⟨e6, he6, hzB4⟩ := bS hzB4
     refine Rg [(.v (vI e6)), .a] (sl 16 [(4, vI e6), (5, vA (eA6 (eI .i64)) a0), (6, vI vt6_3)] []) (aC (show (0 ≤ vt6_3 ∧ vt6_3 < ((6 : Nat) : Int)) ∧ (vt6_3).toNat * 1 + 1 ≤ (eA6 (eI .i64) a0).length ∧ toV false ((vt6_3).toNat * 1) 1 (eA6 (eI .i64) a0) = vI e6 from ⟨idx_b he6, arr_ld (e := eI .i64) (N := 1) (l := a0.l) (base := 0) (pre := []) (post := []) (by kernel_rfl) rfl he6 (lenI .i64) (o := 0) (by simp) (by decide) (by decide) (by kernel_rfl)⟩) <| aC (Eq.refl (vI e6)) <| aN) ?_
     obtain ⟨b7, hb7, hzB4⟩ := bS hzB4
     refine Rg [.a, .a, .a, .a, .a, (.v (vB b7))] (sl 16 [(5, vA (eA6 (eI .i64)) a0), (6, vI vt6_3), (14, vB b7)] []) (aG ((decide (e6 < (0 : Int))) == false) <| aF (decide (e6 < (0 : Int))) <| aB hb7 <| aN) ?_
     refine iB hzB4 (fun b8 hzB4 => ?_) (fun b8 hzB4 => ?_)
     · refine Rg [.a] (sl 16 [(2, vB false)] []) (aN) ?_
       refine Holds.ret ?_
       refine blockQ.ret ?_
       refine Tr ?_
       have hoB4_ := hoB4 _ (sI hzB4).symm
       subst hoB4_
       replace h := sumL h
       refine Tr ?_
       refine blockQ.ret ?_
       refine Tr ?_
       exact bQ (vB false) (congrArg vB (sI h))
     · refine Holds.skip ?_
       refine blockQ.normal ?_
       refine Tn ?_
       refine Re [.a, .a] (sl 16 [(5, vA (eA6 (eI .i64)) a0), (6, vI (wrap64 (vt6_3 + (1 : Int)))), (14, vB b7), (15, vI (wrap64 (vt6_3 + (1 : Int))))] []) (aN) ?_
       refine Tn ⟨(wrap64 (vt6_3 + (1 : Int))), (sI hzB4).symm, wT⟩
   · refine Holds.exit ?_
     refine thenQ.exit ?_
     have hoB4_ := hoB4 _ (sI hzB4).symm
     subst hoB4_
     replace h := sumR h
     refine thenQ.exit ?_
     refine blockQ.out ?_
     refine Tn ⟨(), h, wT⟩
 · rintro _ hJ1
   replace hJ1 : mana_Whole_J1 = some r := hJ1
   unfold mana_Whole_J1 at hJ1
   refine Rg [.a] (sl 16 [(2, vB true)] []) (aN) ?_
   refine Holds.ret ?_
   exact bQ (vB true) (congrArg vB (sI hJ1))
/-- cardgame/num.Clamp -/
def num_Clamp (a0 : Int) : Option (Int) :=
 some (if (1000000 : Int) < (if a0 < (-1000000 : Int) then (-1000000 : Int) else a0) then (1000000 : Int) else (if a0 < (-1000000 : Int) then (-1000000 : Int) else a0))
def num_Clamp_C (a0 : Int) (r : Int) : Prop := PCall Tryd.prog I0 65 [vI a0] (· = vI r)
theorem num_Clamp_ok {a0 : Int} {r : Int} (h : num_Clamp a0 = some r) : num_Clamp_C a0 r := by
 refine PCall.body I0_stable (by kernel_rfl) Tryd.func65 rfl Tryd.ntmps65 (rs := [.tmp 2]) rfl rfl ?_
 intro w0 av old gv
 unfold num_Clamp at h
 refine Rg [.a] (sl 6 [(0, vI a0)] []) (aN) ?_
 refine Rg [.a, .a, .a, .a] (sl 6 [(2, vI (if (1000000 : Int) < (if a0 < (-1000000 : Int) then (-1000000 : Int) else a0) then (1000000 : Int) else (if a0 < (-1000000 : Int) then (-1000000 : Int) else a0)))] []) (aC (show (True ∧ (True ∧ True)) ∧ True from ⟨⟨trivial, ⟨trivial, trivial⟩⟩, trivial⟩) <| aC (show (True ∧ (True ∧ True)) ∧ True from ⟨⟨trivial, ⟨trivial, trivial⟩⟩, trivial⟩) <| aN) ?_
 refine Holds.ret ?_
 exact bQ (vI (if (1000000 : Int) < (if a0 < (-1000000 : Int) then (-1000000 : Int) else a0) then (1000000 : Int) else (if a0 < (-1000000 : Int) then (-1000000 : Int) else a0))) (congrArg vI (sI h))
/-- cardgame/num.Text -/
def num_Text (a0 : Int) : Option ((List UInt8)) :=
 (dItoa a0).bind fun r1 =>
 some r1
def num_Text_C (a0 : Int) (r : (List UInt8)) : Prop := PCall Tryd.prog I0 48 [vI a0] (· = vS r)
theorem num_Text_ok {a0 : Int} {r : (List UInt8)} (h : num_Text a0 = some r) : num_Text_C a0 r := by
 refine PCall.body I0_stable (by kernel_rfl) Tryd.func48 rfl Tryd.ntmps48 (rs := [.tmp 2]) rfl rfl ?_
 intro w0 av old gv
 unfold num_Text at h
 refine Rg [.a] (sl 5 [(0, vI a0)] []) (aN) ?_
 obtain ⟨r1, hr1, h⟩ := bS h
 refine Rg [.a, (.c (vS r1)), .a] (sl 5 [(2, vS r1)] []) (aC (okItoa hr1) <| aN) ?_
 refine Holds.ret ?_
 exact bQ (vS r1) (congrArg vS (sI h))
def r08_Is_J5  : Option (Bool) :=
 some true
def r08_Is_B8 (a0 : SCost) (i_t3_7 : Int) : Option ((Int) ⊕ (Unit ⊕ Unit)) :=
 (if (decide (i_t3_7 < (5 : Int))) = true then
  (idx a0.Color.l i_t3_7).bind fun e10 =>
  (gd ((decide (e10 < (0 : Int))) == false) (idx a0.Color.l i_t3_7)).bind fun e11 =>
  (some (if (decide (e10 < (0 : Int))) = true then true else decide ((9 : Int) < e11))).bind fun b12 =>
  (if b12 = true then
   some (.inr (.inl ()))
  else
   some (.inl (wrap64 (i_t3_7 + (1 : Int)))))
 else
  some (.inr (.inr ())))
/-- cardgame/cardgameref08.Is -/
def r08_Is (a0 : SCost) : Option (Bool) :=
 (some (if (decide (a0.Generic < (0 : Int))) = true then true else decide ((99 : Int) < a0.Generic))).bind fun b1 =>
 (some (if b1 = true then true else decide (a0.X < (0 : Int)))).bind fun b2 =>
 (some (if b2 = true then true else decide ((2 : Int) < a0.X))).bind fun b3 =>
 (if b3 = true then
  some false
 else
  (iter (fun (v : Int) => r08_Is_B8 a0 v) FU (0 : Int)).bind (Sum.elim (fun o0 => some false) (fun o1 => r08_Is_J5)))
def r08_Is_C (a0 : SCost) (r : Bool) : Prop := PCall Tryd.prog I0 22 [vA encSCost a0] (· = vB r)
theorem r08_Is_ok {a0 : SCost} {r : Bool} (h : r08_Is a0 = some r) : r08_Is_C a0 r := by
 refine PCall.body I0_stable (by kernel_rfl) Tryd.func22 rfl Tryd.ntmps22 (rs := [.tmp 2]) rfl rfl ?_
 intro w0 av old gv
 unfold r08_Is at h
 refine Rg [.a, .a] (sl 38 [(1, vP [1] (0))] [bx [1] (encSCost a0)]) (aN) ?_
 refine Holds.seq ?_
 obtain ⟨b1, hb1, h⟩ := bS h
 obtain ⟨b2, hb2, h⟩ := bS h
 obtain ⟨b3, hb3, h⟩ := bS h
 refine Rg [.a, .a, .a, .a, .a, .a, .a, (.v (vB b1)), .a, .a, .a, .a, (.v (vB b2)), .a, .a, .a, .a, (.v (vB b3))] (sl 38 [(1, vP [1] (0)), (21, vB b3)] [bx [1] (encSCost a0)]) (aG ((decide (a0.Generic < (0 : Int))) == false) <| aG ((decide (a0.Generic < (0 : Int))) == false) <| aF (decide (a0.Generic < (0 : Int))) <| aB hb1 <| aG (b1 == false) <| aG (b1 == false) <| aF b1 <| aB hb2 <| aG (b2 == false) <| aG (b2 == false) <| aF b2 <| aB hb3 <| aN) ?_
 refine iB h (fun b4 h => ?_) (fun b4 h => ?_)
 · refine Rg [.a] (sl 38 [(2, vB false)] []) (aN) ?_
   refine Holds.ret ?_
   refine Tr ?_
   exact bQ (vB false) (congrArg vB (sI h))
 · refine Holds.skip ?_
   refine Tn ?_
   refine Sj (X := Unit) (fun v => (sl 38 [] [])) (fun v => r08_Is_J5 = some r) ?_ ?_
   · refine Rg [.a] (sl 38 [(1, vP [1] (0)), (3, vI (0 : Int))] [bx [1] (encSCost a0)]) (aN) ?_
     refine Holds.block ?_
     obtain ⟨oB8, hiB8, h⟩ := bS h
     refine It (fun (v : Int) => (sl 38 [(1, vP [1] (0)), (3, vI v)] [bx [1] (encSCost a0)])) hiB8 (wT) ?_
     rintro i_t3_7 zB8 hzB8 hoB8
     replace hzB8 : r08_Is_B8 a0 i_t3_7 = some zB8 := hzB8
     unfold r08_Is_B8 at hzB8
     refine Holds.seq ?_
     refine Rg [.a, .a] (sl 38 [(1, vP [1] (0)), (3, vI i_t3_7), (23, vB (decide (i_t3_7 < (5 : Int))))] [bx [1] (encSCost a0)]) (aN) ?_
     refine iB hzB8 (fun b9 hzB8 => ?_) (fun b9 hzB8 => ?_)
     · refine Holds.skip ?_
       refine Tn ?_
       refine Holds.seq ?_
       refine Holds.block ?_
       obtain ⟨e10, he10, hzB8⟩ := bS hzB8
       obtain ⟨e11, he11, hzB8⟩ := bS hzB8
       obtain ⟨b12, hb12, hzB8⟩ := bS hzB8
       refine Rg [.a, .a, .a, (.v (vI e10)), .a, .a, .a, .a, .a, (.v (vI e11)), .a, (.v (vB b12))] (sl 38 [(1, vP [1] (0)), (3, vI i_t3_7), (37, vB b12)] [bx [1] (encSCost a0)]) (aC (idx_b he10) <| aC (ald he10 (lenI .i64) (encSCost a0) 2 7 0 1 false (vI e10)) <| aC (Eq.refl (vI e10)) <| aC (fun hg : ((decide (e10 < (0 : Int))) == false) = true => aC (gi ((decide (e10 < (0 : Int))) == false)) <| aC (gi ((decide (e10 < (0 : Int))) == false)) <| aC (gidx_b he11 hg).1 <| aN) <| aC (fun hg : ((decide (e10 < (0 : Int))) == false) = true => aC (gi ((decide (e10 < (0 : Int))) == false)) <| aC (ald (gd_t he11 hg) (lenI .i64) (encSCost a0) 2 7 0 1 false (vI e11)) <| aC (Eq.refl (vI e11)) <| aN) <| aG ((decide (e10 < (0 : Int))) == false) <| aF (decide (e10 < (0 : Int))) <| aB hb12 <| aN) ?_
       refine iB hzB8 (fun b13 hzB8 => ?_) (fun b13 hzB8 => ?_)
       · refine Rg [.a] (sl 38 [(2, vB false)] []) (aN) ?_
         refine Holds.ret ?_
         refine blockQ.ret ?_
         refine Tr ?_
         have hoB8_ := hoB8 _ (sI hzB8).symm
         subst hoB8_
         replace h := sumL h
         refine Tr ?_
         refine blockQ.ret ?_
         refine Tr ?_
         exact bQ (vB false) (congrArg vB (sI h))
       · refine Holds.skip ?_
         refine blockQ.normal ?_
         refine Tn ?_
         refine Re [.a, .a, .a] (sl 38 [(1, vP [1] (0)), (3, vI (wrap64 (i_t3_7 + (1 : Int)))), (24, vI i_t3_7), (25, vI (wrap64 (i_t3_7 + (1 : Int)))), (37, vB b12)] [bx [1] (encSCost a0)]) (aN) ?_
         refine Tn ⟨(wrap64 (i_t3_7 + (1 : Int))), (sI hzB8).symm, wT⟩
     · refine Holds.exit ?_
       refine thenQ.exit ?_
       have hoB8_ := hoB8 _ (sI hzB8).symm
       subst hoB8_
       replace h := sumR h
       refine thenQ.exit ?_
       refine blockQ.out ?_
       refine Tn ⟨(), h, wT⟩
   · rintro _ hJ5
     replace hJ5 : r08_Is_J5 = some r := hJ5
     unfold r08_Is_J5 at hJ5
     refine Rg [.a] (sl 38 [(2, vB true)] []) (aN) ?_
     refine Holds.ret ?_
     exact bQ (vB true) (congrArg vB (sI hJ5))
def r01_digits_J3  (s_t3_2 : List UInt8) : Option ((List UInt8)) :=
 some s_t3_2
def r01_digits_B9  (u_t0_6 : Int) (s_t3_7 : List UInt8) : Option ((Int × (List UInt8)) ⊕ ((List UInt8))) :=
 (if (decide ((0 : Int) < u_t0_6)) = true then
  (need (∀ n ∈ ([IntKind.u8.wrap (IntKind.u64.wrap ((48 : Int) + (Int.tmod u_t0_6 (10 : Int))))] : List (Int)), 0 ≤ n ∧ n < 256)).bind fun u11 =>
  (cat (bytesU ([IntKind.u8.wrap (IntKind.u64.wrap ((48 : Int) + (Int.tmod u_t0_6 (10 : Int))))] : List (Int))) s_t3_7).bind fun s12 =>
  some (.inl ((IntKind.u64.wrap (Int.tdiv u_t0_6 (10 : Int))), s12))
 else
  some (.inr s_t3_7))
/-- cardgame/cardgameref01.digits -/
def r01_digits (a0 : Int) : Option ((List UInt8)) :=
 (need (∀ n ∈ ([IntKind.u8.wrap (IntKind.u64.wrap ((48 : Int) + (Int.tmod a0 (10 : Int))))] : List (Int)), 0 ≤ n ∧ n < 256)).bind fun u1 =>
 (iter (fun (v : Int × (List UInt8)) => r01_digits_B9 v.1 v.2) FU ((IntKind.u64.wrap (Int.tdiv a0 (10 : Int))), (bytesU ([IntKind.u8.wrap (IntKind.u64.wrap ((48 : Int) + (Int.tmod a0 (10 : Int))))] : List (Int))))).bind (fun o0 => r01_digits_J3 o0)
def r01_digits_C (a0 : Int) (r : (List UInt8)) : Prop := PCall Tryd.prog I0 71 [.c (.int .u64 a0)] (· = vS r)
theorem r01_digits_ok {a0 : Int} {r : (List UInt8)} (h : r01_digits a0 = some r) : r01_digits_C a0 r := by
 refine PCall.body I0_stable (by kernel_rfl) Tryd.func71 rfl Tryd.ntmps71 (rs := [.tmp 2]) rfl rfl ?_
 intro w0 av old gv
 unfold r01_digits at h
 refine Rg [.a] (sl 25 [(0, .c (.int .u64 a0))] []) (aN) ?_
 obtain ⟨u1, hu1, h⟩ := bS h
 refine Rg [.a, .a, .a, .a, .a, (.v (vS (bytesU ([IntKind.u8.wrap (IntKind.u64.wrap ((48 : Int) + (Int.tmod a0 (10 : Int))))] : List (Int))))), .a] (sl 25 [(0, .c (.int .u64 a0)), (3, vS (bytesU ([IntKind.u8.wrap (IntKind.u64.wrap ((48 : Int) + (Int.tmod a0 (10 : Int))))] : List (Int))))] []) (aC (show (10 : Int) ≠ 0 from (by decide)) <| aC (show (isByteSlice Tryd.prog 72 = true ∧ isStr Tryd.prog 9 = true) ∧ 1 = 1 ∧ bytesOK (([IntKind.u8.wrap (IntKind.u64.wrap ((48 : Int) + (Int.tmod a0 (10 : Int))))] : List (Int)).flatMap (eI .u8)) from ⟨⟨by kernel_rfl, by kernel_rfl⟩, rfl, bytesOK_flat (need_b hu1)⟩) <| aC (congrArg (fun z => V.c (.str z)) (bytesT_flat ([IntKind.u8.wrap (IntKind.u64.wrap ((48 : Int) + (Int.tmod a0 (10 : Int))))] : List (Int)))) <| aN) ?_
 refine Sj (X := (List UInt8)) (fun v => (sl 25 [(3, vS v)] [])) (fun v => r01_digits_J3 v = some r) ?_ ?_
 · refine Rg [.a, .a, .a] (sl 25 [(0, .c (.int .u64 (IntKind.u64.wrap (Int.tdiv a0 (10 : Int))))), (3, vS (bytesU ([IntKind.u8.wrap (IntKind.u64.wrap ((48 : Int) + (Int.tmod a0 (10 : Int))))] : List (Int))))] []) (aC (show (10 : Int) ≠ 0 from (by decide)) <| aN) ?_
   refine Holds.block ?_
   obtain ⟨oB9, hiB9, h⟩ := bS h
   refine It (fun (v : Int × (List UInt8)) => (sl 25 [(0, .c (.int .u64 v.1)), (3, vS v.2)] [])) hiB9 (wT) ?_
   rintro ⟨u_t0_6, s_t3_7⟩ zB9 hzB9 hoB9
   replace hzB9 : r01_digits_B9 u_t0_6 s_t3_7 = some zB9 := hzB9
   unfold r01_digits_B9 at hzB9
   refine Holds.seq ?_
   refine Rg [.a, .a] (sl 25 [(0, .c (.int .u64 u_t0_6)), (3, vS s_t3_7), (13, vB (decide ((0 : Int) < u_t0_6)))] []) (aN) ?_
   refine iB hzB9 (fun b10 hzB9 => ?_) (fun b10 hzB9 => ?_)
   · refine Holds.skip ?_
     refine Tn ?_
     refine Holds.seq ?_
     refine Holds.block ?_
     obtain ⟨u11, hu11, hzB9⟩ := bS hzB9
     obtain ⟨s12, hs12, hzB9⟩ := bS hzB9
     refine Re [.a, .a, .a, .a, .a, (.v (vS (bytesU ([IntKind.u8.wrap (IntKind.u64.wrap ((48 : Int) + (Int.tmod u_t0_6 (10 : Int))))] : List (Int))))), .a, (.v (vS s12)), .a] (sl 25 [(0, .c (.int .u64 u_t0_6)), (3, vS s12), (13, vB (decide ((0 : Int) < u_t0_6))), (16, .c (.int .u64 u_t0_6)), (17, .c (.int .u64 (Int.tmod u_t0_6 (10 : Int)))), (18, .c (.int .u64 (IntKind.u64.wrap ((48 : Int) + (Int.tmod u_t0_6 (10 : Int)))))), (19, .c (.int .u8 (IntKind.u8.wrap (IntKind.u64.wrap ((48 : Int) + (Int.tmod u_t0_6 (10 : Int))))))), (20, vO [20]), (21, vS (bytesU ([IntKind.u8.wrap (IntKind.u64.wrap ((48 : Int) + (Int.tmod u_t0_6 (10 : Int))))] : List (Int)))), (22, vS s_t3_7), (23, vS s12)] [rw_ [20] 5 1 (eI .u8) ([IntKind.u8.wrap (IntKind.u64.wrap ((48 : Int) + (Int.tmod u_t0_6 (10 : Int))))] : List (Int))]) (aC (show (10 : Int) ≠ 0 from (by decide)) <| aC (show (isByteSlice Tryd.prog 72 = true ∧ isStr Tryd.prog 9 = true) ∧ 1 = 1 ∧ bytesOK (([IntKind.u8.wrap (IntKind.u64.wrap ((48 : Int) + (Int.tmod u_t0_6 (10 : Int))))] : List (Int)).flatMap (eI .u8)) from ⟨⟨by kernel_rfl, by kernel_rfl⟩, rfl, bytesOK_flat (need_b hu11)⟩) <| aC (congrArg (fun z => V.c (.str z)) (bytesT_flat ([IntKind.u8.wrap (IntKind.u64.wrap ((48 : Int) + (Int.tmod u_t0_6 (10 : Int))))] : List (Int)))) <| aC (cat_b hs12) <| aC (congrArg (fun z => V.c (.str z)) (cat_x hs12).symm) <| aN) ?_
     refine blockQ.normal ?_
     refine Tn ?_
     refine Re [.a, .a, .a] (sl 25 [(0, .c (.int .u64 (IntKind.u64.wrap (Int.tdiv u_t0_6 (10 : Int))))), (3, vS s12), (13, vB (decide ((0 : Int) < u_t0_6))), (14, .c (.int .u64 u_t0_6)), (15, .c (.int .u64 (IntKind.u64.wrap (Int.tdiv u_t0_6 (10 : Int))))), (16, .c (.int .u64 u_t0_6)), (17, .c (.int .u64 (Int.tmod u_t0_6 (10 : Int)))), (18, .c (.int .u64 (IntKind.u64.wrap ((48 : Int) + (Int.tmod u_t0_6 (10 : Int)))))), (19, .c (.int .u8 (IntKind.u8.wrap (IntKind.u64.wrap ((48 : Int) + (Int.tmod u_t0_6 (10 : Int))))))), (20, vO [20]), (21, vS (bytesU ([IntKind.u8.wrap (IntKind.u64.wrap ((48 : Int) + (Int.tmod u_t0_6 (10 : Int))))] : List (Int)))), (22, vS s_t3_7), (23, vS s12)] [rw_ [20] 5 1 (eI .u8) ([IntKind.u8.wrap (IntKind.u64.wrap ((48 : Int) + (Int.tmod u_t0_6 (10 : Int))))] : List (Int))]) (aC (show (10 : Int) ≠ 0 from (by decide)) <| aN) ?_
     refine Tn ⟨((IntKind.u64.wrap (Int.tdiv u_t0_6 (10 : Int))), s12), (sI hzB9).symm, wT⟩
   · refine Holds.exit ?_
     refine thenQ.exit ?_
     have hoB9_ := hoB9 _ (sI hzB9).symm
     subst hoB9_
     refine thenQ.exit ?_
     refine blockQ.out ?_
     refine Tn ⟨s_t3_7, h, wT⟩
 · rintro s_t3_2 hJ3
   replace hJ3 : r01_digits_J3 s_t3_2 = some r := hJ3
   unfold r01_digits_J3 at hJ3
   refine Rg [.a, .a] (sl 25 [(2, vS s_t3_2)] []) (aN) ?_
   refine Holds.ret ?_
   exact bQ (vS s_t3_2) (congrArg vS (sI hJ3))
/-- cardgame/cardgameref01.Clamp -/
def r01_Clamp (a0 : Int) : Option (Int) :=
 (if (decide ((1000000 : Int) < a0)) = true then
  some (1000000 : Int)
 else
  (if (decide (a0 < (-1000000 : Int))) = true then
   some (-1000000 : Int)
  else
   some a0))
/-- cardgame/mana.cost -/
def mana_cost (a0 : A6 (Int)) : Option (SCost) :=
 (idx a0.l (0 : Int)).bind fun e1 =>
 some (⟨e1, (0 : Int), (⟨a0.x1, a0.x2, a0.x3, a0.x4, a0.x5⟩ : A5 (Int))⟩ : SCost)
def mana_cost_C (a0 : A6 (Int)) (r : SCost) : Prop := PCall Tryd.prog I0 51 [vA (eA6 (eI .i64)) a0] (· = vA encSCost r)
theorem mana_cost_ok {a0 : A6 (Int)} {r : SCost} (h : mana_cost a0 = some r) : mana_cost_C a0 r := by
 refine PCall.body I0_stable (by kernel_rfl) Tryd.func51 rfl Tryd.ntmps51 (rs := [.cell 2 34]) rfl rfl ?_
 intro w0 av old gv
 unfold mana_cost at h
 refine Rg [.a, .a] (sl 12 [(1, vP [1] (0)), (2, vP [2] (0))] [bx [2] [.int .i64 (0 : Int), .int .i64 (0 : Int), .int .i64 (((⟨(0 : Int), (0 : Int), (0 : Int), (0 : Int), (0 : Int)⟩ : A5 (Int))).x0), .int .i64 (((⟨(0 : Int), (0 : Int), (0 : Int), (0 : Int), (0 : Int)⟩ : A5 (Int))).x1), .int .i64 (((⟨(0 : Int), (0 : Int), (0 : Int), (0 : Int), (0 : Int)⟩ : A5 (Int))).x2), .int .i64 (((⟨(0 : Int), (0 : Int), (0 : Int), (0 : Int), (0 : Int)⟩ : A5 (Int))).x3), .int .i64 (((⟨(0 : Int), (0 : Int), (0 : Int), (0 : Int), (0 : Int)⟩ : A5 (Int))).x4)], bx [1] (eA6 (eI .i64) a0)]) (aN) ?_
 obtain ⟨e1, he1, h⟩ := bS h
 refine Rg [.a, (.v (vI e1)), .a, .a, .a] (sl 12 [(1, vP [1] (0)), (2, vP [2] (0)), (3, vP [3] (0))] [bx [3] [.int .i64 e1, .int .i64 (0 : Int), .int .i64 (((⟨(0 : Int), (0 : Int), (0 : Int), (0 : Int), (0 : Int)⟩ : A5 (Int))).x0), .int .i64 (((⟨(0 : Int), (0 : Int), (0 : Int), (0 : Int), (0 : Int)⟩ : A5 (Int))).x1), .int .i64 (((⟨(0 : Int), (0 : Int), (0 : Int), (0 : Int), (0 : Int)⟩ : A5 (Int))).x2), .int .i64 (((⟨(0 : Int), (0 : Int), (0 : Int), (0 : Int), (0 : Int)⟩ : A5 (Int))).x3), .int .i64 (((⟨(0 : Int), (0 : Int), (0 : Int), (0 : Int), (0 : Int)⟩ : A5 (Int))).x4)], bx [2] [.int .i64 (0 : Int), .int .i64 (0 : Int), .int .i64 (((⟨(0 : Int), (0 : Int), (0 : Int), (0 : Int), (0 : Int)⟩ : A5 (Int))).x0), .int .i64 (((⟨(0 : Int), (0 : Int), (0 : Int), (0 : Int), (0 : Int)⟩ : A5 (Int))).x1), .int .i64 (((⟨(0 : Int), (0 : Int), (0 : Int), (0 : Int), (0 : Int)⟩ : A5 (Int))).x2), .int .i64 (((⟨(0 : Int), (0 : Int), (0 : Int), (0 : Int), (0 : Int)⟩ : A5 (Int))).x3), .int .i64 (((⟨(0 : Int), (0 : Int), (0 : Int), (0 : Int), (0 : Int)⟩ : A5 (Int))).x4)], bx [1] (eA6 (eI .i64) a0)]) (aC (idx_b he1) <| aC (ald he1 (lenI .i64) (eA6 (eI .i64) a0) 0 6 0 1 false (vI e1)) <| aC (Eq.refl (vI e1)) <| aC (And.intro (show True ∧ True from ⟨trivial, trivial⟩) okp34) <| aN) ?_
 refine Holds.seq ?_
 refine Holds.regN [0, 1, 4, 5, 7, 15, 3] 15 [.a, .a, .a, (.e 0 [.int .i64 e1, .int .i64 (0 : Int), .int .i64 (((⟨a0.x1, a0.x2, a0.x3, a0.x4, a0.x5⟩ : A5 (Int))).x0), .int .i64 (((⟨a0.x1, a0.x2, a0.x3, a0.x4, a0.x5⟩ : A5 (Int))).x1), .int .i64 (((⟨a0.x1, a0.x2, a0.x3, a0.x4, a0.x5⟩ : A5 (Int))).x2), .int .i64 (((⟨a0.x1, a0.x2, a0.x3, a0.x4, a0.x5⟩ : A5 (Int))).x3), .int .i64 (((⟨a0.x1, a0.x2, a0.x3, a0.x4, a0.x5⟩ : A5 (Int))).x4)])] [[3], [2], [1]] (fun n => ⟨[.undef, vP [1] (0), vP [2] (0), vP [3] (0), .undef, .undef, .undef, cond (Nat.testBit n 0) (vP [3] (2)) (.undef), cond (Nat.testBit n 1) (.c (.bsl [3] 2 5)) (.undef), cond (Nat.testBit n 2) (.c (.bsl [1] 1 5)) (.undef), cond (Nat.testBit n 3) (vI (5 : Int)) (.undef), .undef], List.filterMap id [cond (Nat.testBit n 3) (some (bx [3] [.int .i64 e1, .int .i64 (0 : Int), .int .i64 (((⟨a0.x1, a0.x2, a0.x3, a0.x4, a0.x5⟩ : A5 (Int))).x0), .int .i64 (((⟨a0.x1, a0.x2, a0.x3, a0.x4, a0.x5⟩ : A5 (Int))).x1), .int .i64 (((⟨a0.x1, a0.x2, a0.x3, a0.x4, a0.x5⟩ : A5 (Int))).x2), .int .i64 (((⟨a0.x1, a0.x2, a0.x3, a0.x4, a0.x5⟩ : A5 (Int))).x3), .int .i64 (((⟨a0.x1, a0.x2, a0.x3, a0.x4, a0.x5⟩ : A5 (Int))).x4)])) (some (bx [3] [.int .i64 e1, .int .i64 (0 : Int), .int .i64 (((⟨(0 : Int), (0 : Int), (0 : Int), (0 : Int), (0 : Int)⟩ : A5 (Int))).x0), .int .i64 (((⟨(0 : Int), (0 : Int), (0 : Int), (0 : Int), (0 : Int)⟩ : A5 (Int))).x1), .int .i64 (((⟨(0 : Int), (0 : Int), (0 : Int), (0 : Int), (0 : Int)⟩ : A5 (Int))).x2), .int .i64 (((⟨(0 : Int), (0 : Int), (0 : Int), (0 : Int), (0 : Int)⟩ : A5 (Int))).x3), .int .i64 (((⟨(0 : Int), (0 : Int), (0 : Int), (0 : Int), (0 : Int)⟩ : A5 (Int))).x4)])), some (bx [2] [.int .i64 (0 : Int), .int .i64 (0 : Int), .int .i64 (((⟨(0 : Int), (0 : Int), (0 : Int), (0 : Int), (0 : Int)⟩ : A5 (Int))).x0), .int .i64 (((⟨(0 : Int), (0 : Int), (0 : Int), (0 : Int), (0 : Int)⟩ : A5 (Int))).x1), .int .i64 (((⟨(0 : Int), (0 : Int), (0 : Int), (0 : Int), (0 : Int)⟩ : A5 (Int))).x2), .int .i64 (((⟨(0 : Int), (0 : Int), (0 : Int), (0 : Int), (0 : Int)⟩ : A5 (Int))).x3), .int .i64 (((⟨(0 : Int), (0 : Int), (0 : Int), (0 : Int), (0 : Int)⟩ : A5 (Int))).x4)]), some (bx [1] (eA6 (eI .i64) a0))], [], []⟩) [[], [0 ≤ (0 : Int) ∧ (0 : Int) < ((5 : Nat) : Int) ∧ (0 : Int) ≤ ((5 : Nat) : Int) ∧ ((5 : Nat) : Int) ≤ ((5 : Nat) : Int)], [0 ≤ (1 : Int) ∧ (1 : Int) < ((6 : Nat) : Int) ∧ (1 : Int) ≤ ((6 : Nat) : Int) ∧ ((6 : Nat) : Int) ≤ ((6 : Nat) : Int)], [[.int .i64 e1, .int .i64 (0 : Int), .int .i64 (((⟨(0 : Int), (0 : Int), (0 : Int), (0 : Int), (0 : Int)⟩ : A5 (Int))).x0), .int .i64 (((⟨(0 : Int), (0 : Int), (0 : Int), (0 : Int), (0 : Int)⟩ : A5 (Int))).x1), .int .i64 (((⟨(0 : Int), (0 : Int), (0 : Int), (0 : Int), (0 : Int)⟩ : A5 (Int))).x2), .int .i64 (((⟨(0 : Int), (0 : Int), (0 : Int), (0 : Int), (0 : Int)⟩ : A5 (Int))).x3), .int .i64 (((⟨(0 : Int), (0 : Int), (0 : Int), (0 : Int), (0 : Int)⟩ : A5 (Int))).x4)].take 2 ++ ((eA6 (eI .i64) a0).drop 1).take 5 ++ [.int .i64 e1, .int .i64 (0 : Int), .int .i64 (((⟨(0 : Int), (0 : Int), (0 : Int), (0 : Int), (0 : Int)⟩ : A5 (Int))).x0), .int .i64 (((⟨(0 : Int), (0 : Int), (0 : Int), (0 : Int), (0 : Int)⟩ : A5 (Int))).x1), .int .i64 (((⟨(0 : Int), (0 : Int), (0 : Int), (0 : Int), (0 : Int)⟩ : A5 (Int))).x2), .int .i64 (((⟨(0 : Int), (0 : Int), (0 : Int), (0 : Int), (0 : Int)⟩ : A5 (Int))).x3), .int .i64 (((⟨(0 : Int), (0 : Int), (0 : Int), (0 : Int), (0 : Int)⟩ : A5 (Int))).x4)].drop (2 + (((eA6 (eI .i64) a0).drop 1).take 5).length) = [.int .i64 e1, .int .i64 (0 : Int), .int .i64 (((⟨a0.x1, a0.x2, a0.x3, a0.x4, a0.x5⟩ : A5 (Int))).x0), .int .i64 (((⟨a0.x1, a0.x2, a0.x3, a0.x4, a0.x5⟩ : A5 (Int))).x1), .int .i64 (((⟨a0.x1, a0.x2, a0.x3, a0.x4, a0.x5⟩ : A5 (Int))).x2), .int .i64 (((⟨a0.x1, a0.x2, a0.x3, a0.x4, a0.x5⟩ : A5 (Int))).x3), .int .i64 (((⟨a0.x1, a0.x2, a0.x3, a0.x4, a0.x5⟩ : A5 (Int))).x4)], ((none : Option (TypeId × Nat × Nat)) = none) ∧ True]] followsP (by kernel_rfl) (by kernel_rfl) (by decide) (Less.t (by kernel_rfl)) (by kernel_rfl) ⟨trivial, ⟨(by decide), trivial⟩, ⟨(by decide), trivial⟩, ⟨(by kernel_rfl), ⟨rfl, trivial⟩, trivial⟩, trivial⟩ ?_
 refine Tn ?_
 refine Ls (sl 12 [(2, vP [2] (0)), (3, vP [3] (0))] [bx [3] [.int .i64 e1, .int .i64 (0 : Int), .int .i64 (((⟨a0.x1, a0.x2, a0.x3, a0.x4, a0.x5⟩ : A5 (Int))).x0), .int .i64 (((⟨a0.x1, a0.x2, a0.x3, a0.x4, a0.x5⟩ : A5 (Int))).x1), .int .i64 (((⟨a0.x1, a0.x2, a0.x3, a0.x4, a0.x5⟩ : A5 (Int))).x2), .int .i64 (((⟨a0.x1, a0.x2, a0.x3, a0.x4, a0.x5⟩ : A5 (Int))).x3), .int .i64 (((⟨a0.x1, a0.x2, a0.x3, a0.x4, a0.x5⟩ : A5 (Int))).x4)], bx [2] [.int .i64 (0 : Int), .int .i64 (0 : Int), .int .i64 (((⟨(0 : Int), (0 : Int), (0 : Int), (0 : Int), (0 : Int)⟩ : A5 (Int))).x0), .int .i64 (((⟨(0 : Int), (0 : Int), (0 : Int), (0 : Int), (0 : Int)⟩ : A5 (Int))).x1), .int .i64 (((⟨(0 : Int), (0 : Int), (0 : Int), (0 : Int), (0 : Int)⟩ : A5 (Int))).x2), .int .i64 (((⟨(0 : Int), (0 : Int), (0 : Int), (0 : Int), (0 : Int)⟩ : A5 (Int))).x3), .int .i64 (((⟨(0 : Int), (0 : Int), (0 : Int), (0 : Int), (0 : Int)⟩ : A5 (Int))).x4)]]) ?_
 refine Rg [.a, .a] (sl 12 [(2, vP [2] (0))] [bx [2] [.int .i64 e1, .int .i64 (0 : Int), .int .i64 (((⟨a0.x1, a0.x2, a0.x3, a0.x4, a0.x5⟩ : A5 (Int))).x0), .int .i64 (((⟨a0.x1, a0.x2, a0.x3, a0.x4, a0.x5⟩ : A5 (Int))).x1), .int .i64 (((⟨a0.x1, a0.x2, a0.x3, a0.x4, a0.x5⟩ : A5 (Int))).x2), .int .i64 (((⟨a0.x1, a0.x2, a0.x3, a0.x4, a0.x5⟩ : A5 (Int))).x3), .int .i64 (((⟨a0.x1, a0.x2, a0.x3, a0.x4, a0.x5⟩ : A5 (Int))).x4)]]) (aN) ?_
 refine Holds.ret ?_
 exact bE (.agg [.int .i64 e1, .int .i64 (0 : Int), .int .i64 (((⟨a0.x1, a0.x2, a0.x3, a0.x4, a0.x5⟩ : A5 (Int))).x0), .int .i64 (((⟨a0.x1, a0.x2, a0.x3, a0.x4, a0.x5⟩ : A5 (Int))).x1), .int .i64 (((⟨a0.x1, a0.x2, a0.x3, a0.x4, a0.x5⟩ : A5 (Int))).x2), .int .i64 (((⟨a0.x1, a0.x2, a0.x3, a0.x4, a0.x5⟩ : A5 (Int))).x3), .int .i64 (((⟨a0.x1, a0.x2, a0.x3, a0.x4, a0.x5⟩ : A5 (Int))).x4)]) (.agg (encSCost (⟨e1, (0 : Int), (⟨a0.x1, a0.x2, a0.x3, a0.x4, a0.x5⟩ : A5 (Int))⟩ : SCost))) (congrArg (vA encSCost) (sI h))
def r08_cost_J3  (b3_2 : SCost) : Option (SCost) :=
 some b3_2
def r08_cost_B9 (a0 : A6 (Int)) (i_t4_6 : Int) (b3_7 : SCost) : Option ((Int × SCost) ⊕ (SCost)) :=
 (if (decide (i_t4_6 < (5 : Int))) = true then
  (idx a0.l (wrap64 (i_t4_6 + (1 : Int)))).bind fun e11 =>
  (idx b3_7.Color.l i_t4_6).bind fun e12 =>
  some (.inl ((wrap64 (i_t4_6 + (1 : Int))), ({ b3_7 with Color := b3_7.Color.set (i_t4_6).toNat e11 })))
 else
  some (.inr b3_7))
/-- cardgame/cardgameref08.cost -/
def r08_cost (a0 : A6 (Int)) : Option (SCost) :=
 (idx a0.l (0 : Int)).bind fun e1 =>
 (iter (fun (v : Int × SCost) => r08_cost_B9 a0 v.1 v.2) FU ((0 : Int), (⟨e1, (0 : Int), (⟨(0 : Int), (0 : Int), (0 : Int), (0 : Int), (0 : Int)⟩ : A5 (Int))⟩ : SCost))).bind (fun o0 => r08_cost_J3 o0)
def r08_cost_C (a0 : A6 (Int)) (r : SCost) : Prop := PCall Tryd.prog I0 52 [vA (eA6 (eI .i64)) a0] (· = vA encSCost r)
theorem r08_cost_ok {a0 : A6 (Int)} {r : SCost} (h : r08_cost a0 = some r) : r08_cost_C a0 r := by
 refine PCall.body I0_stable (by kernel_rfl) Tryd.func52 rfl Tryd.ntmps52 (rs := [.cell 2 34]) rfl rfl ?_
 intro w0 av old gv
 unfold r08_cost at h
 refine Rg [.a, .a] (sl 20 [(1, vP [1] (0)), (2, vP [2] (0))] [bx [2] [.int .i64 (0 : Int), .int .i64 (0 : Int), .int .i64 (((⟨(0 : Int), (0 : Int), (0 : Int), (0 : Int), (0 : Int)⟩ : A5 (Int))).x0), .int .i64 (((⟨(0 : Int), (0 : Int), (0 : Int), (0 : Int), (0 : Int)⟩ : A5 (Int))).x1), .int .i64 (((⟨(0 : Int), (0 : Int), (0 : Int), (0 : Int), (0 : Int)⟩ : A5 (Int))).x2), .int .i64 (((⟨(0 : Int), (0 : Int), (0 : Int), (0 : Int), (0 : Int)⟩ : A5 (Int))).x3), .int .i64 (((⟨(0 : Int), (0 : Int), (0 : Int), (0 : Int), (0 : Int)⟩ : A5 (Int))).x4)], bx [1] (eA6 (eI .i64) a0)]) (aN) ?_
 obtain ⟨e1, he1, h⟩ := bS h
 refine Rg [.a, (.v (vI e1)), .a, .a, .a] (sl 20 [(1, vP [1] (0)), (2, vP [2] (0)), (3, vP [3] (0))] [bx [3] [.int .i64 e1, .int .i64 (0 : Int), .int .i64 (((⟨(0 : Int), (0 : Int), (0 : Int), (0 : Int), (0 : Int)⟩ : A5 (Int))).x0), .int .i64 (((⟨(0 : Int), (0 : Int), (0 : Int), (0 : Int), (0 : Int)⟩ : A5 (Int))).x1), .int .i64 (((⟨(0 : Int), (0 : Int), (0 : Int), (0 : Int), (0 : Int)⟩ : A5 (Int))).x2), .int .i64 (((⟨(0 : Int), (0 : Int), (0 : Int), (0 : Int), (0 : Int)⟩ : A5 (Int))).x3), .int .i64 (((⟨(0 : Int), (0 : Int), (0 : Int), (0 : Int), (0 : Int)⟩ : A5 (Int))).x4)], bx [2] [.int .i64 (0 : Int), .int .i64 (0 : Int), .int .i64 (((⟨(0 : Int), (0 : Int), (0 : Int), (0 : Int), (0 : Int)⟩ : A5 (Int))).x0), .int .i64 (((⟨(0 : Int), (0 : Int), (0 : Int), (0 : Int), (0 : Int)⟩ : A5 (Int))).x1), .int .i64 (((⟨(0 : Int), (0 : Int), (0 : Int), (0 : Int), (0 : Int)⟩ : A5 (Int))).x2), .int .i64 (((⟨(0 : Int), (0 : Int), (0 : Int), (0 : Int), (0 : Int)⟩ : A5 (Int))).x3), .int .i64 (((⟨(0 : Int), (0 : Int), (0 : Int), (0 : Int), (0 : Int)⟩ : A5 (Int))).x4)], bx [1] (eA6 (eI .i64) a0)]) (aC (idx_b he1) <| aC (ald he1 (lenI .i64) (eA6 (eI .i64) a0) 0 6 0 1 false (vI e1)) <| aC (Eq.refl (vI e1)) <| aC (And.intro (show True ∧ True from ⟨trivial, trivial⟩) okp34) <| aN) ?_
 refine Sj (X := SCost) (fun v => (sl 20 [(2, vP [2] (0)), (3, vP [3] (0))] [bx [3] (encSCost v), bx [2] [.int .i64 (0 : Int), .int .i64 (0 : Int), .int .i64 (((⟨(0 : Int), (0 : Int), (0 : Int), (0 : Int), (0 : Int)⟩ : A5 (Int))).x0), .int .i64 (((⟨(0 : Int), (0 : Int), (0 : Int), (0 : Int), (0 : Int)⟩ : A5 (Int))).x1), .int .i64 (((⟨(0 : Int), (0 : Int), (0 : Int), (0 : Int), (0 : Int)⟩ : A5 (Int))).x2), .int .i64 (((⟨(0 : Int), (0 : Int), (0 : Int), (0 : Int), (0 : Int)⟩ : A5 (Int))).x3), .int .i64 (((⟨(0 : Int), (0 : Int), (0 : Int), (0 : Int), (0 : Int)⟩ : A5 (Int))).x4)]])) (fun v => r08_cost_J3 v = some r) ?_ ?_
 · refine Rg [.a] (sl 20 [(1, vP [1] (0)), (2, vP [2] (0)), (3, vP [3] (0)), (4, vI (0 : Int))] [bx [3] [.int .i64 e1, .int .i64 (0 : Int), .int .i64 (((⟨(0 : Int), (0 : Int), (0 : Int), (0 : Int), (0 : Int)⟩ : A5 (Int))).x0), .int .i64 (((⟨(0 : Int), (0 : Int), (0 : Int), (0 : Int), (0 : Int)⟩ : A5 (Int))).x1), .int .i64 (((⟨(0 : Int), (0 : Int), (0 : Int), (0 : Int), (0 : Int)⟩ : A5 (Int))).x2), .int .i64 (((⟨(0 : Int), (0 : Int), (0 : Int), (0 : Int), (0 : Int)⟩ : A5 (Int))).x3), .int .i64 (((⟨(0 : Int), (0 : Int), (0 : Int), (0 : Int), (0 : Int)⟩ : A5 (Int))).x4)], bx [2] [.int .i64 (0 : Int), .int .i64 (0 : Int), .int .i64 (((⟨(0 : Int), (0 : Int), (0 : Int), (0 : Int), (0 : Int)⟩ : A5 (Int))).x0), .int .i64 (((⟨(0 : Int), (0 : Int), (0 : Int), (0 : Int), (0 : Int)⟩ : A5 (Int))).x1), .int .i64 (((⟨(0 : Int), (0 : Int), (0 : Int), (0 : Int), (0 : Int)⟩ : A5 (Int))).x2), .int .i64 (((⟨(0 : Int), (0 : Int), (0 : Int), (0 : Int), (0 : Int)⟩ : A5 (Int))).x3), .int .i64 (((⟨(0 : Int), (0 : Int), (0 : Int), (0 : Int), (0 : Int)⟩ : A5 (Int))).x4)], bx [1] (eA6 (eI .i64) a0)]) (aN) ?_
   refine Holds.block ?_
   obtain ⟨oB9, hiB9, h⟩ := bS h
   refine It (fun (v : Int × SCost) => (sl 20 [(1, vP [1] (0)), (2, vP [2] (0)), (3, vP [3] (0)), (4, vI v.1)] [bx [3] (encSCost v.2), bx [2] [.int .i64 (0 : Int), .int .i64 (0 : Int), .int .i64 (((⟨(0 : Int), (0 : Int), (0 : Int), (0 : Int), (0 : Int)⟩ : A5 (Int))).x0), .int .i64 (((⟨(0 : Int), (0 : Int), (0 : Int), (0 : Int), (0 : Int)⟩ : A5 (Int))).x1), .int .i64 (((⟨(0 : Int), (0 : Int), (0 : Int), (0 : Int), (0 : Int)⟩ : A5 (Int))).x2), .int .i64 (((⟨(0 : Int), (0 : Int), (0 : Int), (0 : Int), (0 : Int)⟩ : A5 (Int))).x3), .int .i64 (((⟨(0 : Int), (0 : Int), (0 : Int), (0 : Int), (0 : Int)⟩ : A5 (Int))).x4)], bx [1] (eA6 (eI .i64) a0)])) hiB9 (wT) ?_
   rintro ⟨i_t4_6, b3_7⟩ zB9 hzB9 hoB9
   replace hzB9 : r08_cost_B9 a0 i_t4_6 b3_7 = some zB9 := hzB9
   unfold r08_cost_B9 at hzB9
   refine Holds.seq ?_
   refine Rg [.a, .a] (sl 20 [(1, vP [1] (0)), (2, vP [2] (0)), (3, vP [3] (0)), (4, vI i_t4_6), (9, vB (decide (i_t4_6 < (5 : Int))))] [bx [3] (encSCost b3_7), bx [2] [.int .i64 (0 : Int), .int .i64 (0 : Int), .int .i64 (((⟨(0 : Int), (0 : Int), (0 : Int), (0 : Int), (0 : Int)⟩ : A5 (Int))).x0), .int .i64 (((⟨(0 : Int), (0 : Int), (0 : Int), (0 : Int), (0 : Int)⟩ : A5 (Int))).x1), .int .i64 (((⟨(0 : Int), (0 : Int), (0 : Int), (0 : Int), (0 : Int)⟩ : A5 (Int))).x2), .int .i64 (((⟨(0 : Int), (0 : Int), (0 : Int), (0 : Int), (0 : Int)⟩ : A5 (Int))).x3), .int .i64 (((⟨(0 : Int), (0 : Int), (0 : Int), (0 : Int), (0 : Int)⟩ : A5 (Int))).x4)], bx [1] (eA6 (eI .i64) a0)]) (aN) ?_
   refine iB hzB9 (fun b10 hzB9 => ?_) (fun b10 hzB9 => ?_)
   · refine Holds.skip ?_
     refine Tn ?_
     refine Holds.seq ?_
     refine Holds.block ?_
     obtain ⟨e11, he11, hzB9⟩ := bS hzB9
     obtain ⟨e12, he12, hzB9⟩ := bS hzB9
     refine Re [.a, .a, .a, .a, (.v (vI e11)), .a, .a, (.e 0 (encSCost ({ b3_7 with Color := b3_7.Color.set (i_t4_6).toNat e11 })))] (sl 20 [(1, vP [1] (0)), (2, vP [2] (0)), (3, vP [3] (0)), (4, vI i_t4_6), (9, vB (decide (i_t4_6 < (5 : Int)))), (12, vI i_t4_6), (13, vI i_t4_6), (14, vI (wrap64 (i_t4_6 + (1 : Int)))), (15, vP [1] (0 + (wrap64 (i_t4_6 + (1 : Int))).toNat * 1)), (16, vI e11), (17, vP [3] (2)), (18, vP [3] (2 + (i_t4_6).toNat * 1))] [bx [3] (encSCost ({ b3_7 with Color := b3_7.Color.set (i_t4_6).toNat e11 })), bx [2] [.int .i64 (0 : Int), .int .i64 (0 : Int), .int .i64 (((⟨(0 : Int), (0 : Int), (0 : Int), (0 : Int), (0 : Int)⟩ : A5 (Int))).x0), .int .i64 (((⟨(0 : Int), (0 : Int), (0 : Int), (0 : Int), (0 : Int)⟩ : A5 (Int))).x1), .int .i64 (((⟨(0 : Int), (0 : Int), (0 : Int), (0 : Int), (0 : Int)⟩ : A5 (Int))).x2), .int .i64 (((⟨(0 : Int), (0 : Int), (0 : Int), (0 : Int), (0 : Int)⟩ : A5 (Int))).x3), .int .i64 (((⟨(0 : Int), (0 : Int), (0 : Int), (0 : Int), (0 : Int)⟩ : A5 (Int))).x4)], bx [1] (eA6 (eI .i64) a0)]) (aC (idx_b he11) <| aC (ald he11 (lenI .i64) (eA6 (eI .i64) a0) 0 6 0 1 false (vI e11)) <| aC (Eq.refl (vI e11)) <| aC (idx_b he12) <| aC (show 2 + (i_t4_6).toNat * 1 + 1 ≤ (encSCost b3_7).length ∧ (encSCost b3_7).take (2 + (i_t4_6).toNat * 1) ++ ([.int .i64 e11] : List C) ++ (encSCost b3_7).drop (2 + (i_t4_6).toNat * 1 + ([.int .i64 e11] : List C).length) = (encSCost ({ b3_7 with Color := b3_7.Color.set (i_t4_6).toNat e11 })) from (arr_st (e := eI .i64) (N := 1) (l := b3_7.Color.l) (i := i_t4_6) (x' := e11) (o := 0) (base := 2) (cs := ([.int .i64 e11] : List C)) (pre := (encSCost b3_7).take 2) (post := (encSCost b3_7).drop 7) (by kernel_rfl) (by kernel_rfl) (by kernel_rfl) (A5.l_set _ _ _) he12 (lenI .i64) (by omega) (Nat.le_of_ble_eq_true (by kernel_rfl)) (by kernel_rfl))) <| aC (show ((none : Option (TypeId × Nat × Nat)) = none) ∧ True from ⟨rfl, trivial⟩) <| aN) ?_
     refine blockQ.normal ?_
     refine Tn ?_
     refine Re [.a, .a, .a] (sl 20 [(1, vP [1] (0)), (2, vP [2] (0)), (3, vP [3] (0)), (4, vI (wrap64 (i_t4_6 + (1 : Int)))), (9, vB (decide (i_t4_6 < (5 : Int)))), (10, vI i_t4_6), (11, vI (wrap64 (i_t4_6 + (1 : Int)))), (12, vI i_t4_6), (13, vI i_t4_6), (14, vI (wrap64 (i_t4_6 + (1 : Int)))), (15, vP [1] (0 + (wrap64 (i_t4_6 + (1 : Int))).toNat * 1)), (16, vI e11), (17, vP [3] (2)), (18, vP [3] (2 + (i_t4_6).toNat * 1))] [bx [3] (encSCost ({ b3_7 with Color := b3_7.Color.set (i_t4_6).toNat e11 })), bx [2] [.int .i64 (0 : Int), .int .i64 (0 : Int), .int .i64 (((⟨(0 : Int), (0 : Int), (0 : Int), (0 : Int), (0 : Int)⟩ : A5 (Int))).x0), .int .i64 (((⟨(0 : Int), (0 : Int), (0 : Int), (0 : Int), (0 : Int)⟩ : A5 (Int))).x1), .int .i64 (((⟨(0 : Int), (0 : Int), (0 : Int), (0 : Int), (0 : Int)⟩ : A5 (Int))).x2), .int .i64 (((⟨(0 : Int), (0 : Int), (0 : Int), (0 : Int), (0 : Int)⟩ : A5 (Int))).x3), .int .i64 (((⟨(0 : Int), (0 : Int), (0 : Int), (0 : Int), (0 : Int)⟩ : A5 (Int))).x4)], bx [1] (eA6 (eI .i64) a0)]) (aN) ?_
     refine Tn ⟨((wrap64 (i_t4_6 + (1 : Int))), ({ b3_7 with Color := b3_7.Color.set (i_t4_6).toNat e11 })), (sI hzB9).symm, wT⟩
   · refine Holds.exit ?_
     refine thenQ.exit ?_
     have hoB9_ := hoB9 _ (sI hzB9).symm
     subst hoB9_
     refine thenQ.exit ?_
     refine blockQ.out ?_
     refine Tn ⟨b3_7, h, wT⟩
 · rintro b3_2 hJ3
   replace hJ3 : r08_cost_J3 b3_2 = some r := hJ3
   unfold r08_cost_J3 at hJ3
   refine Rg [.a, .a] (sl 20 [(2, vP [2] (0))] [bx [2] (encSCost b3_2)]) (aN) ?_
   refine Holds.ret ?_
   exact bE (vA encSCost b3_2) (.agg (encSCost b3_2)) (congrArg (vA encSCost) (sI hJ3))
def r08_count_J4 (a0 : SCost) : Option (SCost × Bool) :=
 some (a0, false)
def r08_count_B8 (a0 : SCost) (a1 : Int) (i_t6_6 : Int) : Option ((Int) ⊕ (SCost ⊕ Unit)) :=
 (if (decide (i_t6_6 < (5 : Int))) = true then
  (sidx str_ACJRE i_t6_6).bind fun c10 =>
  (if (c10 == a1) = true then
   (idx a0.Color.l i_t6_6).bind fun e12 =>
   (idx a0.Color.l i_t6_6).bind fun e13 =>
   some (.inr (.inl ({ a0 with Color := a0.Color.set (i_t6_6).toNat (wrap64 (e12 + (1 : Int))) })))
  else
   some (.inl (wrap64 (i_t6_6 + (1 : Int)))))
 else
  some (.inr (.inr ())))
/-- cardgame/cardgameref08.count -/
def r08_count (a0 : SCost) (a1 : Int) : Option (SCost × Bool) :=
 (if (a1 == (88 : Int)) = true then
  some ({ a0 with X := wrap64 (a0.X + (1 : Int)) }, true)
 else
  (some (if (decide ((48 : Int) ≤ a1)) = true then decide (a1 ≤ (57 : Int)) else false)).bind fun b2 =>
  (if b2 = true then
   some ({ a0 with Generic := wrap64 ((wrap64 ((10 : Int) * a0.Generic)) + (wrap64 (IntKind.u8.wrap (a1 - (48 : Int))))) }, true)
  else
   (iter (fun (v : Int) => r08_count_B8 a0 a1 v) FU (0 : Int)).bind (Sum.elim (fun o0 => some (o0, true)) (fun o1 => r08_count_J4 a0))))
def r08_count_C (a0 : SCost) (a1 : Int) (r : SCost × Bool) : Prop := PCall Tryd.prog I0 57 [vA encSCost a0, .c (.int .u8 a1)] (· = .tup [vA encSCost r.1, vB r.2])
theorem r08_count_ok {a0 : SCost} {a1 : Int} {r : SCost × Bool} (h : r08_count a0 a1 = some r) : r08_count_C a0 a1 r := by
 refine PCall.body I0_stable (by kernel_rfl) Tryd.func57 rfl Tryd.ntmps57 (rs := [.cell 4 34, .tmp 5]) rfl rfl ?_
 intro w0 av old gv
 unfold r08_count at h
 refine Rg [.a, .a, .a] (sl 47 [(1, .c (.int .u8 a1)), (2, vP [2] (0)), (4, vP [4] (0))] [bx [4] [.int .i64 (0 : Int), .int .i64 (0 : Int), .int .i64 (((⟨(0 : Int), (0 : Int), (0 : Int), (0 : Int), (0 : Int)⟩ : A5 (Int))).x0), .int .i64 (((⟨(0 : Int), (0 : Int), (0 : Int), (0 : Int), (0 : Int)⟩ : A5 (Int))).x1), .int .i64 (((⟨(0 : Int), (0 : Int), (0 : Int), (0 : Int), (0 : Int)⟩ : A5 (Int))).x2), .int .i64 (((⟨(0 : Int), (0 : Int), (0 : Int), (0 : Int), (0 : Int)⟩ : A5 (Int))).x3), .int .i64 (((⟨(0 : Int), (0 : Int), (0 : Int), (0 : Int), (0 : Int)⟩ : A5 (Int))).x4)], bx [2] (encSCost a0)]) (aN) ?_
 refine Holds.seq ?_
 refine Rg [.a, .a] (sl 47 [(1, .c (.int .u8 a1)), (2, vP [2] (0)), (4, vP [4] (0)), (8, vB (a1 == (88 : Int)))] [bx [4] [.int .i64 (0 : Int), .int .i64 (0 : Int), .int .i64 (((⟨(0 : Int), (0 : Int), (0 : Int), (0 : Int), (0 : Int)⟩ : A5 (Int))).x0), .int .i64 (((⟨(0 : Int), (0 : Int), (0 : Int), (0 : Int), (0 : Int)⟩ : A5 (Int))).x1), .int .i64 (((⟨(0 : Int), (0 : Int), (0 : Int), (0 : Int), (0 : Int)⟩ : A5 (Int))).x2), .int .i64 (((⟨(0 : Int), (0 : Int), (0 : Int), (0 : Int), (0 : Int)⟩ : A5 (Int))).x3), .int .i64 (((⟨(0 : Int), (0 : Int), (0 : Int), (0 : Int), (0 : Int)⟩ : A5 (Int))).x4)], bx [2] (encSCost a0)]) (aN) ?_
 refine iB h (fun b1 h => ?_) (fun b1 h => ?_)
 · refine Rg [.a, .a, .a, .a, .a] (sl 47 [(2, vP [2] (0)), (4, vP [4] (0))] [bx [4] [.int .i64 (0 : Int), .int .i64 (0 : Int), .int .i64 (((⟨(0 : Int), (0 : Int), (0 : Int), (0 : Int), (0 : Int)⟩ : A5 (Int))).x0), .int .i64 (((⟨(0 : Int), (0 : Int), (0 : Int), (0 : Int), (0 : Int)⟩ : A5 (Int))).x1), .int .i64 (((⟨(0 : Int), (0 : Int), (0 : Int), (0 : Int), (0 : Int)⟩ : A5 (Int))).x2), .int .i64 (((⟨(0 : Int), (0 : Int), (0 : Int), (0 : Int), (0 : Int)⟩ : A5 (Int))).x3), .int .i64 (((⟨(0 : Int), (0 : Int), (0 : Int), (0 : Int), (0 : Int)⟩ : A5 (Int))).x4)], bx [2] (encSCost ({ a0 with X := wrap64 (a0.X + (1 : Int)) }))]) (aN) ?_
   refine Rg [.a, .a, .a] (sl 47 [(4, vP [4] (0)), (5, vB true)] [bx [4] (encSCost ({ a0 with X := wrap64 (a0.X + (1 : Int)) }))]) (aN) ?_
   refine Holds.ret ?_
   refine Tr ?_
   exact bE (.tup [vA encSCost ({ a0 with X := wrap64 (a0.X + (1 : Int)) }), vB true]) (.tup [.agg (encSCost ({ a0 with X := wrap64 (a0.X + (1 : Int)) })), vB true]) (congrArg (fun (q : SCost × Bool) => (.tup [vA encSCost q.1, vB q.2] : V)) (sI h))
 · refine Holds.skip ?_
   refine Tn ?_
   refine Holds.seq ?_
   obtain ⟨b2, hb2, h⟩ := bS h
   refine Rg [.a, .a, .a, .a, .a, (.v (vB b2))] (sl 47 [(1, .c (.int .u8 a1)), (2, vP [2] (0)), (4, vP [4] (0)), (19, vB b2)] [bx [4] [.int .i64 (0 : Int), .int .i64 (0 : Int), .int .i64 (((⟨(0 : Int), (0 : Int), (0 : Int), (0 : Int), (0 : Int)⟩ : A5 (Int))).x0), .int .i64 (((⟨(0 : Int), (0 : Int), (0 : Int), (0 : Int), (0 : Int)⟩ : A5 (Int))).x1), .int .i64 (((⟨(0 : Int), (0 : Int), (0 : Int), (0 : Int), (0 : Int)⟩ : A5 (Int))).x2), .int .i64 (((⟨(0 : Int), (0 : Int), (0 : Int), (0 : Int), (0 : Int)⟩ : A5 (Int))).x3), .int .i64 (((⟨(0 : Int), (0 : Int), (0 : Int), (0 : Int), (0 : Int)⟩ : A5 (Int))).x4)], bx [2] (encSCost a0)]) (aG ((decide ((48 : Int) ≤ a1)) == true) <| aT (decide ((48 : Int) ≤ a1)) <| aB hb2 <| aN) ?_
   refine iB h (fun b3 h => ?_) (fun b3 h => ?_)
   · refine Rg [.a, .a, .a, .a, .a, .a, .a, .a, .a] (sl 47 [(2, vP [2] (0)), (4, vP [4] (0))] [bx [4] [.int .i64 (0 : Int), .int .i64 (0 : Int), .int .i64 (((⟨(0 : Int), (0 : Int), (0 : Int), (0 : Int), (0 : Int)⟩ : A5 (Int))).x0), .int .i64 (((⟨(0 : Int), (0 : Int), (0 : Int), (0 : Int), (0 : Int)⟩ : A5 (Int))).x1), .int .i64 (((⟨(0 : Int), (0 : Int), (0 : Int), (0 : Int), (0 : Int)⟩ : A5 (Int))).x2), .int .i64 (((⟨(0 : Int), (0 : Int), (0 : Int), (0 : Int), (0 : Int)⟩ : A5 (Int))).x3), .int .i64 (((⟨(0 : Int), (0 : Int), (0 : Int), (0 : Int), (0 : Int)⟩ : A5 (Int))).x4)], bx [2] (encSCost ({ a0 with Generic := wrap64 ((wrap64 ((10 : Int) * a0.Generic)) + (wrap64 (IntKind.u8.wrap (a1 - (48 : Int))))) }))]) (aN) ?_
     refine Rg [.a, .a, .a] (sl 47 [(4, vP [4] (0)), (5, vB true)] [bx [4] (encSCost ({ a0 with Generic := wrap64 ((wrap64 ((10 : Int) * a0.Generic)) + (wrap64 (IntKind.u8.wrap (a1 - (48 : Int))))) }))]) (aN) ?_
     refine Holds.ret ?_
     refine Tr ?_
     exact bE (.tup [vA encSCost ({ a0 with Generic := wrap64 ((wrap64 ((10 : Int) * a0.Generic)) + (wrap64 (IntKind.u8.wrap (a1 - (48 : Int))))) }), vB true]) (.tup [.agg (encSCost ({ a0 with Generic := wrap64 ((wrap64 ((10 : Int) * a0.Generic)) + (wrap64 (IntKind.u8.wrap (a1 - (48 : Int))))) })), vB true]) (congrArg (fun (q : SCost × Bool) => (.tup [vA encSCost q.1, vB q.2] : V)) (sI h))
   · refine Holds.skip ?_
     refine Tn ?_
     refine Sj (X := Unit) (fun v => (sl 47 [(2, vP [2] (0)), (4, vP [4] (0))] [bx [4] [.int .i64 (0 : Int), .int .i64 (0 : Int), .int .i64 (((⟨(0 : Int), (0 : Int), (0 : Int), (0 : Int), (0 : Int)⟩ : A5 (Int))).x0), .int .i64 (((⟨(0 : Int), (0 : Int), (0 : Int), (0 : Int), (0 : Int)⟩ : A5 (Int))).x1), .int .i64 (((⟨(0 : Int), (0 : Int), (0 : Int), (0 : Int), (0 : Int)⟩ : A5 (Int))).x2), .int .i64 (((⟨(0 : Int), (0 : Int), (0 : Int), (0 : Int), (0 : Int)⟩ : A5 (Int))).x3), .int .i64 (((⟨(0 : Int), (0 : Int), (0 : Int), (0 : Int), (0 : Int)⟩ : A5 (Int))).x4)], bx [2] (encSCost a0)])) (fun v => r08_count_J4 a0 = some r) ?_ ?_
     · refine Rg [.a] (sl 47 [(1, .c (.int .u8 a1)), (2, vP [2] (0)), (4, vP [4] (0)), (6, vI (0 : Int))] [bx [4] [.int .i64 (0 : Int), .int .i64 (0 : Int), .int .i64 (((⟨(0 : Int), (0 : Int), (0 : Int), (0 : Int), (0 : Int)⟩ : A5 (Int))).x0), .int .i64 (((⟨(0 : Int), (0 : Int), (0 : Int), (0 : Int), (0 : Int)⟩ : A5 (Int))).x1), .int .i64 (((⟨(0 : Int), (0 : Int), (0 : Int), (0 : Int), (0 : Int)⟩ : A5 (Int))).x2), .int .i64 (((⟨(0 : Int), (0 : Int), (0 : Int), (0 : Int), (0 : Int)⟩ : A5 (Int))).x3), .int .i64 (((⟨(0 : Int), (0 : Int), (0 : Int), (0 : Int), (0 : Int)⟩ : A5 (Int))).x4)], bx [2] (encSCost a0)]) (aN) ?_
       refine Holds.block ?_
       obtain ⟨oB8, hiB8, h⟩ := bS h
       refine It (fun (v : Int) => (sl 47 [(1, .c (.int .u8 a1)), (2, vP [2] (0)), (4, vP [4] (0)), (6, vI v)] [bx [4] [.int .i64 (0 : Int), .int .i64 (0 : Int), .int .i64 (((⟨(0 : Int), (0 : Int), (0 : Int), (0 : Int), (0 : Int)⟩ : A5 (Int))).x0), .int .i64 (((⟨(0 : Int), (0 : Int), (0 : Int), (0 : Int), (0 : Int)⟩ : A5 (Int))).x1), .int .i64 (((⟨(0 : Int), (0 : Int), (0 : Int), (0 : Int), (0 : Int)⟩ : A5 (Int))).x2), .int .i64 (((⟨(0 : Int), (0 : Int), (0 : Int), (0 : Int), (0 : Int)⟩ : A5 (Int))).x3), .int .i64 (((⟨(0 : Int), (0 : Int), (0 : Int), (0 : Int), (0 : Int)⟩ : A5 (Int))).x4)], bx [2] (encSCost a0)])) hiB8 (wT) ?_
       rintro i_t6_6 zB8 hzB8 hoB8
       replace hzB8 : r08_count_B8 a0 a1 i_t6_6 = some zB8 := hzB8
       unfold r08_count_B8 at hzB8
       refine Holds.seq ?_
       refine Rg [.a, .a] (sl 47 [(1, .c (.int .u8 a1)), (2, vP [2] (0)), (4, vP [4] (0)), (6, vI i_t6_6), (30, vB (decide (i_t6_6 < (5 : Int))))] [bx [4] [.int .i64 (0 : Int), .int .i64 (0 : Int), .int .i64 (((⟨(0 : Int), (0 : Int), (0 : Int), (0 : Int), (0 : Int)⟩ : A5 (Int))).x0), .int .i64 (((⟨(0 : Int), (0 : Int), (0 : Int), (0 : Int), (0 : Int)⟩ : A5 (Int))).x1), .int .i64 (((⟨(0 : Int), (0 : Int), (0 : Int), (0 : Int), (0 : Int)⟩ : A5 (Int))).x2), .int .i64 (((⟨(0 : Int), (0 : Int), (0 : Int), (0 : Int), (0 : Int)⟩ : A5 (Int))).x3), .int .i64 (((⟨(0 : Int), (0 : Int), (0 : Int), (0 : Int), (0 : Int)⟩ : A5 (Int))).x4)], bx [2] (encSCost a0)]) (aN) ?_
       refine iB hzB8 (fun b9 hzB8 => ?_) (fun b9 hzB8 => ?_)
       · refine Holds.skip ?_
         refine Tn ?_
         refine Holds.seq ?_
         refine Holds.block ?_
         obtain ⟨c10, hc10, hzB8⟩ := bS hzB8
         refine Rg [.a, (.v (.c (.int .u8 c10))), .a, .a] (sl 47 [(1, .c (.int .u8 a1)), (2, vP [2] (0)), (4, vP [4] (0)), (6, vI i_t6_6), (36, vB (c10 == a1))] [bx [4] [.int .i64 (0 : Int), .int .i64 (0 : Int), .int .i64 (((⟨(0 : Int), (0 : Int), (0 : Int), (0 : Int), (0 : Int)⟩ : A5 (Int))).x0), .int .i64 (((⟨(0 : Int), (0 : Int), (0 : Int), (0 : Int), (0 : Int)⟩ : A5 (Int))).x1), .int .i64 (((⟨(0 : Int), (0 : Int), (0 : Int), (0 : Int), (0 : Int)⟩ : A5 (Int))).x2), .int .i64 (((⟨(0 : Int), (0 : Int), (0 : Int), (0 : Int), (0 : Int)⟩ : A5 (Int))).x3), .int .i64 (((⟨(0 : Int), (0 : Int), (0 : Int), (0 : Int), (0 : Int)⟩ : A5 (Int))).x4)], bx [2] (encSCost a0)]) (aC (sidx_b hc10) <| aC (congrArg (fun z => V.c (.int .u8 z)) (sidx_x hc10).symm) <| aN) ?_
         refine iB hzB8 (fun b11 hzB8 => ?_) (fun b11 hzB8 => ?_)
         · obtain ⟨e12, he12, hzB8⟩ := bS hzB8
           obtain ⟨e13, he13, hzB8⟩ := bS hzB8
           refine Rg [.a, .a, .a, .a, (.v (vI e12)), .a, .a, .a, (.e 0 (encSCost ({ a0 with Color := a0.Color.set (i_t6_6).toNat (wrap64 (e12 + (1 : Int))) })))] (sl 47 [(2, vP [2] (0)), (4, vP [4] (0))] [bx [4] [.int .i64 (0 : Int), .int .i64 (0 : Int), .int .i64 (((⟨(0 : Int), (0 : Int), (0 : Int), (0 : Int), (0 : Int)⟩ : A5 (Int))).x0), .int .i64 (((⟨(0 : Int), (0 : Int), (0 : Int), (0 : Int), (0 : Int)⟩ : A5 (Int))).x1), .int .i64 (((⟨(0 : Int), (0 : Int), (0 : Int), (0 : Int), (0 : Int)⟩ : A5 (Int))).x2), .int .i64 (((⟨(0 : Int), (0 : Int), (0 : Int), (0 : Int), (0 : Int)⟩ : A5 (Int))).x3), .int .i64 (((⟨(0 : Int), (0 : Int), (0 : Int), (0 : Int), (0 : Int)⟩ : A5 (Int))).x4)], bx [2] (encSCost ({ a0 with Color := a0.Color.set (i_t6_6).toNat (wrap64 (e12 + (1 : Int))) }))]) (aC (idx_b he12) <| aC (ald he12 (lenI .i64) (encSCost a0) 2 7 0 1 false (vI e12)) <| aC (Eq.refl (vI e12)) <| aC (idx_b he13) <| aC (show 2 + (i_t6_6).toNat * 1 + 1 ≤ (encSCost a0).length ∧ (encSCost a0).take (2 + (i_t6_6).toNat * 1) ++ ([.int .i64 (wrap64 (e12 + (1 : Int)))] : List C) ++ (encSCost a0).drop (2 + (i_t6_6).toNat * 1 + ([.int .i64 (wrap64 (e12 + (1 : Int)))] : List C).length) = (encSCost ({ a0 with Color := a0.Color.set (i_t6_6).toNat (wrap64 (e12 + (1 : Int))) })) from (arr_st (e := eI .i64) (N := 1) (l := a0.Color.l) (i := i_t6_6) (x' := (wrap64 (e12 + (1 : Int)))) (o := 0) (base := 2) (cs := ([.int .i64 (wrap64 (e12 + (1 : Int)))] : List C)) (pre := (encSCost a0).take 2) (post := (encSCost a0).drop 7) (by kernel_rfl) (by kernel_rfl) (by kernel_rfl) (A5.l_set _ _ _) he13 (lenI .i64) (by omega) (Nat.le_of_ble_eq_true (by kernel_rfl)) (by kernel_rfl))) <| aC (show ((none : Option (TypeId × Nat × Nat)) = none) ∧ True from ⟨rfl, trivial⟩) <| aN) ?_
           refine Rg [.a, .a, .a] (sl 47 [(4, vP [4] (0)), (5, vB true)] [bx [4] (encSCost ({ a0 with Color := a0.Color.set (i_t6_6).toNat (wrap64 (e12 + (1 : Int))) }))]) (aN) ?_
           refine Holds.ret ?_
           refine blockQ.ret ?_
           refine Tr ?_
           have hoB8_ := hoB8 _ (sI hzB8).symm
           subst hoB8_
           replace h := sumL h
           refine Tr ?_
           refine blockQ.ret ?_
           refine Tr ?_
           exact bE (.tup [vA encSCost ({ a0 with Color := a0.Color.set (i_t6_6).toNat (wrap64 (e12 + (1 : Int))) }), vB true]) (.tup [.agg (encSCost ({ a0 with Color := a0.Color.set (i_t6_6).toNat (wrap64 (e12 + (1 : Int))) })), vB true]) (congrArg (fun (q : SCost × Bool) => (.tup [vA encSCost q.1, vB q.2] : V)) (sI h))
         · refine Holds.skip ?_
           refine blockQ.normal ?_
           refine Tn ?_
           refine Re [.a, .a, .a] (sl 47 [(1, .c (.int .u8 a1)), (2, vP [2] (0)), (4, vP [4] (0)), (6, vI (wrap64 (i_t6_6 + (1 : Int)))), (31, vI i_t6_6), (32, vI (wrap64 (i_t6_6 + (1 : Int)))), (36, vB (c10 == a1))] [bx [4] [.int .i64 (0 : Int), .int .i64 (0 : Int), .int .i64 (((⟨(0 : Int), (0 : Int), (0 : Int), (0 : Int), (0 : Int)⟩ : A5 (Int))).x0), .int .i64 (((⟨(0 : Int), (0 : Int), (0 : Int), (0 : Int), (0 : Int)⟩ : A5 (Int))).x1), .int .i64 (((⟨(0 : Int), (0 : Int), (0 : Int), (0 : Int), (0 : Int)⟩ : A5 (Int))).x2), .int .i64 (((⟨(0 : Int), (0 : Int), (0 : Int), (0 : Int), (0 : Int)⟩ : A5 (Int))).x3), .int .i64 (((⟨(0 : Int), (0 : Int), (0 : Int), (0 : Int), (0 : Int)⟩ : A5 (Int))).x4)], bx [2] (encSCost a0)]) (aN) ?_
           refine Tn ⟨(wrap64 (i_t6_6 + (1 : Int))), (sI hzB8).symm, wT⟩
       · refine Holds.exit ?_
         refine thenQ.exit ?_
         have hoB8_ := hoB8 _ (sI hzB8).symm
         subst hoB8_
         replace h := sumR h
         refine thenQ.exit ?_
         refine blockQ.out ?_
         refine Tn ⟨(), h, wT⟩
     · rintro _ hJ4
       replace hJ4 : r08_count_J4 a0 = some r := hJ4
       unfold r08_count_J4 at hJ4
       refine Rg [.a, .a, .a] (sl 47 [(4, vP [4] (0)), (5, vB false)] [bx [4] (encSCost a0)]) (aN) ?_
       refine Holds.ret ?_
       exact bE (.tup [vA encSCost a0, vB false]) (.tup [.agg (encSCost a0), vB false]) (congrArg (fun (q : SCost × Bool) => (.tup [vA encSCost q.1, vB q.2] : V)) (sI hJ4))
end Go.PL
