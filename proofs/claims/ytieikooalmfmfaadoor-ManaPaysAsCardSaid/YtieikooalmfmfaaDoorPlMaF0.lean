/- Functions of the program, as partial functions in Lean, with proofs. -/
import Derived.Test.YtieikooalmfmfaaDoorPlMaB
namespace Go.PL
open Go Go.RowKit Go.Proofs
set_option maxRecDepth 100000
set_option linter.all false
set_option maxHeartbeats 1000000
attribute [local irreducible] Holds thenQ blockQ
def mana_Is_J1 (a0 : SCost) : Option (Bool) :=
 (some (if (decide ((0 : Int) ≤ a0.Generic)) = true then decide (a0.Generic ≤ (99 : Int)) else false)).bind fun b2 =>
 (some (if b2 = true then decide ((0 : Int) ≤ a0.X) else false)).bind fun b3 =>
 (some (if b3 = true then decide (a0.X ≤ (2 : Int)) else false)).bind fun b4 =>
 some b4
def mana_Is_B7 (a0 : SCost) (vt7_6 : Int) : Option ((Int) ⊕ (Unit ⊕ Unit)) :=
 (if (decide (vt7_6 < (5 : Int))) = true then
  (idx a0.Color.l vt7_6).bind fun e9 =>
  (some (if (decide (e9 < (0 : Int))) = true then true else decide ((9 : Int) < e9))).bind fun b10 =>
  (if b10 = true then
   some (.inr (.inl ()))
  else
   some (.inl (wrap64 (vt7_6 + (1 : Int)))))
 else
  some (.inr (.inr ())))
/-- cardgame/mana.Is -/
def mana_Is (a0 : SCost) : Option (Bool) :=
 (iter (fun (v : Int) => mana_Is_B7 a0 v) FU (0 : Int)).bind (Sum.elim (fun o0 => some false) (fun o1 => mana_Is_J1 a0))
def mana_Is_C (a0 : SCost) (r : Bool) : Prop := PCall Tryd.prog I0 21 [vA encSCost a0] (· = vB r)
theorem mana_Is_ok {a0 : SCost} {r : Bool} (h : mana_Is a0 = some r) : mana_Is_C a0 r := by
 refine PCall.body I0_stable (by kernel_rfl) Tryd.func21 rfl Tryd.ntmps21 (rs := [.tmp 2]) rfl rfl ?_
 intro w0 av old gv
 unfold mana_Is at h
 refine Rg [.a, .a] (sl 35 [(1, vP [1] (0))] [bx [1] (encSCost a0)]) (aN) ?_
 refine Sj (X := Unit) (fun v => (sl 35 [(1, vP [1] (0))] [bx [1] (encSCost a0)])) (fun v => mana_Is_J1 a0 = some r) ?_ ?_
 · refine Rg [.a, .a, .a] (sl 35 [(1, vP [1] (0)), (6, vA (eA5 (eI .i64)) a0.Color), (7, vI (0 : Int))] [bx [1] (encSCost a0)]) (aN) ?_
   refine Holds.block ?_
   obtain ⟨oB7, hiB7, h⟩ := bS h
   refine It (fun (v : Int) => (sl 35 [(1, vP [1] (0)), (6, vA (eA5 (eI .i64)) a0.Color), (7, vI v)] [bx [1] (encSCost a0)])) hiB7 (wT) ?_
   rintro vt7_6 zB7 hzB7 hoB7
   replace hzB7 : mana_Is_B7 a0 vt7_6 = some zB7 := hzB7
   unfold mana_Is_B7 at hzB7
   refine Rg [.a] (sl 35 [(1, vP [1] (0)), (6, vA (eA5 (eI .i64)) a0.Color), (7, vI vt7_6), (8, vB (decide (vt7_6 < (5 : Int))))] [bx [1] (encSCost a0)]) (aN) ?_
   refine Holds.seq ?_
   refine iB hzB7 (fun b8 hzB7 => ?_) (fun b8 hzB7 => ?_)
   · refine Holds.skip ?_
     refine Tn ?_
     refine Holds.seq ?_
     refine Holds.block ?_
     obtain ⟨e9, he9, hzB7⟩ := bS hzB7
     refine Rg [(.v (vI e9)), .a] (sl 35 [(1, vP [1] (0)), (4, vI e9), (6, vA (eA5 (eI .i64)) a0.Color), (7, vI vt7_6)] [bx [1] (encSCost a0)]) (aC (show (0 ≤ vt7_6 ∧ vt7_6 < ((5 : Nat) : Int)) ∧ (vt7_6).toNat * 1 + 1 ≤ (eA5 (eI .i64) a0.Color).length ∧ toV false ((vt7_6).toNat * 1) 1 (eA5 (eI .i64) a0.Color) = vI e9 from ⟨idx_b he9, arr_ld (e := eI .i64) (N := 1) (l := a0.Color.l) (base := 0) (pre := []) (post := []) (by kernel_rfl) rfl he9 (lenI .i64) (o := 0) (by simp) (by decide) (by decide) (by kernel_rfl)⟩) <| aC (Eq.refl (vI e9)) <| aN) ?_
     obtain ⟨b10, hb10, hzB7⟩ := bS hzB7
     refine Rg [.a, .a, .a, .a, .a, (.v (vB b10))] (sl 35 [(1, vP [1] (0)), (6, vA (eA5 (eI .i64)) a0.Color), (7, vI vt7_6), (15, vB b10)] [bx [1] (encSCost a0)]) (aG ((decide (e9 < (0 : Int))) == false) <| aF (decide (e9 < (0 : Int))) <| aB hb10 <| aN) ?_
     refine iB hzB7 (fun b11 hzB7 => ?_) (fun b11 hzB7 => ?_)
     · refine Rg [.a] (sl 35 [(2, vB false)] []) (aN) ?_
       refine Holds.ret ?_
       refine blockQ.ret ?_
       refine Tr ?_
       have hoB7_ := hoB7 _ (sI hzB7).symm
       subst hoB7_
       replace h := sumL h
       refine Tr ?_
       refine blockQ.ret ?_
       refine Tr ?_
       exact bQ (vB false) (congrArg vB (sI h))
     · refine Holds.skip ?_
       refine blockQ.normal ?_
       refine Tn ?_
       refine Re [.a, .a] (sl 35 [(1, vP [1] (0)), (6, vA (eA5 (eI .i64)) a0.Color), (7, vI (wrap64 (vt7_6 + (1 : Int)))), (15, vB b10), (16, vI (wrap64 (vt7_6 + (1 : Int))))] [bx [1] (encSCost a0)]) (aN) ?_
       refine Tn ⟨(wrap64 (vt7_6 + (1 : Int))), (sI hzB7).symm, wT⟩
   · refine Holds.exit ?_
     refine thenQ.exit ?_
     have hoB7_ := hoB7 _ (sI hzB7).symm
     subst hoB7_
     replace h := sumR h
     refine thenQ.exit ?_
     refine blockQ.out ?_
     refine Tn ⟨(), h, wT⟩
 · rintro _ hJ1
   replace hJ1 : mana_Is_J1 a0 = some r := hJ1
   unfold mana_Is_J1 at hJ1
   obtain ⟨b2, hb2, hJ1⟩ := bS hJ1
   obtain ⟨b3, hb3, hJ1⟩ := bS hJ1
   obtain ⟨b4, hb4, hJ1⟩ := bS hJ1
   refine Rg [.a, .a, .a, .a, .a, .a, .a, (.v (vB b2)), .a, .a, .a, .a, (.v (vB b3)), .a, .a, .a, .a, (.v (vB b4)), .a] (sl 35 [(2, vB b4)] []) (aG ((decide ((0 : Int) ≤ a0.Generic)) == true) <| aG ((decide ((0 : Int) ≤ a0.Generic)) == true) <| aT (decide ((0 : Int) ≤ a0.Generic)) <| aB hb2 <| aG (b2 == true) <| aG (b2 == true) <| aT b2 <| aB hb3 <| aG (b3 == true) <| aG (b3 == true) <| aT b3 <| aB hb4 <| aN) ?_
   refine Holds.ret ?_
   exact bQ (vB b4) (congrArg vB (sI hJ1))
def mana_Whole_J1  : Option (Bool) :=
 some true
def mana_Whole_B4 (a0 : A6 (Int)) (vt6_3 : Int) : Option ((Int) ⊕ (Unit ⊕ Unit)) :=
 (if (decide (vt6_3 < (6 : Int))) = true then
  (idx a0.l vt6_3).bind fun e6 =>
  (some (if (decide (e6 < (0 : Int))) = true then true else decide ((1000000 : Int) < e6))).bind fun b7 =>
  (if b7 = true then
   some (.inr (.inl ()))
  else
   some (.inl (wrap64 (vt6_3 + (1 : Int)))))
 else
  some (.inr (.inr ())))
/-- cardgame/mana.Whole -/
def mana_Whole (a0 : A6 (Int)) : Option (Bool) :=
 (iter (fun (v : Int) => mana_Whole_B4 a0 v) FU (0 : Int)).bind (Sum.elim (fun o0 => some false) (fun o1 => mana_Whole_J1))
def mana_Whole_C (a0 : A6 (Int)) (r : Bool) : Prop := PCall Tryd.prog I0 28 [vA (eA6 (eI .i64)) a0] (· = vB r)
theorem mana_Whole_ok {a0 : A6 (Int)} {r : Bool} (h : mana_Whole a0 = some r) : mana_Whole_C a0 r := by
 refine PCall.body I0_stable (by kernel_rfl) Tryd.func28 rfl Tryd.ntmps28 (rs := [.tmp 2]) rfl rfl ?_
 intro w0 av old gv
 unfold mana_Whole at h
 refine Rg [.a, .a] (sl 16 [(1, vP [1] (0))] [bx [1] (eA6 (eI .i64) a0)]) (aN) ?_
 refine Sj (X := Unit) (fun v => (sl 16 [] [])) (fun v => mana_Whole_J1 = some r) ?_ ?_
 · refine Rg [.a, .a] (sl 16 [(5, vA (eA6 (eI .i64)) a0), (6, vI (0 : Int))] []) (aN) ?_
   refine Holds.block ?_
   obtain ⟨oB4, hiB4, h⟩ := bS h
   refine It (fun (v : Int) => (sl 16 [(5, vA (eA6 (eI .i64)) a0), (6, vI v)] [])) hiB4 (wT) ?_
   rintro vt6_3 zB4 hzB4 hoB4
   replace hzB4 : mana_Whole_B4 a0 vt6_3 = some zB4 := hzB4
   unfold mana_Whole_B4 at hzB4
   refine Rg [.a] (sl 16 [(5, vA (eA6 (eI .i64)) a0), (6, vI vt6_3), (7, vB (decide (vt6_3 < (6 : Int))))] []) (aN) ?_
   refine Holds.seq ?_
   refine iB hzB4 (fun b5 hzB4 => ?_) (fun b5 hzB4 => ?_)
   · refine Holds.skip ?_
     refine Tn ?_
     refine Holds.seq ?_
     refine Holds.block ?_
     obtain ⟨e6, he6, hzB4⟩ := bS hzB4
     refine Rg [(.v (vI e6)), .a] (sl 16 [(4, vI e6), (5, vA (eA6 (eI .i64)) a0), (6, vI vt6_3)] []) (aC (show (0 ≤ vt6_3 ∧ vt6_3 < ((6 : Nat) : Int)) ∧ (vt6_3).toNat * 1 + 1 ≤ (eA6 (eI .i64) a0).length ∧ toV false ((vt6_3).toNat * 1) 1 (eA6 (eI .i64) a0) = vI e6 from ⟨idx_b he6, arr_ld (e := eI .i64) (N := 1) (l := a0.l) (base := 0) (pre := []) (post := []) (by kernel_rfl) rfl he6 (lenI .i64) (o := 0) (by simp) (by decide) (by decide) (by kernel_rfl)⟩) <| aC (Eq.refl (vI e6)) <| aN) ?_
     obtain ⟨b7, hb7, hzB4⟩ := bS hzB4
     refine Rg [.a, .a, .a, .a, .a, (.v (vB b7))] (sl 16 [(5, vA (eA6 (eI .i64)) a0), (6, vI vt6_3), (14, vB b7)] []) (aG ((decide (e6 < (0 : Int))) == false) <| aF (decide (e6 < (0 : Int))) <| aB hb7 <| aN) ?_
     refine iB hzB4 (fun b8 hzB4 => ?_) (fun b8 hzB4 => ?_)
     · refine Rg [.a] (sl 16 [(2, vB false)] []) (aN) ?_
       refine Holds.ret ?_
       refine blockQ.ret ?_
       refine Tr ?_
       have hoB4_ := hoB4 _ (sI hzB4).symm
       subst hoB4_
       replace h := sumL h
       refine Tr ?_
       refine blockQ.ret ?_
       refine Tr ?_
       exact bQ (vB false) (congrArg vB (sI h))
     · refine Holds.skip ?_
       refine blockQ.normal ?_
       refine Tn ?_
       refine Re [.a, .a] (sl 16 [(5, vA (eA6 (eI .i64)) a0), (6, vI (wrap64 (vt6_3 + (1 : Int)))), (14, vB b7), (15, vI (wrap64 (vt6_3 + (1 : Int))))] []) (aN) ?_
       refine Tn ⟨(wrap64 (vt6_3 + (1 : Int))), (sI hzB4).symm, wT⟩
   · refine Holds.exit ?_
     refine thenQ.exit ?_
     have hoB4_ := hoB4 _ (sI hzB4).symm
     subst hoB4_
     replace h := sumR h
     refine thenQ.exit ?_
     refine blockQ.out ?_
     refine Tn ⟨(), h, wT⟩
 · rintro _ hJ1
   replace hJ1 : mana_Whole_J1 = some r := hJ1
   unfold mana_Whole_J1 at hJ1
   refine Rg [.a] (sl 16 [(2, vB true)] []) (aN) ?_
   refine Holds.ret ?_
   exact bQ (vB true) (congrArg vB (sI hJ1))
/-- cardgame/num.Clamp -/
def num_Clamp (a0 : Int) : Option (Int) :=
 some (if (1000000 : Int) < (if a0 < (-1000000 : Int) then (-1000000 : Int) else a0) then (1000000 : Int) else (if a0 < (-1000000 : Int) then (-1000000 : Int) else a0))
def num_Clamp_C (a0 : Int) (r : Int) : Prop := PCall Tryd.prog I0 65 [vI a0] (· = vI r)
theorem num_Clamp_ok {a0 : Int} {r : Int} (h : num_Clamp a0 = some r) : num_Clamp_C a0 r := by
 refine PCall.body I0_stable (by kernel_rfl) Tryd.func65 rfl Tryd.ntmps65 (rs := [.tmp 2]) rfl rfl ?_
 intro w0 av old gv
 unfold num_Clamp at h
 refine Rg [.a] (sl 6 [(0, vI a0)] []) (aN) ?_
 refine Rg [.a, .a, .a, .a] (sl 6 [(2, vI (if (1000000 : Int) < (if a0 < (-1000000 : Int) then (-1000000 : Int) else a0) then (1000000 : Int) else (if a0 < (-1000000 : Int) then (-1000000 : Int) else a0)))] []) (aC (show (True ∧ (True ∧ True)) ∧ True from ⟨⟨trivial, ⟨trivial, trivial⟩⟩, trivial⟩) <| aC (show (True ∧ (True ∧ True)) ∧ True from ⟨⟨trivial, ⟨trivial, trivial⟩⟩, trivial⟩) <| aN) ?_
 refine Holds.ret ?_
 exact bQ (vI (if (1000000 : Int) < (if a0 < (-1000000 : Int) then (-1000000 : Int) else a0) then (1000000 : Int) else (if a0 < (-1000000 : Int) then (-1000000 : Int) else a0))) (congrArg vI (sI h))
/-- cardgame/num.Text -/
def num_Text (a0 : Int) : Option ((List UInt8)) :=
 (dItoa a0).bind fun r1 =>
 some r1
def num_Text_C (a0 : Int) (r : (List UInt8)) : Prop := PCall Tryd.prog I0 48 [vI a0] (· = vS r)
theorem num_Text_ok {a0 : Int} {r : (List UInt8)} (h : num_Text a0 = some r) : num_Text_C a0 r := by
 refine PCall.body I0_stable (by kernel_rfl) Tryd.func48 rfl Tryd.ntmps48 (rs := [.tmp 2]) rfl rfl ?_
 intro w0 av old gv
 unfold num_Text at h
 refine Rg [.a] (sl 5 [(0, vI a0)] []) (aN) ?_
 obtain ⟨r1, hr1, h⟩ := bS h
 refine Rg [.a, (.c (vS r1)), .a] (sl 5 [(2, vS r1)] []) (aC (okItoa hr1) <| aN) ?_
 refine Holds.ret ?_
 exact bQ (vS r1) (congrArg vS (sI h))
def r08_Is_J5  : Option (Bool) :=
 some true
def r08_Is_B8 (a0 : SCost) (i_t3_7 : Int) : Option ((Int) ⊕ (Unit ⊕ Unit)) :=
 (if (decide (i_t3_7 < (5 : Int))) = true then
  (idx a0.Color.l i_t3_7).bind fun e10 =>
  (gd ((decide (e10 < (0 : Int))) == false) (idx a0.Color.l i_t3_7)).bind fun e11 =>
  (some (if (decide (e10 < (0 : Int))) = true then true else decide ((9 : Int) < e11))).bind fun b12 =>
  (if b12 = true then
   some (.inr (.inl ()))
  else
   some (.inl (wrap64 (i_t3_7 + (1 : Int)))))
 else
  some (.inr (.inr ())))
/-- cardgame/cardgameref08.Is -/
def r08_Is (a0 : SCost) : Option (Bool) :=
 (some (if (decide (a0.Generic < (0 : Int))) = true then true else decide ((99 : Int) < a0.Generic))).bind fun b1 =>
 (some (if b1 = true then true else decide (a0.X < (0 : Int)))).bind fun b2 =>
 (some (if b2 = true then true else decide ((2 : Int) < a0.X))).bind fun b3 =>
 (if b3 = true then
  some false
 else
  (iter (fun (v : Int) => r08_Is_B8 a0 v) FU (0 : Int)).bind (Sum.elim (fun o0 => some false) (fun o1 => r08_Is_J5)))
def r08_Is_C (a0 : SCost) (r : Bool) : Prop := PCall Tryd.prog I0 22 [vA encSCost a0] (· = vB r)
theorem r08_Is_ok {a0 : SCost} {r : Bool} (h : r08_Is a0 = some r) : r08_Is_C a0 r := by
 refine PCall.body I0_stable (by kernel_rfl) Tryd.func22 rfl Tryd.ntmps22 (rs := [.tmp 2]) rfl rfl ?_
 intro w0 av old gv
 unfold r08_Is at h
 refine Rg [.a, .a] (sl 38 [(1, vP [1] (0))] [bx [1] (encSCost a0)]) (aN) ?_
 refine Holds.seq ?_
 obtain ⟨b1, hb1, h⟩ := bS h
 obtain ⟨b2, hb2, h⟩ := bS h
 obtain ⟨b3, hb3, h⟩ := bS h
 refine Rg [.a, .a, .a, .a, .a, .a, .a, (.v (vB b1)), .a, .a, .a, .a, (.v (vB b2)), .a, .a, .a, .a, (.v (vB b3))] (sl 38 [(1, vP [1] (0)), (21, vB b3)] [bx [1] (encSCost a0)]) (aG ((decide (a0.Generic < (0 : Int))) == false) <| aG ((decide (a0.Generic < (0 : Int))) == false) <| aF (decide (a0.Generic < (0 : Int))) <| aB hb1 <| aG (b1 == false) <| aG (b1 == false) <| aF b1 <| aB hb2 <| aG (b2 == false) <| aG (b2 == false) <| aF b2 <| aB hb3 <| aN) ?_
 refine iB h (fun b4 h => ?_) (fun b4 h => ?_)
 · refine Rg [.a] (sl 38 [(2, vB false)] []) (aN) ?_
   refine Holds.ret ?_
   refine Tr ?_
   exact bQ (vB false) (congrArg vB (sI h))
 · refine Holds.skip ?_
   refine Tn ?_
   refine Sj (X := Unit) (fun v => (sl 38 [] [])) (fun v => r08_Is_J5 = some r) ?_ ?_
   · refine Rg [.a] (sl 38 [(1, vP [1] (0)), (3, vI (0 : Int))] [bx [1] (encSCost a0)]) (aN) ?_
     refine Holds.block ?_
     obtain ⟨oB8, hiB8, h⟩ := bS h
     refine It (fun (v : Int) => (sl 38 [(1, vP [1] (0)), (3, vI v)] [bx [1] (encSCost a0)])) hiB8 (wT) ?_
     rintro i_t3_7 zB8 hzB8 hoB8
     replace hzB8 : r08_Is_B8 a0 i_t3_7 = some zB8 := hzB8
     unfold r08_Is_B8 at hzB8
     refine Holds.seq ?_
     refine Rg [.a, .a] (sl 38 [(1, vP [1] (0)), (3, vI i_t3_7), (23, vB (decide (i_t3_7 < (5 : Int))))] [bx [1] (encSCost a0)]) (aN) ?_
     refine iB hzB8 (fun b9 hzB8 => ?_) (fun b9 hzB8 => ?_)
     · refine Holds.skip ?_
       refine Tn ?_
       refine Holds.seq ?_
       refine Holds.block ?_
       obtain ⟨e10, he10, hzB8⟩ := bS hzB8
       obtain ⟨e11, he11, hzB8⟩ := bS hzB8
       obtain ⟨b12, hb12, hzB8⟩ := bS hzB8
       refine Rg [.a, .a, .a, (.v (vI e10)), .a, .a, .a, .a, .a, (.v (vI e11)), .a, (.v (vB b12))] (sl 38 [(1, vP [1] (0)), (3, vI i_t3_7), (37, vB b12)] [bx [1] (encSCost a0)]) (aC (idx_b he10) <| aC (ald he10 (lenI .i64) (encSCost a0) 2 7 0 1 false (vI e10)) <| aC (Eq.refl (vI e10)) <| aC (fun hg : ((decide (e10 < (0 : Int))) == false) = true => aC (gi ((decide (e10 < (0 : Int))) == false)) <| aC (gi ((decide (e10 < (0 : Int))) == false)) <| aC (gidx_b he11 hg).1 <| aN) <| aC (fun hg : ((decide (e10 < (0 : Int))) == false) = true => aC (gi ((decide (e10 < (0 : Int))) == false)) <| aC (ald (gd_t he11 hg) (lenI .i64) (encSCost a0) 2 7 0 1 false (vI e11)) <| aC (Eq.refl (vI e11)) <| aN) <| aG ((decide (e10 < (0 : Int))) == false) <| aF (decide (e10 < (0 : Int))) <| aB hb12 <| aN) ?_
       refine iB hzB8 (fun b13 hzB8 => ?_) (fun b13 hzB8 => ?_)
       · refine Rg [.a] (sl 38 [(2, vB false)] []) (aN) ?_
         refine Holds.ret ?_
         refine blockQ.ret ?_
         refine Tr ?_
         have hoB8_ := hoB8 _ (sI hzB8).symm
         subst hoB8_
         replace h := sumL h
         refine Tr ?_
         refine blockQ.ret ?_
         refine Tr ?_
         exact bQ (vB false) (congrArg vB (sI h))
       · refine Holds.skip ?_
         refine blockQ.normal ?_
         refine Tn ?_
         refine Re [.a, .a, .a] (sl 38 [(1, vP [1] (0)), (3, vI (wrap64 (i_t3_7 + (1 : Int)))), (24, vI i_t3_7), (25, vI (wrap64 (i_t3_7 + (1 : Int)))), (37, vB b12)] [bx [1] (encSCost a0)]) (aN) ?_
         refine Tn ⟨(wrap64 (i_t3_7 + (1 : Int))), (sI hzB8).symm, wT⟩
     · refine Holds.exit ?_
       refine thenQ.exit ?_
       have hoB8_ := hoB8 _ (sI hzB8).symm
       subst hoB8_
       replace h := sumR h
       refine thenQ.exit ?_
       refine blockQ.out ?_
       refine Tn ⟨(), h, wT⟩
   · rintro _ hJ5
     replace hJ5 : r08_Is_J5 = some r := hJ5
     unfold r08_Is_J5 at hJ5
     refine Rg [.a] (sl 38 [(2, vB true)] []) (aN) ?_
     refine Holds.ret ?_
     exact bQ (vB true) (congrArg vB (sI hJ5))
def r08_Whole_J1  : Option (Bool) :=
 some true
def r08_Whole_B4 (a0 : A6 (Int)) (i_t3_3 : Int) : Option ((Int) ⊕ (Unit ⊕ Unit)) :=
 (if (decide (i_t3_3 < (6 : Int))) = true then
  (idx a0.l i_t3_3).bind fun e6 =>
  (gd ((decide (e6 < (0 : Int))) == false) (idx a0.l i_t3_3)).bind fun e7 =>
  (some (if (decide (e6 < (0 : Int))) = true then true else decide ((1000000 : Int) < e7))).bind fun b8 =>
  (if b8 = true then
   some (.inr (.inl ()))
  else
   some (.inl (wrap64 (i_t3_3 + (1 : Int)))))
 else
  some (.inr (.inr ())))
/-- cardgame/cardgameref08.Whole -/
def r08_Whole (a0 : A6 (Int)) : Option (Bool) :=
 (iter (fun (v : Int) => r08_Whole_B4 a0 v) FU (0 : Int)).bind (Sum.elim (fun o0 => some false) (fun o1 => r08_Whole_J1))
def r08_Whole_C (a0 : A6 (Int)) (r : Bool) : Prop := PCall Tryd.prog I0 29 [vA (eA6 (eI .i64)) a0] (· = vB r)
theorem r08_Whole_ok {a0 : A6 (Int)} {r : Bool} (h : r08_Whole a0 = some r) : r08_Whole_C a0 r := by
 refine PCall.body I0_stable (by kernel_rfl) Tryd.func29 rfl Tryd.ntmps29 (rs := [.tmp 2]) rfl rfl ?_
 intro w0 av old gv
 unfold r08_Whole at h
 refine Rg [.a, .a] (sl 18 [(1, vP [1] (0))] [bx [1] (eA6 (eI .i64) a0)]) (aN) ?_
 refine Sj (X := Unit) (fun v => (sl 18 [] [])) (fun v => r08_Whole_J1 = some r) ?_ ?_
 · refine Rg [.a] (sl 18 [(1, vP [1] (0)), (3, vI (0 : Int))] [bx [1] (eA6 (eI .i64) a0)]) (aN) ?_
   refine Holds.block ?_
   obtain ⟨oB4, hiB4, h⟩ := bS h
   refine It (fun (v : Int) => (sl 18 [(1, vP [1] (0)), (3, vI v)] [bx [1] (eA6 (eI .i64) a0)])) hiB4 (wT) ?_
   rintro i_t3_3 zB4 hzB4 hoB4
   replace hzB4 : r08_Whole_B4 a0 i_t3_3 = some zB4 := hzB4
   unfold r08_Whole_B4 at hzB4
   refine Holds.seq ?_
   refine Rg [.a, .a] (sl 18 [(1, vP [1] (0)), (3, vI i_t3_3), (5, vB (decide (i_t3_3 < (6 : Int))))] [bx [1] (eA6 (eI .i64) a0)]) (aN) ?_
   refine iB hzB4 (fun b5 hzB4 => ?_) (fun b5 hzB4 => ?_)
   · refine Holds.skip ?_
     refine Tn ?_
     refine Holds.seq ?_
     refine Holds.block ?_
     obtain ⟨e6, he6, hzB4⟩ := bS hzB4
     obtain ⟨e7, he7, hzB4⟩ := bS hzB4
     obtain ⟨b8, hb8, hzB4⟩ := bS hzB4
     refine Rg [.a, .a, (.v (vI e6)), .a, .a, .a, .a, (.v (vI e7)), .a, (.v (vB b8))] (sl 18 [(1, vP [1] (0)), (3, vI i_t3_3), (17, vB b8)] [bx [1] (eA6 (eI .i64) a0)]) (aC (idx_b he6) <| aC (ald he6 (lenI .i64) (eA6 (eI .i64) a0) 0 6 0 1 false (vI e6)) <| aC (Eq.refl (vI e6)) <| aC (fun hg : ((decide (e6 < (0 : Int))) == false) = true => aC (gi ((decide (e6 < (0 : Int))) == false)) <| aC (gidx_b he7 hg).1 <| aN) <| aC (fun hg : ((decide (e6 < (0 : Int))) == false) = true => aC (gi ((decide (e6 < (0 : Int))) == false)) <| aC (ald (gd_t he7 hg) (lenI .i64) (eA6 (eI .i64) a0) 0 6 0 1 false (vI e7)) <| aC (Eq.refl (vI e7)) <| aN) <| aG ((decide (e6 < (0 : Int))) == false) <| aF (decide (e6 < (0 : Int))) <| aB hb8 <| aN) ?_
     refine iB hzB4 (fun b9 hzB4 => ?_) (fun b9 hzB4 => ?_)
     · refine Rg [.a] (sl 18 [(2, vB false)] []) (aN) ?_
       refine Holds.ret ?_
       refine blockQ.ret ?_
       refine Tr ?_
       have hoB4_ := hoB4 _ (sI hzB4).symm
       subst hoB4_
       replace h := sumL h
       refine Tr ?_
       refine blockQ.ret ?_
       refine Tr ?_
       exact bQ (vB false) (congrArg vB (sI h))
     · refine Holds.skip ?_
       refine blockQ.normal ?_
       refine Tn ?_
       refine Re [.a, .a, .a] (sl 18 [(1, vP [1] (0)), (3, vI (wrap64 (i_t3_3 + (1 : Int)))), (6, vI i_t3_3), (7, vI (wrap64 (i_t3_3 + (1 : Int)))), (17, vB b8)] [bx [1] (eA6 (eI .i64) a0)]) (aN) ?_
       refine Tn ⟨(wrap64 (i_t3_3 + (1 : Int))), (sI hzB4).symm, wT⟩
   · refine Holds.exit ?_
     refine thenQ.exit ?_
     have hoB4_ := hoB4 _ (sI hzB4).symm
     subst hoB4_
     replace h := sumR h
     refine thenQ.exit ?_
     refine blockQ.out ?_
     refine Tn ⟨(), h, wT⟩
 · rintro _ hJ1
   replace hJ1 : r08_Whole_J1 = some r := hJ1
   unfold r08_Whole_J1 at hJ1
   refine Rg [.a] (sl 18 [(2, vB true)] []) (aN) ?_
   refine Holds.ret ?_
   exact bQ (vB true) (congrArg vB (sI hJ1))
end Go.PL
