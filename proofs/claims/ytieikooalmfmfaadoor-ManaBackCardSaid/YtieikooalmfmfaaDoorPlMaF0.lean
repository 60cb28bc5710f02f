/- Functions of the program, as partial functions in Lean, with proofs. -/
import Derived.Test.YtieikooalmfmfaaDoorPlMaB
namespace Go.PL
open Go Go.RowKit Go.Proofs
set_option maxRecDepth 100000
set_option linter.all false
set_option maxHeartbeats 1000000
attribute [local irreducible] Holds thenQ blockQ
def mana_Is_J1 (a0 : SCost) : Option (Bool) :=
 (some (if (decide ((0 : Int) ≤ a0.Generic)) = true then decide (a0.Generic ≤ (99 : Int)) else false)).bind fun b2 =>
 (some (if b2 = true then decide ((0 : Int) ≤ a0.X) else false)).bind fun b3 =>
 (some (if b3 = true then decide (a0.X ≤ (2 : Int)) else false)).bind fun b4 =>
 some b4
def mana_Is_B7 (a0 : SCost) (vt7_6 : Int) : Option ((Int) ⊕ (Unit ⊕ Unit)) :=
 (if (decide (vt7_6 < (5 : Int))) = true then
  (idx a0.Color.l vt7_6).bind fun e9 =>
  (some (if (decide (e9 < (0 : Int))) = true then true else decide ((9 : Int) < e9))).bind fun b10 =>
  (if b10 = true then
   some (.inr (.inl ()))
  else
   some (.inl (wrap64 (vt7_6 + (1 : Int)))))
 else
  some (.inr (.inr ())))
/-- cardgame/mana.Is -/
def mana_Is (a0 : SCost) : Option (Bool) :=
 (iter (fun (v : Int) => mana_Is_B7 a0 v) FU (0 : Int)).bind (Sum.elim (fun o0 => some false) (fun o1 => mana_Is_J1 a0))
def mana_Is_C (a0 : SCost) (r : Bool) : Prop := PCall Tryd.prog I0 21 [vA encSCost a0] (· = vB r)
theorem mana_Is_ok {a0 : SCost} {r : Bool} (h : mana_Is a0 = some r) : mana_Is_C a0 r := by
 refine PCall.body I0_stable (by kernel_rfl) Tryd.func21 rfl Tryd.ntmps21 (rs := [.tmp 2]) rfl rfl ?_
 intro w0 av old gv
 unfold mana_Is at h
 refine Rg [.a, .a] (sl 35 [(1, vP [1] (0))] [bx [1] (encSCost a0)]) (aN) ?_
 refine Sj (X := Unit) (fun v => (sl 35 [(1, vP [1] (0))] [bx [1] (encSCost a0)])) (fun v => mana_Is_J1 a0 = some r) ?_ ?_
 · refine Rg [.a, .a, .a] (sl 35 [(1, vP [1] (0)), (6, vA (eA5 (eI .i64)) a0.Color), (7, vI (0 : Int))] [bx [1] (encSCost a0)]) (aN) ?_
   refine Holds.block ?_
   obtain ⟨oB7, hiB7, h⟩ := bS h
   refine It (fun (v : Int) => (sl 35 [(1, vP [1] (0)), (6, vA (eA5 (eI .i64)) a0.Color), (7, vI v)] [bx [1] (encSCost a0)])) hiB7 (wT) ?_
   rintro vt7_6 zB7 hzB7 hoB7
   replace hzB7 : mana_Is_B7 a0 vt7_6 = some zB7 := hzB7
   unfold mana_Is_B7 at hzB7
   refine Rg [.a] (sl 35 [(1, vP [1] (0)), (6, vA (eA5 (eI .i64)) a0.Color), (7, vI vt7_6), (8, vB (decide (vt7_6 < (5 : Int))))] [bx [1] (encSCost a0)]) (aN) ?_
   refine Holds.seq ?_
   refine iB hzB7 (fun b8 hzB7 => ?_) (fun b8 hzB7 => ?_)
   · refine Holds.skip ?_
     refine Tn ?_
     refine Holds.seq ?_
     refine Holds.block ?_
     obtain ⟨e9, he9, hzB7⟩ := bS hzB7
     refine Rg [(.v (vI e9)), .a] (sl 35 [(1, vP [1] (0)), (4, vI e9), (6, vA (eA5 (eI .i64)) a0.Color), (7, vI vt7_6)] [bx [1] (encSCost a0)]) (aC (show (0 ≤ vt7_6 ∧ vt7_6 < ((5 : Nat) : Int)) ∧ (vt7_6).toNat * 1 + 1 ≤ (eA5 (eI .i64) a0.Color).length ∧ toV false ((vt7_6).toNat * 1) 1 (eA5 (eI .i64) a0.Color) = vI e9 from ⟨idx_b he9, arr_ld (e := eI .i64) (N := 1) (l := a0.Color.l) (base := 0) (pre := []) (post := []) (by kernel_rfl) rfl he9 (lenI .i64) (o := 0) (by simp) (by decide) (by decide) (by kernel_rfl)⟩) <| aC (Eq.refl (vI e9)) <| aN) ?_
     obtain ⟨b10, hb10, hzB7⟩ := bS hzB7
     refine Rg [.a, .a, .a, .a, .a, (.v (vB b10))] (sl 35 [(1, vP [1] (0)), (6, vA (eA5 (eI .i64)) a0.Color), (7, vI vt7_6), (15, vB b10)] [bx [1] (encSCost a0)]) (aG ((decide (e9 < (0 : Int))) == false) <| aF (decide (e9 < (0 : Int))) <| aB hb10 <| aN) ?_
     refine iB hzB7 (fun b11 hzB7 => ?_) (fun b11 hzB7 => ?_)
     · refine Rg [.a] (sl 35 [(2, vB false)] []) (aN) ?_
       refine Holds.ret ?_
       refine blockQ.ret ?_
       refine Tr ?_
       have hoB7_ := hoB7 _ (sI hzB7).symm
       subst hoB7_
       replace h := sumL h
       refine Tr ?_
       refine blockQ.ret ?_
       refine Tr ?_
       exact bQ (vB false) (congrArg vB (sI h))
     · refine Holds.skip ?_
       refine blockQ.normal ?_
       refine Tn ?_
       refine Re [.a, .a] (sl 35 [(1, vP [1] (0)), (6, vA (eA5 (eI .i64)) a0.Color), (7, vI (wrap64 (vt7_6 + (1 : Int)))), (15, vB b10), (16, vI (wrap64 (vt7_6 + (1 : Int))))] [bx [1] (encSCost a0)]) (aN) ?_
       refine Tn ⟨(wrap64 (vt7_6 + (1 : Int))), (sI hzB7).symm, wT⟩
   · refine Holds.exit ?_
     refine thenQ.exit ?_
     have hoB7_ := hoB7 _ (sI hzB7).symm
     subst hoB7_
     replace h := sumR h
     refine thenQ.exit ?_
     refine blockQ.out ?_
     refine Tn ⟨(), h, wT⟩
 · rintro _ hJ1
   replace hJ1 : mana_Is_J1 a0 = some r := hJ1
   unfold mana_Is_J1 at hJ1
   obtain ⟨b2, hb2, hJ1⟩ := bS hJ1
   obtain ⟨b3, hb3, hJ1⟩ := bS hJ1
   obtain ⟨b4, hb4, hJ1⟩ := bS hJ1
   refine Rg [.a, .a, .a, .a, .a, .a, .a, (.v (vB b2)), .a, .a, .a, .a, (.v (vB b3)), .a, .a, .a, .a, (.v (vB b4)), .a] (sl 35 [(2, vB b4)] []) (aG ((decide ((0 : Int) ≤ a0.Generic)) == true) <| aG ((decide ((0 : Int) ≤ a0.Generic)) == true) <| aT (decide ((0 : Int) ≤ a0.Generic)) <| aB hb2 <| aG (b2 == true) <| aG (b2 == true) <| aT b2 <| aB hb3 <| aG (b3 == true) <| aG (b3 == true) <| aT b3 <| aB hb4 <| aN) ?_
   refine Holds.ret ?_
   exact bQ (vB b4) (congrArg vB (sI hJ1))
def mana_Whole_J1  : Option (Bool) :=
 some true
def mana_Whole_B4 (a0 : A6 (Int)) (vt6_3 : Int) : Option ((Int) ⊕ (Unit ⊕ Unit)) :=
 (if (decide (vt6_3 < (6 : Int))) = true then
  (idx a0.l vt6_3).bind fun e6 =>
  (some (if (decide (e6 < (0 : Int))) = true then true else decide ((1000000 : Int) < e6))).bind fun b7 =>
  (if b7 = true then
   some (.inr (.inl ()))
  else
   some (.inl (wrap64 (vt6_3 + (1 : Int)))))
 else
  some (.inr (.inr ())))
/-- cardgame/mana.Whole -/
def mana_Whole (a0 : A6 (Int)) : Option (Bool) :=
 (iter (fun (v : Int) => mana_Whole_B4 a0 v) FU (0 : Int)).bind (Sum.elim (fun o0 => some false) (fun o1 => mana_Whole_J1))
def mana_Whole_C (a0 : A6 (Int)) (r : Bool) : Prop := PCall Tryd.prog I0 28 [vA (eA6 (eI .i64)) a0] (· = vB r)
theorem mana_Whole_ok {a0 : A6 (Int)} {r : Bool} (h : mana_Whole a0 = some r) : mana_Whole_C a0 r := by
 refine PCall.body I0_stable (by kernel_rfl) Tryd.func28 rfl Tryd.ntmps28 (rs := [.tmp 2]) rfl rfl ?_
 intro w0 av old gv
 unfold mana_Whole at h
 refine Rg [.a, .a] (sl 16 [(1, vP [1] (0))] [bx [1] (eA6 (eI .i64) a0)]) (aN) ?_
 refine Sj (X := Unit) (fun v => (sl 16 [] [])) (fun v => mana_Whole_J1 = some r) ?_ ?_
 · refine Rg [.a, .a] (sl 16 [(5, vA (eA6 (eI .i64)) a0), (6, vI (0 : Int))] []) (aN) ?_
   refine Holds.block ?_
   obtain ⟨oB4, hiB4, h⟩ := bS h
   refine It (fun (v : Int) => (sl 16 [(5, vA (eA6 (eI .i64)) a0), (6, vI v)] [])) hiB4 (wT) ?_
   rintro vt6_3 zB4 hzB4 hoB4
   replace hzB4 : mana_Whole_B4 a0 vt6_3 = some zB4 := hzB4
   unfold mana_Whole_B4 at hzB4
   refine Rg [.a] (sl 16 [(5, vA (eA6 (eI .i64)) a0), (6, vI vt6_3), (7, vB (decide (vt6_3 < (6 : Int))))] []) (aN) ?_
   refine Holds.seq ?_
   refine iB hzB4 (fun b5 hzB4 => ?_) (fun b5 hzB4 => ?_)
   · refine Holds.skip ?_
     refine Tn ?_
     refine Holds.seq ?_
     refine Holds.block ?_
     obtain ⟨e6, he6, hzB4⟩ := bS hzB4
     refine Rg [(.v (vI e6)), .a] (sl 16 [(4, vI e6), (5, vA (eA6 (eI .i64)) a0), (6, vI vt6_3)] []) (aC (show (0 ≤ vt6_3 ∧ vt6_3 < ((6 : Nat) : Int)) ∧ (vt6_3).toNat * 1 + 1 ≤ (eA6 (eI .i64) a0).length ∧ toV false ((vt6_3).toNat * 1) 1 (eA6 (eI .i64) a0) = vI e6 from ⟨idx_b he6, arr_ld (e := eI .i64) (N := 1) (l := a0.l) (base := 0) (pre := []) (post := []) (by kernel_rfl) rfl he6 (lenI .i64) (o := 0) (by simp) (by decide) (by decide) (by kernel_rfl)⟩) <| aC (Eq.refl (vI e6)) <| aN) ?_
     obtain ⟨b7, hb7, hzB4⟩ := bS hzB4
     refine Rg [.a, .a, .a, .a, .a, (.v (vB b7))] (sl 16 [(5, vA (eA6 (eI .i64)) a0), (6, vI vt6_3), (14, vB b7)] []) (aG ((decide (e6 < (0 : Int))) == false) <| aF (decide (e6 < (0 : Int))) <| aB hb7 <| aN) ?_
     refine iB hzB4 (fun b8 hzB4 => ?_) (fun b8 hzB4 => ?_)
     · refine Rg [.a] (sl 16 [(2, vB false)] []) (aN) ?_
       refine Holds.ret ?_
       refine blockQ.ret ?_
       refine Tr ?_
       have hoB4_ := hoB4 _ (sI hzB4).symm
       subst hoB4_
       replace h := sumL h
       refine Tr ?_
       refine blockQ.ret ?_
       refine Tr ?_
       exact bQ (vB false) (congrArg vB (sI h))
     · refine Holds.skip ?_
       refine blockQ.normal ?_
       refine Tn ?_
       refine Re [.a, .a] (sl 16 [(5, vA (eA6 (eI .i64)) a0), (6, vI (wrap64 (vt6_3 + (1 : Int)))), (14, vB b7), (15, vI (wrap64 (vt6_3 + (1 : Int))))] []) (aN) ?_
       refine Tn ⟨(wrap64 (vt6_3 + (1 : Int))), (sI hzB4).symm, wT⟩
   · refine Holds.exit ?_
     refine thenQ.exit ?_
     have hoB4_ := hoB4 _ (sI hzB4).symm
     subst hoB4_
     replace h := sumR h
     refine thenQ.exit ?_
     refine blockQ.out ?_
     refine Tn ⟨(), h, wT⟩
 · rintro _ hJ1
   replace hJ1 : mana_Whole_J1 = some r := hJ1
   unfold mana_Whole_J1 at hJ1
   refine Rg [.a] (sl 16 [(2, vB true)] []) (aN) ?_
   refine Holds.ret ?_
   exact bQ (vB true) (congrArg vB (sI hJ1))
/-- cardgame/num.Clamp -/
def num_Clamp (a0 : Int) : Option (Int) :=
 some (if (1000000 : Int) < (if a0 < (-1000000 : Int) then (-1000000 : Int) else a0) then (1000000 : Int) else (if a0 < (-1000000 : Int) then (-1000000 : Int) else a0))
def num_Clamp_C (a0 : Int) (r : Int) : Prop := PCall Tryd.prog I0 65 [vI a0] (· = vI r)
theorem num_Clamp_ok {a0 : Int} {r : Int} (h : num_Clamp a0 = some r) : num_Clamp_C a0 r := by
 refine PCall.body I0_stable (by kernel_rfl) Tryd.func65 rfl Tryd.ntmps65 (rs := [.tmp 2]) rfl rfl ?_
 intro w0 av old gv
 unfold num_Clamp at h
 refine Rg [.a] (sl 6 [(0, vI a0)] []) (aN) ?_
 refine Rg [.a, .a, .a, .a] (sl 6 [(2, vI (if (1000000 : Int) < (if a0 < (-1000000 : Int) then (-1000000 : Int) else a0) then (1000000 : Int) else (if a0 < (-1000000 : Int) then (-1000000 : Int) else a0)))] []) (aC (show (True ∧ (True ∧ True)) ∧ True from ⟨⟨trivial, ⟨trivial, trivial⟩⟩, trivial⟩) <| aC (show (True ∧ (True ∧ True)) ∧ True from ⟨⟨trivial, ⟨trivial, trivial⟩⟩, trivial⟩) <| aN) ?_
 refine Holds.ret ?_
 exact bQ (vI (if (1000000 : Int) < (if a0 < (-1000000 : Int) then (-1000000 : Int) else a0) then (1000000 : Int) else (if a0 < (-1000000 : Int) then (-1000000 : Int) else a0))) (congrArg vI (sI h))
/-- cardgame/num.Text -/
def num_Text (a0 : Int) : Option ((List UInt8)) :=
 (dItoa a0).bind fun r1 =>
 some r1
def num_Text_C (a0 : Int) (r : (List UInt8)) : Prop := PCall Tryd.prog I0 48 [vI a0] (· = vS r)
theorem num_Text_ok {a0 : Int} {r : (List UInt8)} (h : num_Text a0 = some r) : num_Text_C a0 r := by
 refine PCall.body I0_stable (by kernel_rfl) Tryd.func48 rfl Tryd.ntmps48 (rs := [.tmp 2]) rfl rfl ?_
 intro w0 av old gv
 unfold num_Text at h
 refine Rg [.a] (sl 5 [(0, vI a0)] []) (aN) ?_
 obtain ⟨r1, hr1, h⟩ := bS h
 refine Rg [.a, (.c (vS r1)), .a] (sl 5 [(2, vS r1)] []) (aC (okItoa hr1) <| aN) ?_
 refine Holds.ret ?_
 exact bQ (vS r1) (congrArg vS (sI h))
/-- cardgame/cardgameref01.Clamp -/
def r01_Clamp (a0 : Int) : Option (Int) :=
 (if (decide ((1000000 : Int) < a0)) = true then
  some (1000000 : Int)
 else
  (if (decide (a0 < (-1000000 : Int))) = true then
   some (-1000000 : Int)
  else
   some a0))
/-- cardgame/mana.cost -/
def mana_cost (a0 : A6 (Int)) : Option (SCost) :=
 (idx a0.l (0 : Int)).bind fun e1 =>
 some (⟨e1, (0 : Int), (⟨a0.x1, a0.x2, a0.x3, a0.x4, a0.x5⟩ : A5 (Int))⟩ : SCost)
def mana_cost_C (a0 : A6 (Int)) (r : SCost) : Prop := PCall Tryd.prog I0 51 [vA (eA6 (eI .i64)) a0] (· = vA encSCost r)
theorem mana_cost_ok {a0 : A6 (Int)} {r : SCost} (h : mana_cost a0 = some r) : mana_cost_C a0 r := by
 refine PCall.body I0_stable (by kernel_rfl) Tryd.func51 rfl Tryd.ntmps51 (rs := [.cell 2 34]) rfl rfl ?_
 intro w0 av old gv
 unfold mana_cost at h
 refine Rg [.a, .a] (sl 12 [(1, vP [1] (0)), (2, vP [2] (0))] [bx [2] [.int .i64 (0 : Int), .int .i64 (0 : Int), .int .i64 (((⟨(0 : Int), (0 : Int), (0 : Int), (0 : Int), (0 : Int)⟩ : A5 (Int))).x0), .int .i64 (((⟨(0 : Int), (0 : Int), (0 : Int), (0 : Int), (0 : Int)⟩ : A5 (Int))).x1), .int .i64 (((⟨(0 : Int), (0 : Int), (0 : Int), (0 : Int), (0 : Int)⟩ : A5 (Int))).x2), .int .i64 (((⟨(0 : Int), (0 : Int), (0 : Int), (0 : Int), (0 : Int)⟩ : A5 (Int))).x3), .int .i64 (((⟨(0 : Int), (0 : Int), (0 : Int), (0 : Int), (0 : Int)⟩ : A5 (Int))).x4)], bx [1] (eA6 (eI .i64) a0)]) (aN) ?_
 obtain ⟨e1, he1, h⟩ := bS h
 refine Rg [.a, (.v (vI e1)), .a, .a, .a] (sl 12 [(1, vP [1] (0)), (2, vP [2] (0)), (3, vP [3] (0))] [bx [3] [.int .i64 e1, .int .i64 (0 : Int), .int .i64 (((⟨(0 : Int), (0 : Int), (0 : Int), (0 : Int), (0 : Int)⟩ : A5 (Int))).x0), .int .i64 (((⟨(0 : Int), (0 : Int), (0 : Int), (0 : Int), (0 : Int)⟩ : A5 (Int))).x1), .int .i64 (((⟨(0 : Int), (0 : Int), (0 : Int), (0 : Int), (0 : Int)⟩ : A5 (Int))).x2), .int .i64 (((⟨(0 : Int), (0 : Int), (0 : Int), (0 : Int), (0 : Int)⟩ : A5 (Int))).x3), .int .i64 (((⟨(0 : Int), (0 : Int), (0 : Int), (0 : Int), (0 : Int)⟩ : A5 (Int))).x4)], bx [2] [.int .i64 (0 : Int), .int .i64 (0 : Int), .int .i64 (((⟨(0 : Int), (0 : Int), (0 : Int), (0 : Int), (0 : Int)⟩ : A5 (Int))).x0), .int .i64 (((⟨(0 : Int), (0 : Int), (0 : Int), (0 : Int), (0 : Int)⟩ : A5 (Int))).x1), .int .i64 (((⟨(0 : Int), (0 : Int), (0 : Int), (0 : Int), (0 : Int)⟩ : A5 (Int))).x2), .int .i64 (((⟨(0 : Int), (0 : Int), (0 : Int), (0 : Int), (0 : Int)⟩ : A5 (Int))).x3), .int .i64 (((⟨(0 : Int), (0 : Int), (0 : Int), (0 : Int), (0 : Int)⟩ : A5 (Int))).x4)], bx [1] (eA6 (eI .i64) a0)]) (aC (idx_b he1) <| aC (ald he1 (lenI .i64) (eA6 (eI .i64) a0) 0 6 0 1 false (vI e1)) <| aC (Eq.refl (vI e1)) <| aC (And.intro (show True ∧ True from ⟨trivial, trivial⟩) okp34) <| aN) ?_
 refine Holds.seq ?_
 refine Holds.regN [0, 1, 4, 5, 7, 15, 3] 15 [.a, .a, .a, (.e 0 [.int .i64 e1, .int .i64 (0 : Int), .int .i64 (((⟨a0.x1, a0.x2, a0.x3, a0.x4, a0.x5⟩ : A5 (Int))).x0), .int .i64 (((⟨a0.x1, a0.x2, a0.x3, a0.x4, a0.x5⟩ : A5 (Int))).x1), .int .i64 (((⟨a0.x1, a0.x2, a0.x3, a0.x4, a0.x5⟩ : A5 (Int))).x2), .int .i64 (((⟨a0.x1, a0.x2, a0.x3, a0.x4, a0.x5⟩ : A5 (Int))).x3), .int .i64 (((⟨a0.x1, a0.x2, a0.x3, a0.x4, a0.x5⟩ : A5 (Int))).x4)])] [[3], [2], [1]] (fun n => ⟨[.undef, vP [1] (0), vP [2] (0), vP [3] (0), .undef, .undef, .undef, cond (Nat.testBit n 0) (vP [3] (2)) (.undef), cond (Nat.testBit n 1) (.c (.bsl [3] 2 5)) (.undef), cond (Nat.testBit n 2) (.c (.bsl [1] 1 5)) (.undef), cond (Nat.testBit n 3) (vI (5 : Int)) (.undef), .undef], List.filterMap id [cond (Nat.testBit n 3) (some (bx [3] [.int .i64 e1, .int .i64 (0 : Int), .int .i64 (((⟨a0.x1, a0.x2, a0.x3, a0.x4, a0.x5⟩ : A5 (Int))).x0), .int .i64 (((⟨a0.x1, a0.x2, a0.x3, a0.x4, a0.x5⟩ : A5 (Int))).x1), .int .i64 (((⟨a0.x1, a0.x2, a0.x3, a0.x4, a0.x5⟩ : A5 (Int))).x2), .int .i64 (((⟨a0.x1, a0.x2, a0.x3, a0.x4, a0.x5⟩ : A5 (Int))).x3), .int .i64 (((⟨a0.x1, a0.x2, a0.x3, a0.x4, a0.x5⟩ : A5 (Int))).x4)])) (some (bx [3] [.int .i64 e1, .int .i64 (0 : Int), .int .i64 (((⟨(0 : Int), (0 : Int), (0 : Int), (0 : Int), (0 : Int)⟩ : A5 (Int))).x0), .int .i64 (((⟨(0 : Int), (0 : Int), (0 : Int), (0 : Int), (0 : Int)⟩ : A5 (Int))).x1), .int .i64 (((⟨(0 : Int), (0 : Int), (0 : Int), (0 : Int), (0 : Int)⟩ : A5 (Int))).x2), .int .i64 (((⟨(0 : Int), (0 : Int), (0 : Int), (0 : Int), (0 : Int)⟩ : A5 (Int))).x3), .int .i64 (((⟨(0 : Int), (0 : Int), (0 : Int), (0 : Int), (0 : Int)⟩ : A5 (Int))).x4)])), some (bx [2] [.int .i64 (0 : Int), .int .i64 (0 : Int), .int .i64 (((⟨(0 : Int), (0 : Int), (0 : Int), (0 : Int), (0 : Int)⟩ : A5 (Int))).x0), .int .i64 (((⟨(0 : Int), (0 : Int), (0 : Int), (0 : Int), (0 : Int)⟩ : A5 (Int))).x1), .int .i64 (((⟨(0 : Int), (0 : Int), (0 : Int), (0 : Int), (0 : Int)⟩ : A5 (Int))).x2), .int .i64 (((⟨(0 : Int), (0 : Int), (0 : Int), (0 : Int), (0 : Int)⟩ : A5 (Int))).x3), .int .i64 (((⟨(0 : Int), (0 : Int), (0 : Int), (0 : Int), (0 : Int)⟩ : A5 (Int))).x4)]), some (bx [1] (eA6 (eI .i64) a0))], [], []⟩) [[], [0 ≤ (0 : Int) ∧ (0 : Int) < ((5 : Nat) : Int) ∧ (0 : Int) ≤ ((5 : Nat) : Int) ∧ ((5 : Nat) : Int) ≤ ((5 : Nat) : Int)], [0 ≤ (1 : Int) ∧ (1 : Int) < ((6 : Nat) : Int) ∧ (1 : Int) ≤ ((6 : Nat) : Int) ∧ ((6 : Nat) : Int) ≤ ((6 : Nat) : Int)], [[.int .i64 e1, .int .i64 (0 : Int), .int .i64 (((⟨(0 : Int), (0 : Int), (0 : Int), (0 : Int), (0 : Int)⟩ : A5 (Int))).x0), .int .i64 (((⟨(0 : Int), (0 : Int), (0 : Int), (0 : Int), (0 : Int)⟩ : A5 (Int))).x1), .int .i64 (((⟨(0 : Int), (0 : Int), (0 : Int), (0 : Int), (0 : Int)⟩ : A5 (Int))).x2), .int .i64 (((⟨(0 : Int), (0 : Int), (0 : Int), (0 : Int), (0 : Int)⟩ : A5 (Int))).x3), .int .i64 (((⟨(0 : Int), (0 : Int), (0 : Int), (0 : Int), (0 : Int)⟩ : A5 (Int))).x4)].take 2 ++ ((eA6 (eI .i64) a0).drop 1).take 5 ++ [.int .i64 e1, .int .i64 (0 : Int), .int .i64 (((⟨(0 : Int), (0 : Int), (0 : Int), (0 : Int), (0 : Int)⟩ : A5 (Int))).x0), .int .i64 (((⟨(0 : Int), (0 : Int), (0 : Int), (0 : Int), (0 : Int)⟩ : A5 (Int))).x1), .int .i64 (((⟨(0 : Int), (0 : Int), (0 : Int), (0 : Int), (0 : Int)⟩ : A5 (Int))).x2), .int .i64 (((⟨(0 : Int), (0 : Int), (0 : Int), (0 : Int), (0 : Int)⟩ : A5 (Int))).x3), .int .i64 (((⟨(0 : Int), (0 : Int), (0 : Int), (0 : Int), (0 : Int)⟩ : A5 (Int))).x4)].drop (2 + (((eA6 (eI .i64) a0).drop 1).take 5).length) = [.int .i64 e1, .int .i64 (0 : Int), .int .i64 (((⟨a0.x1, a0.x2, a0.x3, a0.x4, a0.x5⟩ : A5 (Int))).x0), .int .i64 (((⟨a0.x1, a0.x2, a0.x3, a0.x4, a0.x5⟩ : A5 (Int))).x1), .int .i64 (((⟨a0.x1, a0.x2, a0.x3, a0.x4, a0.x5⟩ : A5 (Int))).x2), .int .i64 (((⟨a0.x1, a0.x2, a0.x3, a0.x4, a0.x5⟩ : A5 (Int))).x3), .int .i64 (((⟨a0.x1, a0.x2, a0.x3, a0.x4, a0.x5⟩ : A5 (Int))).x4)], ((none : Option (TypeId × Nat × Nat)) = none) ∧ True]] followsP (by kernel_rfl) (by kernel_rfl) (by decide) (Less.t (by kernel_rfl)) (by kernel_rfl) ⟨trivial, ⟨(by decide), trivial⟩, ⟨(by decide), trivial⟩, ⟨(by kernel_rfl), ⟨rfl, trivial⟩, trivial⟩, trivial⟩ ?_
 refine Tn ?_
 refine Ls (sl 12 [(2, vP [2] (0)), (3, vP [3] (0))] [bx [3] [.int .i64 e1, .int .i64 (0 : Int), .int .i64 (((⟨a0.x1, a0.x2, a0.x3, a0.x4, a0.x5⟩ : A5 (Int))).x0), .int .i64 (((⟨a0.x1, a0.x2, a0.x3, a0.x4, a0.x5⟩ : A5 (Int))).x1), .int .i64 (((⟨a0.x1, a0.x2, a0.x3, a0.x4, a0.x5⟩ : A5 (Int))).x2), .int .i64 (((⟨a0.x1, a0.x2, a0.x3, a0.x4, a0.x5⟩ : A5 (Int))).x3), .int .i64 (((⟨a0.x1, a0.x2, a0.x3, a0.x4, a0.x5⟩ : A5 (Int))).x4)], bx [2] [.int .i64 (0 : Int), .int .i64 (0 : Int), .int .i64 (((⟨(0 : Int), (0 : Int), (0 : Int), (0 : Int), (0 : Int)⟩ : A5 (Int))).x0), .int .i64 (((⟨(0 : Int), (0 : Int), (0 : Int), (0 : Int), (0 : Int)⟩ : A5 (Int))).x1), .int .i64 (((⟨(0 : Int), (0 : Int), (0 : Int), (0 : Int), (0 : Int)⟩ : A5 (Int))).x2), .int .i64 (((⟨(0 : Int), (0 : Int), (0 : Int), (0 : Int), (0 : Int)⟩ : A5 (Int))).x3), .int .i64 (((⟨(0 : Int), (0 : Int), (0 : Int), (0 : Int), (0 : Int)⟩ : A5 (Int))).x4)]]) ?_
 refine Rg [.a, .a] (sl 12 [(2, vP [2] (0))] [bx [2] [.int .i64 e1, .int .i64 (0 : Int), .int .i64 (((⟨a0.x1, a0.x2, a0.x3, a0.x4, a0.x5⟩ : A5 (Int))).x0), .int .i64 (((⟨a0.x1, a0.x2, a0.x3, a0.x4, a0.x5⟩ : A5 (Int))).x1), .int .i64 (((⟨a0.x1, a0.x2, a0.x3, a0.x4, a0.x5⟩ : A5 (Int))).x2), .int .i64 (((⟨a0.x1, a0.x2, a0.x3, a0.x4, a0.x5⟩ : A5 (Int))).x3), .int .i64 (((⟨a0.x1, a0.x2, a0.x3, a0.x4, a0.x5⟩ : A5 (Int))).x4)]]) (aN) ?_
 refine Holds.ret ?_
 exact bE (.agg [.int .i64 e1, .int .i64 (0 : Int), .int .i64 (((⟨a0.x1, a0.x2, a0.x3, a0.x4, a0.x5⟩ : A5 (Int))).x0), .int .i64 (((⟨a0.x1, a0.x2, a0.x3, a0.x4, a0.x5⟩ : A5 (Int))).x1), .int .i64 (((⟨a0.x1, a0.x2, a0.x3, a0.x4, a0.x5⟩ : A5 (Int))).x2), .int .i64 (((⟨a0.x1, a0.x2, a0.x3, a0.x4, a0.x5⟩ : A5 (Int))).x3), .int .i64 (((⟨a0.x1, a0.x2, a0.x3, a0.x4, a0.x5⟩ : A5 (Int))).x4)]) (.agg (encSCost (⟨e1, (0 : Int), (⟨a0.x1, a0.x2, a0.x3, a0.x4, a0.x5⟩ : A5 (Int))⟩ : SCost))) (congrArg (vA encSCost) (sI h))
end Go.PL
