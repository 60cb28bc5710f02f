/- Functions of the program, as partial functions in Lean, with proofs. -/
import Derived.Test.YtieikooalmfmfaaDoorPlMaB
import Derived.Test.YtieikooalmfmfaaDoorPlMaF0
import Derived.Test.YtieikooalmfmfaaDoorPlMaF1
namespace Go.PL
open Go Go.RowKit Go.Proofs
set_option maxRecDepth 100000
set_option linter.all false
set_option maxHeartbeats 1000000
attribute [local irreducible] Holds thenQ blockQ
def num_Number (a0 : List UInt8) : Option (Int × Bool) := match dAtoiV a0 with
  | some _ => num_NumberV a0
  | none => num_NumberB a0
def num_Number_C (a0 : List UInt8) (r : Int × Bool) : Prop := PCall Tryd.prog I0 55 [vS a0] (· = .tup [vI r.1, vB r.2])
theorem num_Number_ok {a0 : List UInt8} {r : Int × Bool} (h : num_Number a0 = some r) : num_Number_C a0 r := by
  unfold num_Number at h
  split at h
  · exact num_NumberV_ok h
  · exact num_NumberB_ok h

def mana_Value_J4 (a0 : SCost) (a1 : Int) (v_t5_3 : Int) : Option (Int) :=
 (num_Mul a0.X (if (0 : Int) < a1 then a1 else (0 : Int))).bind fun r5 =>
 (num_Add v_t5_3 r5).bind fun r6 =>
 some r6
def mana_Value_B12 (a0 : SCost) (v_t5_9 : Int) (vt15_10 : Int) : Option ((Int × Int) ⊕ (Int)) :=
 (if (decide (vt15_10 < (5 : Int))) = true then
  (idx a0.Color.l vt15_10).bind fun e14 =>
  some (.inl ((wrap64 (v_t5_9 + e14)), (wrap64 (vt15_10 + (1 : Int)))))
 else
  some (.inr v_t5_9))
/-- cardgame/mana.Value -/
def mana_Value (a0 : SCost) (a1 : Int) : Option (Int) :=
 (mana_Is a0).bind fun r1 =>
 (if (!r1) = true then
  some (0 : Int)
 else
  (iter (fun (v : Int × Int) => mana_Value_B12 a0 v.1 v.2) FU (a0.Generic, (0 : Int))).bind (fun o0 => mana_Value_J4 a0 a1 o0))
def mana_Value_C (a0 : SCost) (a1 : Int) (r : Int) : Prop := PCall Tryd.prog I0 18 [vA encSCost a0, vI a1] (· = vI r)
theorem mana_Value_ok {a0 : SCost} {a1 : Int} {r : Int} (h : mana_Value a0 a1 = some r) : mana_Value_C a0 a1 r := by
 refine PCall.body I0_stable (by kernel_rfl) Tryd.func18 rfl Tryd.ntmps18 (rs := [.tmp 4]) rfl rfl ?_
 intro w0 av old gv
 unfold mana_Value at h
 refine Rg [.a, .a] (sl 29 [(1, vI a1), (2, vP [2] (0))] [bx [2] (encSCost a0)]) (aN) ?_
 refine Holds.seq ?_
 obtain ⟨r1, hr1, h⟩ := bS h
 refine Rg [.a, (.c (vB r1)), .a] (sl 29 [(1, vI a1), (2, vP [2] (0)), (10, vB (!r1))] [bx [2] (encSCost a0)]) (aC (mana_Is_ok hr1) <| aN) ?_
 refine iB h (fun b2 h => ?_) (fun b2 h => ?_)
 · refine Rg [.a] (sl 29 [(4, vI (0 : Int))] []) (aN) ?_
   refine Holds.ret ?_
   refine Tr ?_
   exact bQ (vI (0 : Int)) (congrArg vI (sI h))
 · refine Holds.skip ?_
   refine Tn ?_
   refine Rg [.a, .a, .a] (sl 29 [(1, vI a1), (2, vP [2] (0)), (5, vI a0.Generic)] [bx [2] (encSCost a0)]) (aN) ?_
   refine Sj (X := Int) (fun v => (sl 29 [(1, vI a1), (2, vP [2] (0)), (5, vI v)] [bx [2] (encSCost a0)])) (fun v => mana_Value_J4 a0 a1 v = some r) ?_ ?_
   · refine Rg [.a, .a, .a] (sl 29 [(1, vI a1), (2, vP [2] (0)), (5, vI a0.Generic), (14, vA (eA5 (eI .i64)) a0.Color), (15, vI (0 : Int))] [bx [2] (encSCost a0)]) (aN) ?_
     refine Holds.block ?_
     obtain ⟨oB12, hiB12, h⟩ := bS h
     refine It (fun (v : Int × Int) => (sl 29 [(1, vI a1), (2, vP [2] (0)), (5, vI v.1), (14, vA (eA5 (eI .i64)) a0.Color), (15, vI v.2)] [bx [2] (encSCost a0)])) hiB12 (wT) ?_
     rintro ⟨v_t5_9, vt15_10⟩ zB12 hzB12 hoB12
     replace hzB12 : mana_Value_B12 a0 v_t5_9 vt15_10 = some zB12 := hzB12
     unfold mana_Value_B12 at hzB12
     refine Rg [.a] (sl 29 [(1, vI a1), (2, vP [2] (0)), (5, vI v_t5_9), (14, vA (eA5 (eI .i64)) a0.Color), (15, vI vt15_10), (16, vB (decide (vt15_10 < (5 : Int))))] [bx [2] (encSCost a0)]) (aN) ?_
     refine Holds.seq ?_
     refine iB hzB12 (fun b13 hzB12 => ?_) (fun b13 hzB12 => ?_)
     · refine Holds.skip ?_
       refine Tn ?_
       refine Holds.seq ?_
       refine Holds.block ?_
       obtain ⟨e14, he14, hzB12⟩ := bS hzB12
       refine Rg [(.v (vI e14)), .a] (sl 29 [(1, vI a1), (2, vP [2] (0)), (5, vI v_t5_9), (7, vI e14), (14, vA (eA5 (eI .i64)) a0.Color), (15, vI vt15_10)] [bx [2] (encSCost a0)]) (aC (show (0 ≤ vt15_10 ∧ vt15_10 < ((5 : Nat) : Int)) ∧ (vt15_10).toNat * 1 + 1 ≤ (eA5 (eI .i64) a0.Color).length ∧ toV false ((vt15_10).toNat * 1) 1 (eA5 (eI .i64) a0.Color) = vI e14 from ⟨idx_b he14, arr_ld (e := eI .i64) (N := 1) (l := a0.Color.l) (base := 0) (pre := []) (post := []) (by kernel_rfl) rfl he14 (lenI .i64) (o := 0) (by simp) (by decide) (by decide) (by kernel_rfl)⟩) <| aC (Eq.refl (vI e14)) <| aN) ?_
       refine Re [.a, .a, .a, .a] (sl 29 [(1, vI a1), (2, vP [2] (0)), (5, vI (wrap64 (v_t5_9 + e14))), (7, vI e14), (14, vA (eA5 (eI .i64)) a0.Color), (15, vI vt15_10), (18, vI v_t5_9), (19, vI e14), (20, vI (wrap64 (v_t5_9 + e14)))] [bx [2] (encSCost a0)]) (aN) ?_
       refine blockQ.normal ?_
       refine Tn ?_
       refine Re [.a, .a] (sl 29 [(1, vI a1), (2, vP [2] (0)), (5, vI (wrap64 (v_t5_9 + e14))), (7, vI e14), (14, vA (eA5 (eI .i64)) a0.Color), (15, vI (wrap64 (vt15_10 + (1 : Int)))), (18, vI v_t5_9), (19, vI e14), (20, vI (wrap64 (v_t5_9 + e14))), (21, vI (wrap64 (vt15_10 + (1 : Int))))] [bx [2] (encSCost a0)]) (aN) ?_
       refine Tn ⟨((wrap64 (v_t5_9 + e14)), (wrap64 (vt15_10 + (1 : Int)))), (sI hzB12).symm, wT⟩
     · refine Holds.exit ?_
       refine thenQ.exit ?_
       have hoB12_ := hoB12 _ (sI hzB12).symm
       subst hoB12_
       refine thenQ.exit ?_
       refine blockQ.out ?_
       refine Tn ⟨v_t5_9, h, wT⟩
   · rintro v_t5_3 hJ4
     replace hJ4 : mana_Value_J4 a0 a1 v_t5_3 = some r := hJ4
     unfold mana_Value_J4 at hJ4
     obtain ⟨r5, hr5, hJ4⟩ := bS hJ4
     obtain ⟨r6, hr6, hJ4⟩ := bS hJ4
     refine Rg [.a, .a, .a, .a, .a, (.c (vI r5)), (.c (vI r6)), .a] (sl 29 [(4, vI r6)] []) (aC (show (True ∧ (True ∧ True)) ∧ True from ⟨⟨trivial, ⟨trivial, trivial⟩⟩, trivial⟩) <| aC (num_Mul_ok hr5) <| aC (num_Add_ok hr6) <| aN) ?_
     refine Holds.ret ?_
     exact bQ (vI r6) (congrArg vI (sI hJ4))
/-- cardgame/mana.PoolText -/
def mana_PoolText (a0 : A6 (Int)) : Option ((List UInt8)) :=
 (mana_cost a0).bind fun r1 =>
 (mana_Text r1).bind fun r2 =>
 some r2
def mana_PoolText_C (a0 : A6 (Int)) (r : (List UInt8)) : Prop := PCall Tryd.prog I0 30 [vA (eA6 (eI .i64)) a0] (· = vS r)
theorem mana_PoolText_ok {a0 : A6 (Int)} {r : (List UInt8)} (h : mana_PoolText a0 = some r) : mana_PoolText_C a0 r := by
 refine PCall.body I0_stable (by kernel_rfl) Tryd.func30 rfl Tryd.ntmps30 (rs := [.tmp 2]) rfl rfl ?_
 intro w0 av old gv
 unfold mana_PoolText at h
 refine Rg [.a, .a] (sl 6 [(1, vP [1] (0))] [bx [1] (eA6 (eI .i64) a0)]) (aN) ?_
 obtain ⟨r1, hr1, h⟩ := bS h
 obtain ⟨r2, hr2, h⟩ := bS h
 refine Rg [.a, (.c (vA encSCost r1)), (.c (vS r2)), .a] (sl 6 [(2, vS r2)] []) (aC (mana_cost_ok hr1) <| aC (mana_Text_ok hr2) <| aN) ?_
 refine Holds.ret ?_
 exact bQ (vS r2) (congrArg vS (sI h))
end Go.PL
