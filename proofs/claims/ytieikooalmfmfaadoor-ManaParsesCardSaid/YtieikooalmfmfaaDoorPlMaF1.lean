/- Functions of the program, as partial functions in Lean, with proofs. -/
import Derived.Test.YtieikooalmfmfaaDoorPlMaB
import Derived.Test.YtieikooalmfmfaaDoorPlMaF0
namespace Go.PL
open Go Go.RowKit Go.Proofs
set_option maxRecDepth 100000
set_option linter.all false
set_option maxHeartbeats 1000000
attribute [local irreducible] Holds thenQ blockQ
def mana_Pay_J13  (vt8_11 : Int) (b9_12 : A6 (Int)) : Option ((A6 (Int)) × Int) :=
 (if (decide ((0 : Int) < vt8_11)) = true then
  some ((⟨(0 : Int), (0 : Int), (0 : Int), (0 : Int), (0 : Int), (0 : Int)⟩ : A6 (Int)), (12 : Int))
 else
  some (b9_12, (0 : Int)))
def mana_Pay_B23  (vt8_18 : Int) (vt68_19 : Int) (b9_20 : A6 (Int)) : Option ((Int × Int × (A6 (Int))) ⊕ ((Int × (A6 (Int))))) :=
 (if (decide (vt68_19 < (6 : Int))) = true then
  (idx b9_20.l vt68_19).bind fun e25 =>
  (idx b9_20.l vt68_19).bind fun e26 =>
  (idx b9_20.l vt68_19).bind fun e27 =>
  some (.inl ((wrap64 (vt8_18 - (if e25 < vt8_18 then e25 else vt8_18))), (wrap64 (vt68_19 + (1 : Int))), (b9_20.set (vt68_19).toNat (wrap64 (e26 - (if e25 < vt8_18 then e25 else vt8_18))))))
 else
  some (.inr (vt8_18, b9_20)))
def mana_Pay_J10 (a1 : SCost) (a2 : Int) (b9_9 : A6 (Int)) : Option ((A6 (Int)) × Int) :=
 (iter (fun (v : Int × Int × (A6 (Int))) => mana_Pay_B23 v.1 v.2.1 v.2.2) FU ((wrap64 (a1.Generic + (wrap64 (a1.X * a2)))), (0 : Int), b9_9)).bind (fun o0 => mana_Pay_J13 o0.1 o0.2)
def mana_Pay_B33 (a1 : SCost) (vt50_30 : Int) (b9_31 : A6 (Int)) : Option ((Int × (A6 (Int))) ⊕ (Unit ⊕ (A6 (Int)))) :=
 (if (decide (vt50_30 < (5 : Int))) = true then
  (idx a1.Color.l vt50_30).bind fun e35 =>
  (idx b9_31.l (wrap64 (vt50_30 + (1 : Int)))).bind fun e36 =>
  (idx b9_31.l (wrap64 (vt50_30 + (1 : Int)))).bind fun e37 =>
  (idx (b9_31.set (wrap64 (vt50_30 + (1 : Int))).toNat (wrap64 (e36 - e35))).l (wrap64 (vt50_30 + (1 : Int)))).bind fun e38 =>
  (if (decide (e38 < (0 : Int))) = true then
   some (.inr (.inl ()))
  else
   some (.inl ((wrap64 (vt50_30 + (1 : Int))), (b9_31.set (wrap64 (vt50_30 + (1 : Int))).toNat (wrap64 (e36 - e35))))))
 else
  some (.inr (.inr b9_31)))
/-- cardgame/mana.Pay -/
def mana_Pay (a0 : A6 (Int)) (a1 : SCost) (a2 : Int) : Option ((A6 (Int)) × Int) :=
 (mana_Is a1).bind fun r1 =>
 (gd ((!r1) == false) (mana_Whole a0)).bind fun r2 =>
 (some (if (!r1) = true then true else !r2)).bind fun b3 =>
 (some (if b3 = true then true else decide (a2 < (0 : Int)))).bind fun b4 =>
 (some (if b4 = true then true else decide ((1000000 : Int) < a2))).bind fun b5 =>
 (if b5 = true then
  some ((⟨(0 : Int), (0 : Int), (0 : Int), (0 : Int), (0 : Int), (0 : Int)⟩ : A6 (Int)), (1 : Int))
 else
  (some (if (a0 == (⟨(0 : Int), (0 : Int), (0 : Int), (0 : Int), (0 : Int), (0 : Int)⟩ : A6 (Int))) = true then a1 == (⟨(0 : Int), (0 : Int), (⟨(0 : Int), (0 : Int), (0 : Int), (0 : Int), (0 : Int)⟩ : A5 (Int))⟩ : SCost) else false)).bind fun b7 =>
  (if b7 = true then
   some (a0, (0 : Int))
  else
   (iter (fun (v : Int × (A6 (Int))) => mana_Pay_B33 a1 v.1 v.2) FU ((0 : Int), a0)).bind (Sum.elim (fun o0 => some ((⟨(0 : Int), (0 : Int), (0 : Int), (0 : Int), (0 : Int), (0 : Int)⟩ : A6 (Int)), (12 : Int))) (fun o1 => mana_Pay_J10 a1 a2 o1))))
def mana_Pay_C (a0 : A6 (Int)) (a1 : SCost) (a2 : Int) (r : (A6 (Int)) × Int) : Prop := PCall Tryd.prog I0 16 [vA (eA6 (eI .i64)) a0, vA encSCost a1, vI a2] (· = .tup [vA (eA6 (eI .i64)) r.1, vI r.2])
theorem mana_Pay_ok {a0 : A6 (Int)} {a1 : SCost} {a2 : Int} {r : (A6 (Int)) × Int} (h : mana_Pay a0 a1 a2 = some r) : mana_Pay_C a0 a1 a2 r := by
 refine PCall.body I0_stable (by kernel_rfl) Tryd.func16 rfl Tryd.ntmps16 (rs := [.cell 6 31, .tmp 7]) rfl rfl ?_
 intro w0 av old gv
 unfold mana_Pay at h
 refine Rg [.a, .a, .a, .a] (sl 90 [(2, vI a2), (3, vP [3] (0)), (4, vP [4] (0)), (6, vP [6] (0))] [bx [6] (eA6 (eI .i64) (⟨(0 : Int), (0 : Int), (0 : Int), (0 : Int), (0 : Int), (0 : Int)⟩ : A6 (Int))), bx [4] (encSCost a1), bx [3] (eA6 (eI .i64) a0)]) (aN) ?_
 refine Holds.seq ?_
 obtain ⟨r1, hr1, h⟩ := bS h
 obtain ⟨r2, hr2, h⟩ := bS h
 obtain ⟨b3, hb3, h⟩ := bS h
 obtain ⟨b4, hb4, h⟩ := bS h
 obtain ⟨b5, hb5, h⟩ := bS h
 refine Rg [.a, (.c (vB r1)), .a, .a, .a, (.c (vB r2)), .a, (.v (vB b3)), .a, .a, .a, (.v (vB b4)), .a, .a, .a, (.v (vB b5))] (sl 90 [(2, vI a2), (3, vP [3] (0)), (4, vP [4] (0)), (6, vP [6] (0)), (29, vB b5)] [bx [6] (eA6 (eI .i64) (⟨(0 : Int), (0 : Int), (0 : Int), (0 : Int), (0 : Int), (0 : Int)⟩ : A6 (Int))), bx [4] (encSCost a1), bx [3] (eA6 (eI .i64) a0)]) (aC (mana_Is_ok hr1) <| aC (c1 hr2 mana_Whole_ok) <| aG ((!r1) == false) <| aF (!r1) <| aB hb3 <| aG (b3 == false) <| aF b3 <| aB hb4 <| aG (b4 == false) <| aF b4 <| aB hb5 <| aN) ?_
 refine iB h (fun b6 h => ?_) (fun b6 h => ?_)
 · refine Rg [.a, .a, .a] (sl 90 [(6, vP [6] (0)), (7, vI (1 : Int))] [bx [6] (eA6 (eI .i64) (⟨(0 : Int), (0 : Int), (0 : Int), (0 : Int), (0 : Int), (0 : Int)⟩ : A6 (Int)))]) (aC (And.intro trivial okp31) <| aN) ?_
   refine Holds.ret ?_
   refine Tr ?_
   exact bE (.tup [vA (eA6 (eI .i64)) (⟨(0 : Int), (0 : Int), (0 : Int), (0 : Int), (0 : Int), (0 : Int)⟩ : A6 (Int)), vI (1 : Int)]) (.tup [.agg (eA6 (eI .i64) (⟨(0 : Int), (0 : Int), (0 : Int), (0 : Int), (0 : Int), (0 : Int)⟩ : A6 (Int))), vI (1 : Int)]) (congrArg (fun (q : (A6 (Int)) × Int) => (.tup [vA (eA6 (eI .i64)) q.1, vI q.2] : V)) (sI h))
 · refine Holds.skip ?_
   refine Tn ?_
   refine Rg [.a, .a, .a, .a, .a, .a, .a, .a] (sl 90 [(3, vP [3] (0)), (4, vP [4] (0)), (6, vP [6] (0)), (8, vI (wrap64 (a1.Generic + (wrap64 (a1.X * a2)))))] [bx [6] (eA6 (eI .i64) (⟨(0 : Int), (0 : Int), (0 : Int), (0 : Int), (0 : Int), (0 : Int)⟩ : A6 (Int))), bx [4] (encSCost a1), bx [3] (eA6 (eI .i64) a0)]) (aN) ?_
   refine Holds.seq ?_
   obtain ⟨b7, hb7, h⟩ := bS h
   refine Rg [.a, .a, (.v (vB (a0 == (⟨(0 : Int), (0 : Int), (0 : Int), (0 : Int), (0 : Int), (0 : Int)⟩ : A6 (Int))))), .a, .a, .a, (.v (vB (a1 == (⟨(0 : Int), (0 : Int), (⟨(0 : Int), (0 : Int), (0 : Int), (0 : Int), (0 : Int)⟩ : A5 (Int))⟩ : SCost)))), (.v (vB b7))] (sl 90 [(3, vP [3] (0)), (4, vP [4] (0)), (6, vP [6] (0)), (8, vI (wrap64 (a1.Generic + (wrap64 (a1.X * a2))))), (45, vB b7)] [bx [6] (eA6 (eI .i64) (⟨(0 : Int), (0 : Int), (0 : Int), (0 : Int), (0 : Int), (0 : Int)⟩ : A6 (Int))), bx [4] (encSCost a1), bx [3] (eA6 (eI .i64) a0)]) (aC (And.intro trivial okp31) <| aC (congrArg (fun z => V.c (.bool (z))) (eqT31 a0 (⟨(0 : Int), (0 : Int), (0 : Int), (0 : Int), (0 : Int), (0 : Int)⟩ : A6 (Int)))) <| aC (fun hg : ((a0 == (⟨(0 : Int), (0 : Int), (0 : Int), (0 : Int), (0 : Int), (0 : Int)⟩ : A6 (Int))) == true) = true => aC (And.intro trivial okp34) <| aN) <| aC (fun hg : ((a0 == (⟨(0 : Int), (0 : Int), (0 : Int), (0 : Int), (0 : Int), (0 : Int)⟩ : A6 (Int))) == true) = true => aC (gi ((a0 == (⟨(0 : Int), (0 : Int), (0 : Int), (0 : Int), (0 : Int), (0 : Int)⟩ : A6 (Int))) == true)) <| aC (gi ((a0 == (⟨(0 : Int), (0 : Int), (0 : Int), (0 : Int), (0 : Int), (0 : Int)⟩ : A6 (Int))) == true)) <| aC (congrArg (fun z => V.c (.bool (z))) (eqT34 a1 (⟨(0 : Int), (0 : Int), (⟨(0 : Int), (0 : Int), (0 : Int), (0 : Int), (0 : Int)⟩ : A5 (Int))⟩ : SCost))) <| aN) <| aT (a0 == (⟨(0 : Int), (0 : Int), (0 : Int), (0 : Int), (0 : Int), (0 : Int)⟩ : A6 (Int))) <| aB hb7 <| aN) ?_
   refine iB h (fun b8 h => ?_) (fun b8 h => ?_)
   · refine Rg [.a, .a, .a] (sl 90 [(6, vP [6] (0)), (7, vI (0 : Int))] [bx [6] (eA6 (eI .i64) a0)]) (aN) ?_
     refine Holds.ret ?_
     refine Tr ?_
     exact bE (.tup [vA (eA6 (eI .i64)) a0, vI (0 : Int)]) (.tup [.agg (eA6 (eI .i64) a0), vI (0 : Int)]) (congrArg (fun (q : (A6 (Int)) × Int) => (.tup [vA (eA6 (eI .i64)) q.1, vI q.2] : V)) (sI h))
   · refine Holds.skip ?_
     refine Tn ?_
     refine Rg [.a, .a, .a] (sl 90 [(4, vP [4] (0)), (6, vP [6] (0)), (8, vI (wrap64 (a1.Generic + (wrap64 (a1.X * a2))))), (9, vP [9] (0))] [bx [9] (eA6 (eI .i64) a0), bx [6] (eA6 (eI .i64) (⟨(0 : Int), (0 : Int), (0 : Int), (0 : Int), (0 : Int), (0 : Int)⟩ : A6 (Int))), bx [4] (encSCost a1)]) (aN) ?_
     refine Sj (X := (A6 (Int))) (fun v => (sl 90 [(6, vP [6] (0)), (8, vI (wrap64 (a1.Generic + (wrap64 (a1.X * a2))))), (9, vP [9] (0))] [bx [9] (eA6 (eI .i64) v), bx [6] (eA6 (eI .i64) (⟨(0 : Int), (0 : Int), (0 : Int), (0 : Int), (0 : Int), (0 : Int)⟩ : A6 (Int)))])) (fun v => mana_Pay_J10 a1 a2 v = some r) ?_ ?_
     · refine Rg [.a, .a, .a] (sl 90 [(6, vP [6] (0)), (8, vI (wrap64 (a1.Generic + (wrap64 (a1.X * a2))))), (9, vP [9] (0)), (49, vA (eA5 (eI .i64)) a1.Color), (50, vI (0 : Int))] [bx [9] (eA6 (eI .i64) a0), bx [6] (eA6 (eI .i64) (⟨(0 : Int), (0 : Int), (0 : Int), (0 : Int), (0 : Int), (0 : Int)⟩ : A6 (Int)))]) (aN) ?_
       refine Holds.block ?_
       obtain ⟨oB33, hiB33, h⟩ := bS h
       refine It (fun (v : Int × (A6 (Int))) => (sl 90 [(6, vP [6] (0)), (8, vI (wrap64 (a1.Generic + (wrap64 (a1.X * a2))))), (9, vP [9] (0)), (49, vA (eA5 (eI .i64)) a1.Color), (50, vI v.1)] [bx [9] (eA6 (eI .i64) v.2), bx [6] (eA6 (eI .i64) (⟨(0 : Int), (0 : Int), (0 : Int), (0 : Int), (0 : Int), (0 : Int)⟩ : A6 (Int)))])) hiB33 (wT) ?_
       rintro ⟨vt50_30, b9_31⟩ zB33 hzB33 hoB33
       replace hzB33 : mana_Pay_B33 a1 vt50_30 b9_31 = some zB33 := hzB33
       unfold mana_Pay_B33 at hzB33
       refine Rg [.a] (sl 90 [(6, vP [6] (0)), (8, vI (wrap64 (a1.Generic + (wrap64 (a1.X * a2))))), (9, vP [9] (0)), (49, vA (eA5 (eI .i64)) a1.Color), (50, vI vt50_30), (51, vB (decide (vt50_30 < (5 : Int))))] [bx [9] (eA6 (eI .i64) b9_31), bx [6] (eA6 (eI .i64) (⟨(0 : Int), (0 : Int), (0 : Int), (0 : Int), (0 : Int), (0 : Int)⟩ : A6 (Int)))]) (aN) ?_
       refine Holds.seq ?_
       refine iB hzB33 (fun b34 hzB33 => ?_) (fun b34 hzB33 => ?_)
       · refine Holds.skip ?_
         refine Tn ?_
         refine Holds.seq ?_
         refine Holds.block ?_
         obtain ⟨e35, he35, hzB33⟩ := bS hzB33
         refine Rg [.a, (.v (vI e35)), .a, .a] (sl 90 [(6, vP [6] (0)), (8, vI (wrap64 (a1.Generic + (wrap64 (a1.X * a2))))), (9, vP [9] (0)), (10, vI vt50_30), (11, vI e35), (49, vA (eA5 (eI .i64)) a1.Color), (50, vI vt50_30)] [bx [9] (eA6 (eI .i64) b9_31), bx [6] (eA6 (eI .i64) (⟨(0 : Int), (0 : Int), (0 : Int), (0 : Int), (0 : Int), (0 : Int)⟩ : A6 (Int)))]) (aC (show (0 ≤ vt50_30 ∧ vt50_30 < ((5 : Nat) : Int)) ∧ (vt50_30).toNat * 1 + 1 ≤ (eA5 (eI .i64) a1.Color).length ∧ toV false ((vt50_30).toNat * 1) 1 (eA5 (eI .i64) a1.Color) = vI e35 from ⟨idx_b he35, arr_ld (e := eI .i64) (N := 1) (l := a1.Color.l) (base := 0) (pre := []) (post := []) (by kernel_rfl) rfl he35 (lenI .i64) (o := 0) (by simp) (by decide) (by decide) (by kernel_rfl)⟩) <| aC (Eq.refl (vI e35)) <| aN) ?_
         obtain ⟨e36, he36, hzB33⟩ := bS hzB33
         obtain ⟨e37, he37, hzB33⟩ := bS hzB33
         refine Rg [.a, .a, .a, (.v (vI e36)), .a, .a, .a, (.e 0 (eA6 (eI .i64) (b9_31.set (wrap64 (vt50_30 + (1 : Int))).toNat (wrap64 (e36 - e35)))))] (sl 90 [(6, vP [6] (0)), (8, vI (wrap64 (a1.Generic + (wrap64 (a1.X * a2))))), (9, vP [9] (0)), (10, vI vt50_30), (49, vA (eA5 (eI .i64)) a1.Color), (50, vI vt50_30)] [bx [9] (eA6 (eI .i64) (b9_31.set (wrap64 (vt50_30 + (1 : Int))).toNat (wrap64 (e36 - e35)))), bx [6] (eA6 (eI .i64) (⟨(0 : Int), (0 : Int), (0 : Int), (0 : Int), (0 : Int), (0 : Int)⟩ : A6 (Int)))]) (aC (idx_b he36) <| aC (ald he36 (lenI .i64) (eA6 (eI .i64) b9_31) 0 6 0 1 false (vI e36)) <| aC (Eq.refl (vI e36)) <| aC (idx_b he37) <| aC (show 0 + (wrap64 (vt50_30 + (1 : Int))).toNat * 1 + 1 ≤ (eA6 (eI .i64) b9_31).length ∧ (eA6 (eI .i64) b9_31).take (0 + (wrap64 (vt50_30 + (1 : Int))).toNat * 1) ++ ([.int .i64 (wrap64 (e36 - e35))] : List C) ++ (eA6 (eI .i64) b9_31).drop (0 + (wrap64 (vt50_30 + (1 : Int))).toNat * 1 + ([.int .i64 (wrap64 (e36 - e35))] : List C).length) = (eA6 (eI .i64) (b9_31.set (wrap64 (vt50_30 + (1 : Int))).toNat (wrap64 (e36 - e35)))) from (arr_st (e := eI .i64) (N := 1) (l := b9_31.l) (i := wrap64 (vt50_30 + (1 : Int))) (x' := (wrap64 (e36 - e35))) (o := 0) (base := 0) (cs := ([.int .i64 (wrap64 (e36 - e35))] : List C)) (pre := (eA6 (eI .i64) b9_31).take 0) (post := (eA6 (eI .i64) b9_31).drop 6) (by kernel_rfl) (by kernel_rfl) (by kernel_rfl) (A6.l_set _ _ _) he37 (lenI .i64) (by omega) (Nat.le_of_ble_eq_true (by kernel_rfl)) (by kernel_rfl))) <| aC (show ((none : Option (TypeId × Nat × Nat)) = none) ∧ True from ⟨rfl, trivial⟩) <| aN) ?_
         obtain ⟨e38, he38, hzB33⟩ := bS hzB33
         refine Rg [.a, .a, .a, (.v (vI e38)), .a] (sl 90 [(6, vP [6] (0)), (8, vI (wrap64 (a1.Generic + (wrap64 (a1.X * a2))))), (9, vP [9] (0)), (49, vA (eA5 (eI .i64)) a1.Color), (50, vI vt50_30), (65, vB (decide (e38 < (0 : Int))))] [bx [9] (eA6 (eI .i64) (b9_31.set (wrap64 (vt50_30 + (1 : Int))).toNat (wrap64 (e36 - e35)))), bx [6] (eA6 (eI .i64) (⟨(0 : Int), (0 : Int), (0 : Int), (0 : Int), (0 : Int), (0 : Int)⟩ : A6 (Int)))]) (aC (idx_b he38) <| aC (ald he38 (lenI .i64) (eA6 (eI .i64) (b9_31.set (wrap64 (vt50_30 + (1 : Int))).toNat (wrap64 (e36 - e35)))) 0 6 0 1 false (vI e38)) <| aC (Eq.refl (vI e38)) <| aN) ?_
         refine iB hzB33 (fun b39 hzB33 => ?_) (fun b39 hzB33 => ?_)
         · refine Rg [.a, .a, .a] (sl 90 [(6, vP [6] (0)), (7, vI (12 : Int))] [bx [6] (eA6 (eI .i64) (⟨(0 : Int), (0 : Int), (0 : Int), (0 : Int), (0 : Int), (0 : Int)⟩ : A6 (Int)))]) (aC (And.intro trivial okp31) <| aN) ?_
           refine Holds.ret ?_
           refine blockQ.ret ?_
           refine Tr ?_
           have hoB33_ := hoB33 _ (sI hzB33).symm
           subst hoB33_
           replace h := sumL h
           refine Tr ?_
           refine blockQ.ret ?_
           refine Tr ?_
           exact bE (.tup [vA (eA6 (eI .i64)) (⟨(0 : Int), (0 : Int), (0 : Int), (0 : Int), (0 : Int), (0 : Int)⟩ : A6 (Int)), vI (12 : Int)]) (.tup [.agg (eA6 (eI .i64) (⟨(0 : Int), (0 : Int), (0 : Int), (0 : Int), (0 : Int), (0 : Int)⟩ : A6 (Int))), vI (12 : Int)]) (congrArg (fun (q : (A6 (Int)) × Int) => (.tup [vA (eA6 (eI .i64)) q.1, vI q.2] : V)) (sI h))
         · refine Holds.skip ?_
           refine blockQ.normal ?_
           refine Tn ?_
           refine Re [.a, .a] (sl 90 [(6, vP [6] (0)), (8, vI (wrap64 (a1.Generic + (wrap64 (a1.X * a2))))), (9, vP [9] (0)), (49, vA (eA5 (eI .i64)) a1.Color), (50, vI (wrap64 (vt50_30 + (1 : Int)))), (65, vB (decide (e38 < (0 : Int)))), (67, vI (wrap64 (vt50_30 + (1 : Int))))] [bx [9] (eA6 (eI .i64) (b9_31.set (wrap64 (vt50_30 + (1 : Int))).toNat (wrap64 (e36 - e35)))), bx [6] (eA6 (eI .i64) (⟨(0 : Int), (0 : Int), (0 : Int), (0 : Int), (0 : Int), (0 : Int)⟩ : A6 (Int)))]) (aN) ?_
           refine Tn ⟨((wrap64 (vt50_30 + (1 : Int))), (b9_31.set (wrap64 (vt50_30 + (1 : Int))).toNat (wrap64 (e36 - e35)))), (sI hzB33).symm, wT⟩
       · refine Holds.exit ?_
         refine thenQ.exit ?_
         have hoB33_ := hoB33 _ (sI hzB33).symm
         subst hoB33_
         replace h := sumR h
         refine thenQ.exit ?_
         refine blockQ.out ?_
         refine Tn ⟨b9_31, h, wT⟩
     · rintro b9_9 hJ10
       replace hJ10 : mana_Pay_J10 a1 a2 b9_9 = some r := hJ10
       unfold mana_Pay_J10 at hJ10
       refine Sj (X := Int × (A6 (Int))) (fun v => (sl 90 [(6, vP [6] (0)), (8, vI v.1), (9, vP [9] (0))] [bx [9] (eA6 (eI .i64) v.2), bx [6] (eA6 (eI .i64) (⟨(0 : Int), (0 : Int), (0 : Int), (0 : Int), (0 : Int), (0 : Int)⟩ : A6 (Int)))])) (fun v => mana_Pay_J13 v.1 v.2 = some r) ?_ ?_
       · refine Rg [.a] (sl 90 [(6, vP [6] (0)), (8, vI (wrap64 (a1.Generic + (wrap64 (a1.X * a2))))), (9, vP [9] (0)), (68, vI (0 : Int))] [bx [9] (eA6 (eI .i64) b9_9), bx [6] (eA6 (eI .i64) (⟨(0 : Int), (0 : Int), (0 : Int), (0 : Int), (0 : Int), (0 : Int)⟩ : A6 (Int)))]) (aN) ?_
         refine Holds.block ?_
         obtain ⟨oB23, hiB23, hJ10⟩ := bS hJ10
         refine It (fun (v : Int × Int × (A6 (Int))) => (sl 90 [(6, vP [6] (0)), (8, vI v.1), (9, vP [9] (0)), (68, vI v.2.1)] [bx [9] (eA6 (eI .i64) v.2.2), bx [6] (eA6 (eI .i64) (⟨(0 : Int), (0 : Int), (0 : Int), (0 : Int), (0 : Int), (0 : Int)⟩ : A6 (Int)))])) hiB23 (wT) ?_
         rintro ⟨vt8_18, vt68_19, b9_20⟩ zB23 hzB23 hoB23
         replace hzB23 : mana_Pay_B23 vt8_18 vt68_19 b9_20 = some zB23 := hzB23
         unfold mana_Pay_B23 at hzB23
         refine Rg [.a] (sl 90 [(6, vP [6] (0)), (8, vI vt8_18), (9, vP [9] (0)), (68, vI vt68_19), (69, vB (decide (vt68_19 < (6 : Int))))] [bx [9] (eA6 (eI .i64) b9_20), bx [6] (eA6 (eI .i64) (⟨(0 : Int), (0 : Int), (0 : Int), (0 : Int), (0 : Int), (0 : Int)⟩ : A6 (Int)))]) (aN) ?_
         refine Holds.seq ?_
         refine iB hzB23 (fun b24 hzB23 => ?_) (fun b24 hzB23 => ?_)
         · refine Holds.skip ?_
           refine Tn ?_
           refine Holds.seq ?_
           refine Holds.block ?_
           refine Rg [.a, .a] (sl 90 [(6, vP [6] (0)), (8, vI vt8_18), (9, vP [9] (0)), (12, vI vt68_19), (68, vI vt68_19)] [bx [9] (eA6 (eI .i64) b9_20), bx [6] (eA6 (eI .i64) (⟨(0 : Int), (0 : Int), (0 : Int), (0 : Int), (0 : Int), (0 : Int)⟩ : A6 (Int)))]) (aN) ?_
           obtain ⟨e25, he25, hzB23⟩ := bS hzB23
           refine Rg [.a, .a, .a, (.v (vI e25)), .a, .a] (sl 90 [(6, vP [6] (0)), (8, vI vt8_18), (9, vP [9] (0)), (12, vI vt68_19), (13, vI (if e25 < vt8_18 then e25 else vt8_18)), (68, vI vt68_19)] [bx [9] (eA6 (eI .i64) b9_20), bx [6] (eA6 (eI .i64) (⟨(0 : Int), (0 : Int), (0 : Int), (0 : Int), (0 : Int), (0 : Int)⟩ : A6 (Int)))]) (aC (idx_b he25) <| aC (ald he25 (lenI .i64) (eA6 (eI .i64) b9_20) 0 6 0 1 false (vI e25)) <| aC (Eq.refl (vI e25)) <| aC (show (True ∧ (True ∧ True)) ∧ True from ⟨⟨trivial, ⟨trivial, trivial⟩⟩, trivial⟩) <| aN) ?_
           obtain ⟨e26, he26, hzB23⟩ := bS hzB23
           obtain ⟨e27, he27, hzB23⟩ := bS hzB23
           refine Rg [.a, .a, (.v (vI e26)), .a, .a, .a, (.e 0 (eA6 (eI .i64) (b9_20.set (vt68_19).toNat (wrap64 (e26 - (if e25 < vt8_18 then e25 else vt8_18))))))] (sl 90 [(6, vP [6] (0)), (8, vI vt8_18), (9, vP [9] (0)), (13, vI (if e25 < vt8_18 then e25 else vt8_18)), (68, vI vt68_19)] [bx [9] (eA6 (eI .i64) (b9_20.set (vt68_19).toNat (wrap64 (e26 - (if e25 < vt8_18 then e25 else vt8_18))))), bx [6] (eA6 (eI .i64) (⟨(0 : Int), (0 : Int), (0 : Int), (0 : Int), (0 : Int), (0 : Int)⟩ : A6 (Int)))]) (aC (idx_b he26) <| aC (ald he26 (lenI .i64) (eA6 (eI .i64) b9_20) 0 6 0 1 false (vI e26)) <| aC (Eq.refl (vI e26)) <| aC (idx_b he27) <| aC (show 0 + (vt68_19).toNat * 1 + 1 ≤ (eA6 (eI .i64) b9_20).length ∧ (eA6 (eI .i64) b9_20).take (0 + (vt68_19).toNat * 1) ++ ([.int .i64 (wrap64 (e26 - (if e25 < vt8_18 then e25 else vt8_18)))] : List C) ++ (eA6 (eI .i64) b9_20).drop (0 + (vt68_19).toNat * 1 + ([.int .i64 (wrap64 (e26 - (if e25 < vt8_18 then e25 else vt8_18)))] : List C).length) = (eA6 (eI .i64) (b9_20.set (vt68_19).toNat (wrap64 (e26 - (if e25 < vt8_18 then e25 else vt8_18))))) from (arr_st (e := eI .i64) (N := 1) (l := b9_20.l) (i := vt68_19) (x' := (wrap64 (e26 - (if e25 < vt8_18 then e25 else vt8_18)))) (o := 0) (base := 0) (cs := ([.int .i64 (wrap64 (e26 - (if e25 < vt8_18 then e25 else vt8_18)))] : List C)) (pre := (eA6 (eI .i64) b9_20).take 0) (post := (eA6 (eI .i64) b9_20).drop 6) (by kernel_rfl) (by kernel_rfl) (by kernel_rfl) (A6.l_set _ _ _) he27 (lenI .i64) (by omega) (Nat.le_of_ble_eq_true (by kernel_rfl)) (by kernel_rfl))) <| aC (show ((none : Option (TypeId × Nat × Nat)) = none) ∧ True from ⟨rfl, trivial⟩) <| aN) ?_
           refine Re [.a, .a, .a, .a] (sl 90 [(6, vP [6] (0)), (8, vI (wrap64 (vt8_18 - (if e25 < vt8_18 then e25 else vt8_18)))), (9, vP [9] (0)), (13, vI (if e25 < vt8_18 then e25 else vt8_18)), (68, vI vt68_19), (82, vI vt8_18), (83, vI (if e25 < vt8_18 then e25 else vt8_18)), (84, vI (wrap64 (vt8_18 - (if e25 < vt8_18 then e25 else vt8_18))))] [bx [9] (eA6 (eI .i64) (b9_20.set (vt68_19).toNat (wrap64 (e26 - (if e25 < vt8_18 then e25 else vt8_18))))), bx [6] (eA6 (eI .i64) (⟨(0 : Int), (0 : Int), (0 : Int), (0 : Int), (0 : Int), (0 : Int)⟩ : A6 (Int)))]) (aN) ?_
           refine blockQ.normal ?_
           refine Tn ?_
           refine Re [.a, .a] (sl 90 [(6, vP [6] (0)), (8, vI (wrap64 (vt8_18 - (if e25 < vt8_18 then e25 else vt8_18)))), (9, vP [9] (0)), (13, vI (if e25 < vt8_18 then e25 else vt8_18)), (68, vI (wrap64 (vt68_19 + (1 : Int)))), (82, vI vt8_18), (83, vI (if e25 < vt8_18 then e25 else vt8_18)), (84, vI (wrap64 (vt8_18 - (if e25 < vt8_18 then e25 else vt8_18)))), (85, vI (wrap64 (vt68_19 + (1 : Int))))] [bx [9] (eA6 (eI .i64) (b9_20.set (vt68_19).toNat (wrap64 (e26 - (if e25 < vt8_18 then e25 else vt8_18))))), bx [6] (eA6 (eI .i64) (⟨(0 : Int), (0 : Int), (0 : Int), (0 : Int), (0 : Int), (0 : Int)⟩ : A6 (Int)))]) (aN) ?_
           refine Tn ⟨((wrap64 (vt8_18 - (if e25 < vt8_18 then e25 else vt8_18))), (wrap64 (vt68_19 + (1 : Int))), (b9_20.set (vt68_19).toNat (wrap64 (e26 - (if e25 < vt8_18 then e25 else vt8_18))))), (sI hzB23).symm, wT⟩
         · refine Holds.exit ?_
           refine thenQ.exit ?_
           have hoB23_ := hoB23 _ (sI hzB23).symm
           subst hoB23_
           refine thenQ.exit ?_
           refine blockQ.out ?_
           refine Tn ⟨(vt8_18, b9_20), hJ10, wT⟩
       · rintro ⟨vt8_11, b9_12⟩ hJ13
         replace hJ13 : mana_Pay_J13 vt8_11 b9_12 = some r := hJ13
         unfold mana_Pay_J13 at hJ13
         refine Holds.seq ?_
         refine Rg [.a, .a] (sl 90 [(6, vP [6] (0)), (9, vP [9] (0)), (87, vB (decide ((0 : Int) < vt8_11)))] [bx [9] (eA6 (eI .i64) b9_12), bx [6] (eA6 (eI .i64) (⟨(0 : Int), (0 : Int), (0 : Int), (0 : Int), (0 : Int), (0 : Int)⟩ : A6 (Int)))]) (aN) ?_
         refine iB hJ13 (fun b14 hJ13 => ?_) (fun b14 hJ13 => ?_)
         · refine Rg [.a, .a, .a] (sl 90 [(6, vP [6] (0)), (7, vI (12 : Int))] [bx [6] (eA6 (eI .i64) (⟨(0 : Int), (0 : Int), (0 : Int), (0 : Int), (0 : Int), (0 : Int)⟩ : A6 (Int)))]) (aC (And.intro trivial okp31) <| aN) ?_
           refine Holds.ret ?_
           refine Tr ?_
           exact bE (.tup [vA (eA6 (eI .i64)) (⟨(0 : Int), (0 : Int), (0 : Int), (0 : Int), (0 : Int), (0 : Int)⟩ : A6 (Int)), vI (12 : Int)]) (.tup [.agg (eA6 (eI .i64) (⟨(0 : Int), (0 : Int), (0 : Int), (0 : Int), (0 : Int), (0 : Int)⟩ : A6 (Int))), vI (12 : Int)]) (congrArg (fun (q : (A6 (Int)) × Int) => (.tup [vA (eA6 (eI .i64)) q.1, vI q.2] : V)) (sI hJ13))
         · refine Holds.skip ?_
           refine Tn ?_
           refine Rg [.a, .a, .a] (sl 90 [(6, vP [6] (0)), (7, vI (0 : Int))] [bx [6] (eA6 (eI .i64) b9_12)]) (aN) ?_
           refine Holds.ret ?_
           exact bE (.tup [vA (eA6 (eI .i64)) b9_12, vI (0 : Int)]) (.tup [.agg (eA6 (eI .i64) b9_12), vI (0 : Int)]) (congrArg (fun (q : (A6 (Int)) × Int) => (.tup [vA (eA6 (eI .i64)) q.1, vI q.2] : V)) (sI hJ13))
/-- cardgame/num.Number -/
def num_NumberV (a0 : List UInt8) : Option (Int × Bool) :=
 (dAtoiV a0).bind fun r1 =>
 (gd (false == false) (num_Clamp r1)).bind fun r2 =>
 (some (if false = true then true else r1 != r2)).bind fun b3 =>
 (gd (b3 == false) (num_Text r1)).bind fun r4 =>
 (some (if b3 = true then true else r4 != a0)).bind fun b5 =>
 (if b5 = true then
  some ((0 : Int), false)
 else
  some (r1, true))
def num_NumberV_C (a0 : List UInt8) (r : Int × Bool) : Prop := PCall Tryd.prog I0 55 [vS a0] (· = .tup [vI r.1, vB r.2])
theorem num_NumberV_ok {a0 : List UInt8} {r : Int × Bool} (h : num_NumberV a0 = some r) : num_NumberV_C a0 r := by
 refine PCall.body I0_stable (by kernel_rfl) Tryd.func55 rfl Tryd.ntmps55 (rs := [.tmp 2, .tmp 3]) rfl rfl ?_
 intro w0 av old gv
 unfold num_NumberV at h
 refine Rg [.a, .a] (sl 26 [(0, vS a0)] []) (aN) ?_
 obtain ⟨r1, hr1, h⟩ := bS h
 refine Rg [.a, (.c (.tup [vI r1, .c (.niface)])), .a, .a, .a, .a, .a] (sl 26 [(0, vS a0), (4, vI r1), (5, .c (.niface))] []) (aC (okAtoiV hr1) <| aC (show True ∧ 0 < [V.undef, V.undef].length from ⟨trivial, (by decide)⟩) <| aC (show True ∧ 1 < [V.undef, V.undef].length from ⟨trivial, (by decide)⟩) <| aN) ?_
 refine Holds.seq ?_
 obtain ⟨r2, hr2, h⟩ := bS h
 obtain ⟨b3, hb3, h⟩ := bS h
 obtain ⟨r4, hr4, h⟩ := bS h
 obtain ⟨b5, hb5, h⟩ := bS h
 refine Rg [.a, .a, .a, .a, .a, (.c (vI r2)), .a, (.v (vB b3)), .a, .a, (.c (vS r4)), .a, .a, (.v (vB b5))] (sl 26 [(4, vI r1), (24, vB b5)] []) (aC (And.intro (Eq.refl true) isif91) <| aC (c1 hr2 num_Clamp_ok) <| aH (false == false) <| aF false <| aB hb3 <| aC (c1 hr4 num_Text_ok) <| aH (b3 == false) <| aF b3 <| aB hb5 <| aN) ?_
 refine iB h (fun b6 h => ?_) (fun b6 h => ?_)
 · refine Rg [.a, .a] (sl 26 [(2, vI (0 : Int)), (3, vB false)] []) (aN) ?_
   refine Holds.ret ?_
   refine Tr ?_
   exact bQ (.tup [vI (0 : Int), vB false]) (congrArg (fun (q : Int × Bool) => (.tup [vI q.1, vB q.2] : V)) (sI h))
 · refine Holds.skip ?_
   refine Tn ?_
   refine Rg [.a, .a, .a] (sl 26 [(2, vI r1), (3, vB true)] []) (aN) ?_
   refine Holds.ret ?_
   exact bQ (.tup [vI r1, vB true]) (congrArg (fun (q : Int × Bool) => (.tup [vI q.1, vB q.2] : V)) (sI h))
/-- cardgame/num.Number -/
def num_NumberB (a0 : List UInt8) : Option (Int × Bool) :=
 (dAtoiB a0).bind fun r1 =>
 (gd (true == false) (num_Clamp r1)).bind fun r2 =>
 (some (if true = true then true else r1 != r2)).bind fun b3 =>
 (gd (b3 == false) (num_Text r1)).bind fun r4 =>
 (some (if b3 = true then true else r4 != a0)).bind fun b5 =>
 (if b5 = true then
  some ((0 : Int), false)
 else
  some (r1, true))
def num_NumberB_C (a0 : List UInt8) (r : Int × Bool) : Prop := PCall Tryd.prog I0 55 [vS a0] (· = .tup [vI r.1, vB r.2])
theorem num_NumberB_ok {a0 : List UInt8} {r : Int × Bool} (h : num_NumberB a0 = some r) : num_NumberB_C a0 r := by
 refine PCall.body I0_stable (by kernel_rfl) Tryd.func55 rfl Tryd.ntmps55 (rs := [.tmp 2, .tmp 3]) rfl rfl ?_
 intro w0 av old gv
 unfold num_NumberB at h
 refine Rg [.a, .a] (sl 26 [(0, vS a0)] []) (aN) ?_
 obtain ⟨r1, hr1, h⟩ := bS h
 refine Rg [.a, (.c (.tup [vI r1, .c (.held)])), .a, .a, .a, .a, .a] (sl 26 [(0, vS a0), (4, vI r1), (5, .c (.held))] []) (aC (okAtoiB hr1) <| aC (show True ∧ 0 < [V.undef, V.undef].length from ⟨trivial, (by decide)⟩) <| aC (show True ∧ 1 < [V.undef, V.undef].length from ⟨trivial, (by decide)⟩) <| aN) ?_
 refine Holds.seq ?_
 obtain ⟨r2, hr2, h⟩ := bS h
 obtain ⟨b3, hb3, h⟩ := bS h
 obtain ⟨r4, hr4, h⟩ := bS h
 obtain ⟨b5, hb5, h⟩ := bS h
 refine Rg [.a, .a, .a, .a, .a, (.c (vI r2)), .a, (.v (vB b3)), .a, .a, (.c (vS r4)), .a, .a, (.v (vB b5))] (sl 26 [(4, vI r1), (24, vB b5)] []) (aC isif91 <| aC (c1 hr2 num_Clamp_ok) <| aH (true == false) <| aF true <| aB hb3 <| aC (c1 hr4 num_Text_ok) <| aH (b3 == false) <| aF b3 <| aB hb5 <| aN) ?_
 refine iB h (fun b6 h => ?_) (fun b6 h => ?_)
 · refine Rg [.a, .a] (sl 26 [(2, vI (0 : Int)), (3, vB false)] []) (aN) ?_
   refine Holds.ret ?_
   refine Tr ?_
   exact bQ (.tup [vI (0 : Int), vB false]) (congrArg (fun (q : Int × Bool) => (.tup [vI q.1, vB q.2] : V)) (sI h))
 · refine Holds.skip ?_
   refine Tn ?_
   refine Rg [.a, .a, .a] (sl 26 [(2, vI r1), (3, vB true)] []) (aN) ?_
   refine Holds.ret ?_
   exact bQ (.tup [vI r1, vB true]) (congrArg (fun (q : Int × Bool) => (.tup [vI q.1, vB q.2] : V)) (sI h))
def mana_Text_J8  (s_t3_7 : List UInt8) : Option ((List UInt8)) :=
 some s_t3_7
def mana_Text_B14 (a0 : SCost) (s_t3_11 : List UInt8) (vt25_12 : Int) : Option (((List UInt8) × Int) ⊕ ((List UInt8))) :=
 (if (decide (vt25_12 < (5 : Int))) = true then
  (idx a0.Color.l vt25_12).bind fun e16 =>
  (ssub str_ACJRE vt25_12 (wrap64 (vt25_12 + (1 : Int)))).bind fun s17 =>
  (dRepeat s17 e16).bind fun r18 =>
  (cat s_t3_11 r18).bind fun s19 =>
  some (.inl (s19, (wrap64 (vt25_12 + (1 : Int)))))
 else
  some (.inr s_t3_11))
def mana_Text_J6 (a0 : SCost) (s_t3_5 : List UInt8) : Option ((List UInt8)) :=
 (iter (fun (v : (List UInt8) × Int) => mana_Text_B14 a0 v.1 v.2) FU (s_t3_5, (0 : Int))).bind (fun o0 => mana_Text_J8 o0)
/-- cardgame/mana.Text -/
def mana_Text (a0 : SCost) : Option ((List UInt8)) :=
 (mana_Is a0).bind fun r1 =>
 (if (!r1) = true then
  some ([] : List UInt8)
 else
  (if (a0 == (⟨(0 : Int), (0 : Int), (⟨(0 : Int), (0 : Int), (0 : Int), (0 : Int), (0 : Int)⟩ : A5 (Int))⟩ : SCost)) = true then
   some str_0
  else
   (dRepeat str_X a0.X).bind fun r4 =>
   (if (decide ((0 : Int) < a0.Generic)) = true then
    (num_Text a0.Generic).bind fun r21 =>
    (cat r4 r21).bind fun s22 =>
    mana_Text_J6 a0 s22
   else
    mana_Text_J6 a0 r4)))
def mana_Text_C (a0 : SCost) (r : (List UInt8)) : Prop := PCall Tryd.prog I0 23 [vA encSCost a0] (· = vS r)
theorem mana_Text_ok {a0 : SCost} {r : (List UInt8)} (h : mana_Text a0 = some r) : mana_Text_C a0 r := by
 refine PCall.body I0_stable (by kernel_rfl) Tryd.func23 rfl Tryd.ntmps23 (rs := [.tmp 2]) rfl rfl ?_
 intro w0 av old gv
 unfold mana_Text at h
 refine Rg [.a, .a] (sl 39 [(1, vP [1] (0))] [bx [1] (encSCost a0)]) (aN) ?_
 refine Holds.seq ?_
 obtain ⟨r1, hr1, h⟩ := bS h
 refine Rg [.a, (.c (vB r1)), .a] (sl 39 [(1, vP [1] (0)), (8, vB (!r1))] [bx [1] (encSCost a0)]) (aC (mana_Is_ok hr1) <| aN) ?_
 refine iB h (fun b2 h => ?_) (fun b2 h => ?_)
 · refine Rg [.a] (sl 39 [(2, vS ([] : List UInt8))] []) (aN) ?_
   refine Holds.ret ?_
   refine Tr ?_
   exact bQ (vS ([] : List UInt8)) (congrArg vS (sI h))
 · refine Holds.skip ?_
   refine Tn ?_
   refine Holds.seq ?_
   refine Rg [.a, .a, (.v (vB (a0 == (⟨(0 : Int), (0 : Int), (⟨(0 : Int), (0 : Int), (0 : Int), (0 : Int), (0 : Int)⟩ : A5 (Int))⟩ : SCost))))] (sl 39 [(1, vP [1] (0)), (11, vB (a0 == (⟨(0 : Int), (0 : Int), (⟨(0 : Int), (0 : Int), (0 : Int), (0 : Int), (0 : Int)⟩ : A5 (Int))⟩ : SCost)))] [bx [1] (encSCost a0)]) (aC (And.intro trivial okp34) <| aC (congrArg (fun z => V.c (.bool (z))) (eqT34 a0 (⟨(0 : Int), (0 : Int), (⟨(0 : Int), (0 : Int), (0 : Int), (0 : Int), (0 : Int)⟩ : A5 (Int))⟩ : SCost))) <| aN) ?_
   refine iB h (fun b3 h => ?_) (fun b3 h => ?_)
   · refine Rg [.a] (sl 39 [(2, vS str_0)] []) (aN) ?_
     refine Holds.ret ?_
     refine Tr ?_
     exact bQ (vS str_0) (congrArg vS (sI h))
   · refine Holds.skip ?_
     refine Tn ?_
     obtain ⟨r4, hr4, h⟩ := bS h
     refine Rg [.a, .a, (.c (vS r4)), .a] (sl 39 [(1, vP [1] (0)), (3, vS r4)] [bx [1] (encSCost a0)]) (aC (okRepeat hr4) <| aN) ?_
     refine Sj (X := (List UInt8)) (fun v => (sl 39 [(1, vP [1] (0)), (3, vS v)] [bx [1] (encSCost a0)])) (fun v => mana_Text_J6 a0 v = some r) ?_ ?_
     · refine Rg [.a, .a, .a] (sl 39 [(1, vP [1] (0)), (3, vS r4), (17, vB (decide ((0 : Int) < a0.Generic)))] [bx [1] (encSCost a0)]) (aN) ?_
       refine iB h (fun b20 h => ?_) (fun b20 h => ?_)
       · obtain ⟨r21, hr21, h⟩ := bS h
         obtain ⟨s22, hs22, h⟩ := bS h
         refine Re [.a, .a, .a, (.c (vS r21)), (.v (vS s22)), .a] (sl 39 [(1, vP [1] (0)), (3, vS s22), (17, vB (decide ((0 : Int) < a0.Generic))), (18, vS r4), (19, vP [1] (0)), (20, vI a0.Generic), (21, vS r21), (22, vS s22)] [bx [1] (encSCost a0)]) (aC (num_Text_ok hr21) <| aC (cat_b hs22) <| aC (congrArg (fun z => V.c (.str z)) (cat_x hs22).symm) <| aN) ?_
         refine Tn ⟨s22, h, wT⟩
       · refine Holds.skip ?_
         refine Tn ⟨r4, h, wT⟩
     · rintro s_t3_5 hJ6
       replace hJ6 : mana_Text_J6 a0 s_t3_5 = some r := hJ6
       unfold mana_Text_J6 at hJ6
       refine Sj (X := (List UInt8)) (fun v => (sl 39 [(3, vS v)] [])) (fun v => mana_Text_J8 v = some r) ?_ ?_
       · refine Rg [.a, .a, .a] (sl 39 [(3, vS s_t3_5), (24, vA (eA5 (eI .i64)) a0.Color), (25, vI (0 : Int))] []) (aN) ?_
         refine Holds.block ?_
         obtain ⟨oB14, hiB14, hJ6⟩ := bS hJ6
         refine It (fun (v : (List UInt8) × Int) => (sl 39 [(3, vS v.1), (24, vA (eA5 (eI .i64)) a0.Color), (25, vI v.2)] [])) hiB14 (wT) ?_
         rintro ⟨s_t3_11, vt25_12⟩ zB14 hzB14 hoB14
         replace hzB14 : mana_Text_B14 a0 s_t3_11 vt25_12 = some zB14 := hzB14
         unfold mana_Text_B14 at hzB14
         refine Rg [.a] (sl 39 [(3, vS s_t3_11), (24, vA (eA5 (eI .i64)) a0.Color), (25, vI vt25_12), (26, vB (decide (vt25_12 < (5 : Int))))] []) (aN) ?_
         refine Holds.seq ?_
         refine iB hzB14 (fun b15 hzB14 => ?_) (fun b15 hzB14 => ?_)
         · refine Holds.skip ?_
           refine Tn ?_
           refine Holds.seq ?_
           refine Holds.block ?_
           obtain ⟨e16, he16, hzB14⟩ := bS hzB14
           refine Rg [.a, (.v (vI e16)), .a, .a] (sl 39 [(3, vS s_t3_11), (4, vI vt25_12), (5, vI e16), (24, vA (eA5 (eI .i64)) a0.Color), (25, vI vt25_12)] []) (aC (show (0 ≤ vt25_12 ∧ vt25_12 < ((5 : Nat) : Int)) ∧ (vt25_12).toNat * 1 + 1 ≤ (eA5 (eI .i64) a0.Color).length ∧ toV false ((vt25_12).toNat * 1) 1 (eA5 (eI .i64) a0.Color) = vI e16 from ⟨idx_b he16, arr_ld (e := eI .i64) (N := 1) (l := a0.Color.l) (base := 0) (pre := []) (post := []) (by kernel_rfl) rfl he16 (lenI .i64) (o := 0) (by simp) (by decide) (by decide) (by kernel_rfl)⟩) <| aC (Eq.refl (vI e16)) <| aN) ?_
           obtain ⟨s17, hs17, hzB14⟩ := bS hzB14
           obtain ⟨r18, hr18, hzB14⟩ := bS hzB14
           obtain ⟨s19, hs19, hzB14⟩ := bS hzB14
           refine Re [.a, .a, .a, .a, (.v (vS s17)), .a, (.c (vS r18)), (.v (vS s19)), .a] (sl 39 [(3, vS s19), (4, vI vt25_12), (5, vI e16), (24, vA (eA5 (eI .i64)) a0.Color), (25, vI vt25_12), (29, vS s_t3_11), (30, vI vt25_12), (31, vI vt25_12), (32, vI (wrap64 (vt25_12 + (1 : Int)))), (33, vS s17), (34, vI e16), (35, vS r18), (36, vS s19)] []) (aC (ssub_b hs17) <| aC (congrArg (fun z => V.c (.str z)) (ssub_x hs17).symm) <| aC (okRepeat hr18) <| aC (cat_b hs19) <| aC (congrArg (fun z => V.c (.str z)) (cat_x hs19).symm) <| aN) ?_
           refine blockQ.normal ?_
           refine Tn ?_
           refine Re [.a, .a] (sl 39 [(3, vS s19), (4, vI vt25_12), (5, vI e16), (24, vA (eA5 (eI .i64)) a0.Color), (25, vI (wrap64 (vt25_12 + (1 : Int)))), (29, vS s_t3_11), (30, vI vt25_12), (31, vI vt25_12), (32, vI (wrap64 (vt25_12 + (1 : Int)))), (33, vS s17), (34, vI e16), (35, vS r18), (36, vS s19), (37, vI (wrap64 (vt25_12 + (1 : Int))))] []) (aN) ?_
           refine Tn ⟨(s19, (wrap64 (vt25_12 + (1 : Int)))), (sI hzB14).symm, wT⟩
         · refine Holds.exit ?_
           refine thenQ.exit ?_
           have hoB14_ := hoB14 _ (sI hzB14).symm
           subst hoB14_
           refine thenQ.exit ?_
           refine blockQ.out ?_
           refine Tn ⟨s_t3_11, hJ6, wT⟩
       · rintro s_t3_7 hJ8
         replace hJ8 : mana_Text_J8 s_t3_7 = some r := hJ8
         unfold mana_Text_J8 at hJ8
         refine Rg [.a, .a] (sl 39 [(2, vS s_t3_7)] []) (aN) ?_
         refine Holds.ret ?_
         exact bQ (vS s_t3_7) (congrArg vS (sI hJ8))
/-- cardgame/num.Mul -/
def num_Mul (a0 : Int) (a1 : Int) : Option (Int) :=
 (num_Clamp a0).bind fun r1 =>
 (num_Clamp a1).bind fun r2 =>
 (num_Clamp (wrap64 (r1 * r2))).bind fun r3 =>
 some r3
def num_Mul_C (a0 : Int) (a1 : Int) (r : Int) : Prop := PCall Tryd.prog I0 46 [vI a0, vI a1] (· = vI r)
theorem num_Mul_ok {a0 : Int} {a1 : Int} {r : Int} (h : num_Mul a0 a1 = some r) : num_Mul_C a0 a1 r := by
 refine PCall.body I0_stable (by kernel_rfl) Tryd.func46 rfl Tryd.ntmps46 (rs := [.tmp 4]) rfl rfl ?_
 intro w0 av old gv
 unfold num_Mul at h
 refine Rg [.a] (sl 11 [(0, vI a0), (1, vI a1)] []) (aN) ?_
 obtain ⟨r1, hr1, h⟩ := bS h
 obtain ⟨r2, hr2, h⟩ := bS h
 obtain ⟨r3, hr3, h⟩ := bS h
 refine Rg [.a, (.c (vI r1)), .a, (.c (vI r2)), .a, (.c (vI r3)), .a] (sl 11 [(4, vI r3)] []) (aC (num_Clamp_ok hr1) <| aC (num_Clamp_ok hr2) <| aC (num_Clamp_ok hr3) <| aN) ?_
 refine Holds.ret ?_
 exact bQ (vI r3) (congrArg vI (sI h))
/-- cardgame/num.Add -/
def num_Add (a0 : Int) (a1 : Int) : Option (Int) :=
 (num_Clamp a0).bind fun r1 =>
 (num_Clamp a1).bind fun r2 =>
 (num_Clamp (wrap64 (r1 + r2))).bind fun r3 =>
 some r3
def num_Add_C (a0 : Int) (a1 : Int) (r : Int) : Prop := PCall Tryd.prog I0 44 [vI a0, vI a1] (· = vI r)
theorem num_Add_ok {a0 : Int} {a1 : Int} {r : Int} (h : num_Add a0 a1 = some r) : num_Add_C a0 a1 r := by
 refine PCall.body I0_stable (by kernel_rfl) Tryd.func44 rfl Tryd.ntmps44 (rs := [.tmp 4]) rfl rfl ?_
 intro w0 av old gv
 unfold num_Add at h
 refine Rg [.a] (sl 11 [(0, vI a0), (1, vI a1)] []) (aN) ?_
 obtain ⟨r1, hr1, h⟩ := bS h
 obtain ⟨r2, hr2, h⟩ := bS h
 obtain ⟨r3, hr3, h⟩ := bS h
 refine Rg [.a, (.c (vI r1)), .a, (.c (vI r2)), .a, (.c (vI r3)), .a] (sl 11 [(4, vI r3)] []) (aC (num_Clamp_ok hr1) <| aC (num_Clamp_ok hr2) <| aC (num_Clamp_ok hr3) <| aN) ?_
 refine Holds.ret ?_
 exact bQ (vI r3) (congrArg vI (sI h))
/-- cardgame/cardgameref01.Text -/
def r01_Text (a0 : Int) : Option ((List UInt8)) :=
 (if (decide (a0 < (0 : Int))) = true then
  (r01_digits (IntKind.u64.wrap (0 - (IntKind.u64.wrap (a0))))).bind fun r2 =>
  (cat str_x2d r2).bind fun s3 =>
  some s3
 else
  (r01_digits (IntKind.u64.wrap (a0))).bind fun r4 =>
  some r4)
def r01_Text_C (a0 : Int) (r : (List UInt8)) : Prop := PCall Tryd.prog I0 49 [vI a0] (· = vS r)
theorem r01_Text_ok {a0 : Int} {r : (List UInt8)} (h : r01_Text a0 = some r) : r01_Text_C a0 r := by
 refine PCall.body I0_stable (by kernel_rfl) Tryd.func49 rfl Tryd.ntmps49 (rs := [.tmp 2]) rfl rfl ?_
 intro w0 av old gv
 unfold r01_Text at h
 refine Rg [.a] (sl 13 [(0, vI a0)] []) (aN) ?_
 refine Holds.seq ?_
 refine Rg [.a, .a] (sl 13 [(0, vI a0), (4, vB (decide (a0 < (0 : Int))))] []) (aN) ?_
 refine iB h (fun b1 h => ?_) (fun b1 h => ?_)
 · obtain ⟨r2, hr2, h⟩ := bS h
   obtain ⟨s3, hs3, h⟩ := bS h
   refine Rg [.a, .a, .a, (.c (vS r2)), (.v (vS s3)), .a] (sl 13 [(2, vS s3)] []) (aC (r01_digits_ok hr2) <| aC (cat_b hs3) <| aC (congrArg (fun z => V.c (.str z)) (cat_x hs3).symm) <| aN) ?_
   refine Holds.ret ?_
   refine Tr ?_
   exact bQ (vS s3) (congrArg vS (sI h))
 · refine Holds.skip ?_
   refine Tn ?_
   obtain ⟨r4, hr4, h⟩ := bS h
   refine Rg [.a, .a, (.c (vS r4)), .a] (sl 13 [(2, vS r4)] []) (aC (r01_digits_ok hr4) <| aN) ?_
   refine Holds.ret ?_
   exact bQ (vS r4) (congrArg vS (sI h))
end Go.PL
