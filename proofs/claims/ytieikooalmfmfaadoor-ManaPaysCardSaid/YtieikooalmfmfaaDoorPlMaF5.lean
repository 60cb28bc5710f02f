/- Functions of the program, as partial functions in Lean, with proofs. -/
import Derived.Test.YtieikooalmfmfaaDoorPlMaB
import Derived.Test.YtieikooalmfmfaaDoorPlMaF0
import Derived.Test.YtieikooalmfmfaaDoorPlMaF1
import Derived.Test.YtieikooalmfmfaaDoorPlMaF2
import Derived.Test.YtieikooalmfmfaaDoorPlMaF4
namespace Go.PL
open Go Go.RowKit Go.Proofs
set_option maxRecDepth 100000
set_option linter.all false
set_option maxHeartbeats 1000000
attribute [local irreducible] Holds thenQ blockQ
def law08_ManaPays_J7 (a1 : SCost) (a2 : Int) (vt9_5 : Int) (vt10_6 : Int) : Option (Bool) :=
 (mana_Value a1 a2).bind fun r8 =>
 (some (if (r8 == (1000000 : Int)) = true then true else (wrap64 (vt9_5 - vt10_6)) == r8)).bind fun b9 =>
 (gd (b9 == true) (law08_alive)).bind fun r10 =>
 (some (if b9 = true then r10 else false)).bind fun b11 =>
 some b11
def law08_ManaPays_B20 (a0 : A6 (Int)) (r1 : (A6 (Int)) × Int) (vt9_15 : Int) (vt10_16 : Int) (vt28_17 : Int) : Option ((Int × Int × Int) ⊕ (Unit ⊕ (Int × Int))) :=
 (if (decide (vt28_17 < (6 : Int))) = true then
  (idx r1.1.l vt28_17).bind fun e22 =>
  (idx a0.l vt28_17).bind fun e23 =>
  (gd ((decide (e23 < e22)) == false) (idx r1.1.l vt28_17)).bind fun e24 =>
  (some (if (decide (e23 < e22)) = true then true else decide (e24 < (0 : Int)))).bind fun b25 =>
  (if b25 = true then
   some (.inr (.inl ()))
  else
   (idx a0.l vt28_17).bind fun e27 =>
   (idx r1.1.l vt28_17).bind fun e28 =>
   some (.inl ((wrap64 (vt9_15 + e27)), (wrap64 (vt10_16 + e28)), (wrap64 (vt28_17 + (1 : Int))))))
 else
  some (.inr (.inr (vt9_15, vt10_16))))
/-- cardgame/cardgamelaw08.ManaPays -/
def law08_ManaPays (a0 : A6 (Int)) (a1 : SCost) (a2 : Int) : Option (Bool) :=
 (mana_Pay a0 a1 a2).bind fun r1 =>
 (if (r1.2 != (0 : Int)) = true then
  (gd ((r1.1 == (⟨(0 : Int), (0 : Int), (0 : Int), (0 : Int), (0 : Int), (0 : Int)⟩ : A6 (Int))) == true) (law08_alive)).bind fun r3 =>
  (some (if (r1.1 == (⟨(0 : Int), (0 : Int), (0 : Int), (0 : Int), (0 : Int), (0 : Int)⟩ : A6 (Int))) = true then r3 else false)).bind fun b4 =>
  some b4
 else
  (iter (fun (v : Int × Int × Int) => law08_ManaPays_B20 a0 r1 v.1 v.2.1 v.2.2) FU ((0 : Int), (0 : Int), (0 : Int))).bind (Sum.elim (fun o0 => some false) (fun o1 => law08_ManaPays_J7 a1 a2 o1.1 o1.2)))
def law08_ManaPays_C (a0 : A6 (Int)) (a1 : SCost) (a2 : Int) (r : Bool) : Prop := PCall Tryd.prog I0 4 [vA (eA6 (eI .i64)) a0, vA encSCost a1, vI a2] (· = vB r)
theorem law08_ManaPays_ok {a0 : A6 (Int)} {a1 : SCost} {a2 : Int} {r : Bool} (h : law08_ManaPays a0 a1 a2 = some r) : law08_ManaPays_C a0 a1 a2 r := by
 refine PCall.body I0_stable (by kernel_rfl) Tryd.func4 rfl Tryd.ntmps4 (rs := [.tmp 6]) rfl rfl ?_
 intro w0 av old gv
 unfold law08_ManaPays at h
 refine Rg [.a, .a, .a] (sl 70 [(2, vI a2), (3, vP [3] (0)), (4, vP [4] (0))] [bx [4] (encSCost a1), bx [3] (eA6 (eI .i64) a0)]) (aN) ?_
 obtain ⟨r1, hr1, h⟩ := bS h
 refine Rg [.a, .a, .a, (.c (.tup [vA (eA6 (eI .i64)) r1.1, vI r1.2])), .a, .a, .a, .a, .a, .a] (sl 70 [(2, vI a2), (3, vP [3] (0)), (4, vP [4] (0)), (7, vP [7] (0)), (8, vI r1.2)] [bx [7] (eA6 (eI .i64) r1.1), bx [4] (encSCost a1), bx [3] (eA6 (eI .i64) a0)]) (aC (mana_Pay_ok hr1) <| aC (show True ∧ 0 < [V.undef, V.undef].length from ⟨trivial, (by decide)⟩) <| aC (show True ∧ 1 < [V.undef, V.undef].length from ⟨trivial, (by decide)⟩) <| aN) ?_
 refine Holds.seq ?_
 refine Rg [.a, .a] (sl 70 [(2, vI a2), (3, vP [3] (0)), (4, vP [4] (0)), (7, vP [7] (0)), (21, vB (r1.2 != (0 : Int)))] [bx [7] (eA6 (eI .i64) r1.1), bx [4] (encSCost a1), bx [3] (eA6 (eI .i64) a0)]) (aN) ?_
 refine iB h (fun b2 h => ?_) (fun b2 h => ?_)
 · obtain ⟨r3, hr3, h⟩ := bS h
   obtain ⟨b4, hb4, h⟩ := bS h
   refine Rg [.a, .a, (.v (vB (r1.1 == (⟨(0 : Int), (0 : Int), (0 : Int), (0 : Int), (0 : Int), (0 : Int)⟩ : A6 (Int))))), .a, (.c (vB r3)), (.v (vB b4)), .a] (sl 70 [(6, vB b4)] []) (aC (And.intro trivial okp31) <| aC (congrArg (fun z => V.c (.bool (z))) (eqT31 r1.1 (⟨(0 : Int), (0 : Int), (0 : Int), (0 : Int), (0 : Int), (0 : Int)⟩ : A6 (Int)))) <| aC (c0 hr3 law08_alive_ok) <| aT (r1.1 == (⟨(0 : Int), (0 : Int), (0 : Int), (0 : Int), (0 : Int), (0 : Int)⟩ : A6 (Int))) <| aB hb4 <| aN) ?_
   refine Holds.ret ?_
   refine Tr ?_
   exact bQ (vB b4) (congrArg vB (sI h))
 · refine Holds.skip ?_
   refine Tn ?_
   refine Rg [.a, .a] (sl 70 [(2, vI a2), (3, vP [3] (0)), (4, vP [4] (0)), (7, vP [7] (0)), (9, vI (0 : Int)), (10, vI (0 : Int))] [bx [7] (eA6 (eI .i64) r1.1), bx [4] (encSCost a1), bx [3] (eA6 (eI .i64) a0)]) (aN) ?_
   refine Sj (X := Int × Int) (fun v => (sl 70 [(2, vI a2), (4, vP [4] (0)), (9, vI v.1), (10, vI v.2)] [bx [4] (encSCost a1)])) (fun v => law08_ManaPays_J7 a1 a2 v.1 v.2 = some r) ?_ ?_
   · refine Rg [.a] (sl 70 [(2, vI a2), (3, vP [3] (0)), (4, vP [4] (0)), (7, vP [7] (0)), (9, vI (0 : Int)), (10, vI (0 : Int)), (28, vI (0 : Int))] [bx [7] (eA6 (eI .i64) r1.1), bx [4] (encSCost a1), bx [3] (eA6 (eI .i64) a0)]) (aN) ?_
     refine Holds.block ?_
     obtain ⟨oB20, hiB20, h⟩ := bS h
     refine It (fun (v : Int × Int × Int) => (sl 70 [(2, vI a2), (3, vP [3] (0)), (4, vP [4] (0)), (7, vP [7] (0)), (9, vI v.1), (10, vI v.2.1), (28, vI v.2.2)] [bx [7] (eA6 (eI .i64) r1.1), bx [4] (encSCost a1), bx [3] (eA6 (eI .i64) a0)])) hiB20 (wT) ?_
     rintro ⟨vt9_15, vt10_16, vt28_17⟩ zB20 hzB20 hoB20
     replace hzB20 : law08_ManaPays_B20 a0 r1 vt9_15 vt10_16 vt28_17 = some zB20 := hzB20
     unfold law08_ManaPays_B20 at hzB20
     refine Rg [.a] (sl 70 [(2, vI a2), (3, vP [3] (0)), (4, vP [4] (0)), (7, vP [7] (0)), (9, vI vt9_15), (10, vI vt10_16), (28, vI vt28_17), (29, vB (decide (vt28_17 < (6 : Int))))] [bx [7] (eA6 (eI .i64) r1.1), bx [4] (encSCost a1), bx [3] (eA6 (eI .i64) a0)]) (aN) ?_
     refine Holds.seq ?_
     refine iB hzB20 (fun b21 hzB20 => ?_) (fun b21 hzB20 => ?_)
     · refine Holds.skip ?_
       refine Tn ?_
       refine Holds.seq ?_
       refine Holds.block ?_
       refine Rg [.a, .a] (sl 70 [(2, vI a2), (3, vP [3] (0)), (4, vP [4] (0)), (7, vP [7] (0)), (9, vI vt9_15), (10, vI vt10_16), (11, vI vt28_17), (28, vI vt28_17)] [bx [7] (eA6 (eI .i64) r1.1), bx [4] (encSCost a1), bx [3] (eA6 (eI .i64) a0)]) (aN) ?_
       refine Holds.seq ?_
       obtain ⟨e22, he22, hzB20⟩ := bS hzB20
       obtain ⟨e23, he23, hzB20⟩ := bS hzB20
       obtain ⟨e24, he24, hzB20⟩ := bS hzB20
       obtain ⟨b25, hb25, hzB20⟩ := bS hzB20
       refine Rq followsP [.a, .a, (.v (vI e22)), .a, .a, (.v (vI e23)), .a, .a, .a, .a, (.v (vI e24)), .a, (.v (vB b25))] (sl 70 [(2, vI a2), (3, vP [3] (0)), (4, vP [4] (0)), (7, vP [7] (0)), (9, vI vt9_15), (10, vI vt10_16), (11, vI vt28_17), (28, vI vt28_17), (43, vB b25)] [bx [7] (eA6 (eI .i64) r1.1), bx [4] (encSCost a1), bx [3] (eA6 (eI .i64) a0)]) (aC (idx_b he22) <| aC (ald he22 (lenI .i64) (eA6 (eI .i64) r1.1) 0 6 0 1 false (vI e22)) <| aC (Eq.refl (vI e22)) <| aC (idx_b he23) <| aC (ald he23 (lenI .i64) (eA6 (eI .i64) a0) 0 6 0 1 false (vI e23)) <| aC (Eq.refl (vI e23)) <| aC (fun hg : ((decide (e23 < e22)) == false) = true => aC (gi ((decide (e23 < e22)) == false)) <| aC (gidx_b he24 hg).1 <| aN) <| aC (fun hg : ((decide (e23 < e22)) == false) = true => aC (gi ((decide (e23 < e22)) == false)) <| aC (ald (gd_t he24 hg) (lenI .i64) (eA6 (eI .i64) r1.1) 0 6 0 1 false (vI e24)) <| aC (Eq.refl (vI e24)) <| aN) <| aG ((decide (e23 < e22)) == false) <| aF (decide (e23 < e22)) <| aB hb25 <| aN) ?_
       refine iB hzB20 (fun b26 hzB20 => ?_) (fun b26 hzB20 => ?_)
       · refine Rg [.a] (sl 70 [(6, vB false)] []) (aN) ?_
         refine Holds.ret ?_
         refine Tr ?_
         refine blockQ.ret ?_
         refine Tr ?_
         have hoB20_ := hoB20 _ (sI hzB20).symm
         subst hoB20_
         replace h := sumL h
         refine Tr ?_
         refine blockQ.ret ?_
         refine Tr ?_
         exact bQ (vB false) (congrArg vB (sI h))
       · refine Holds.skip ?_
         refine Tn ?_
         obtain ⟨e27, he27, hzB20⟩ := bS hzB20
         refine Rg [.a, .a, .a, (.v (vI e27)), .a, .a] (sl 70 [(2, vI a2), (3, vP [3] (0)), (4, vP [4] (0)), (7, vP [7] (0)), (9, vI (wrap64 (vt9_15 + e27))), (10, vI vt10_16), (11, vI vt28_17), (28, vI vt28_17)] [bx [7] (eA6 (eI .i64) r1.1), bx [4] (encSCost a1), bx [3] (eA6 (eI .i64) a0)]) (aC (idx_b he27) <| aC (ald he27 (lenI .i64) (eA6 (eI .i64) a0) 0 6 0 1 false (vI e27)) <| aC (Eq.refl (vI e27)) <| aN) ?_
         obtain ⟨e28, he28, hzB20⟩ := bS hzB20
         refine Re [.a, .a, .a, (.v (vI e28)), .a, .a] (sl 70 [(2, vI a2), (3, vP [3] (0)), (4, vP [4] (0)), (7, vP [7] (0)), (9, vI (wrap64 (vt9_15 + e27))), (10, vI (wrap64 (vt10_16 + e28))), (11, vI vt28_17), (28, vI vt28_17), (49, vI vt10_16), (50, vI vt28_17), (51, vP [7] (0 + (vt28_17).toNat * 1)), (52, vI e28), (53, vI (wrap64 (vt10_16 + e28)))] [bx [7] (eA6 (eI .i64) r1.1), bx [4] (encSCost a1), bx [3] (eA6 (eI .i64) a0)]) (aC (idx_b he28) <| aC (ald he28 (lenI .i64) (eA6 (eI .i64) r1.1) 0 6 0 1 false (vI e28)) <| aC (Eq.refl (vI e28)) <| aN) ?_
         refine blockQ.normal ?_
         refine Tn ?_
         refine Re [.a, .a] (sl 70 [(2, vI a2), (3, vP [3] (0)), (4, vP [4] (0)), (7, vP [7] (0)), (9, vI (wrap64 (vt9_15 + e27))), (10, vI (wrap64 (vt10_16 + e28))), (11, vI vt28_17), (28, vI (wrap64 (vt28_17 + (1 : Int)))), (49, vI vt10_16), (50, vI vt28_17), (51, vP [7] (0 + (vt28_17).toNat * 1)), (52, vI e28), (53, vI (wrap64 (vt10_16 + e28))), (54, vI (wrap64 (vt28_17 + (1 : Int))))] [bx [7] (eA6 (eI .i64) r1.1), bx [4] (encSCost a1), bx [3] (eA6 (eI .i64) a0)]) (aN) ?_
         refine Tn ⟨((wrap64 (vt9_15 + e27)), (wrap64 (vt10_16 + e28)), (wrap64 (vt28_17 + (1 : Int)))), (sI hzB20).symm, wT⟩
     · refine Holds.exit ?_
       refine thenQ.exit ?_
       have hoB20_ := hoB20 _ (sI hzB20).symm
       subst hoB20_
       replace h := sumR h
       refine thenQ.exit ?_
       refine blockQ.out ?_
       refine Tn ⟨(vt9_15, vt10_16), h, wT⟩
   · rintro ⟨vt9_5, vt10_6⟩ hJ7
     replace hJ7 : law08_ManaPays_J7 a1 a2 vt9_5 vt10_6 = some r := hJ7
     unfold law08_ManaPays_J7 at hJ7
     obtain ⟨r8, hr8, hJ7⟩ := bS hJ7
     refine Rg [.a, .a, (.c (vI r8)), .a] (sl 70 [(9, vI vt9_5), (10, vI vt10_6), (12, vI r8)] []) (aC (mana_Value_ok hr8) <| aN) ?_
     obtain ⟨b9, hb9, hJ7⟩ := bS hJ7
     obtain ⟨r10, hr10, hJ7⟩ := bS hJ7
     obtain ⟨b11, hb11, hJ7⟩ := bS hJ7
     refine Rg [.a, .a, .a, .a, .a, .a, .a, .a, (.v (vB b9)), .a, (.c (vB r10)), (.v (vB b11)), .a] (sl 70 [(6, vB b11)] []) (aH ((r8 == (1000000 : Int)) == false) <| aH ((r8 == (1000000 : Int)) == false) <| aF (r8 == (1000000 : Int)) <| aB hb9 <| aC (c0 hr10 law08_alive_ok) <| aT b9 <| aB hb11 <| aN) ?_
     refine Holds.ret ?_
     exact bQ (vB b11) (congrArg vB (sI hJ7))
end Go.PL
