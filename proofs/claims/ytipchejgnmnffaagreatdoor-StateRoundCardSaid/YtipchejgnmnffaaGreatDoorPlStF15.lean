/- Functions of the program, as partial functions in Lean, with proofs. -/
import Derived.Test.YtipchejgnmnffaaGreatDoorPlStB
import Derived.Test.YtipchejgnmnffaaGreatDoorPlStF0
import Derived.Test.YtipchejgnmnffaaGreatDoorPlStF1
import Derived.Test.YtipchejgnmnffaaGreatDoorPlStF10
import Derived.Test.YtipchejgnmnffaaGreatDoorPlStF11
import Derived.Test.YtipchejgnmnffaaGreatDoorPlStF12
import Derived.Test.YtipchejgnmnffaaGreatDoorPlStF13
import Derived.Test.YtipchejgnmnffaaGreatDoorPlStF14
import Derived.Test.YtipchejgnmnffaaGreatDoorPlStF3
import Derived.Test.YtipchejgnmnffaaGreatDoorPlStF7
import Derived.Test.YtipchejgnmnffaaGreatDoorPlStF9
namespace Go.PL
open Go Go.RowKit Go.Proofs
set_option maxRecDepth 100000
set_option linter.all false
set_option maxHeartbeats 1000000
attribute [local irreducible] Holds thenQ blockQ
def law26_StateRound_J13 (r4 : (List (Int))) (p_t4_12 : Int) : Option (Bool) :=
 (idx r4 (0 : Int)).bind fun e14 =>
 (gd ((p_t4_12 == e14) == true) (law26_alive)).bind fun r15 =>
 (some (if (p_t4_12 == e14) = true then r15 else false)).bind fun b16 =>
 some b16
def law26_StateRound_B22 (a0 : SState) (r4 : (List (Int))) (p_t4_19 : Int) (vt32_20 : Int) : Option ((Int × Int) ⊕ (Unit ⊕ Int)) :=
 (if (decide (vt32_20 < (r4.length : Int))) = true then
  (idx r4 vt32_20).bind fun e24 =>
  (gd ((p_t4_19 != e24) == false) (state_Others a0 p_t4_19)).bind fun r25 =>
  (some (if (p_t4_19 != e24) = true then true else (r25.length : Int) != (wrap64 ((r4.length : Int) - (1 : Int))))).bind fun b26 =>
  (if b26 = true then
   some (.inr (.inl ()))
  else
   (state_After a0 p_t4_19).bind fun r28 =>
   some (.inl (r28, (wrap64 (vt32_20 + (1 : Int))))))
 else
  some (.inr (.inr p_t4_19)))
/-- cardgame/cardgamelaw26.StateRound -/
def law26_StateRound (a0 : SState) : Option (Bool) :=
 (law26_light ([] : List (SCard)) a0).bind fun r1 =>
 (if (!r1) = true then
  (law26_alive).bind fun r3 =>
  some r3
 else
  (state_Living a0).bind fun r4 =>
  (if ((r4.length : Int) == (0 : Int)) = true then
   (state_After a0 (0 : Int)).bind fun r6 =>
   (gd ((r6 == (-1 : Int)) == true) (state_Others a0 (0 : Int))).bind fun r7 =>
   (some (if (r6 == (-1 : Int)) = true then (r7.length : Int) == (0 : Int) else false)).bind fun b8 =>
   (gd (b8 == true) (law26_alive)).bind fun r9 =>
   (some (if b8 = true then r9 else false)).bind fun b10 =>
   some b10
  else
   (idx r4 (0 : Int)).bind fun e11 =>
   (iter (fun (v : Int × Int) => law26_StateRound_B22 a0 r4 v.1 v.2) FU (e11, (0 : Int))).bind (Sum.elim (fun o0 => some false) (fun o1 => law26_StateRound_J13 r4 o1))))
def law26_StateRound_C (a0 : SState) (r : Bool) : Prop := PCall Tryz.prog I0 6 [vA encSState a0] (· = vB r)
theorem law26_StateRound_ok {a0 : SState} {r : Bool} (h : law26_StateRound a0 = some r) : law26_StateRound_C a0 r := by
 refine PCall.body I0_stable (by kernel_rfl) Tryz.func6 rfl Tryz.ntmps6 (rs := [.tmp 2]) rfl rfl ?_
 intro w0 av old gv
 unfold law26_StateRound at h
 refine Rg [.a, .a] (sl 63 [(1, vP [1] (0))] [bx [1] (encSState a0)]) (aN) ?_
 refine Holds.seq ?_
 obtain ⟨r1, hr1, h⟩ := bS h
 refine Rg [.a, (.c (vB r1)), .a] (sl 63 [(1, vP [1] (0)), (8, vB (!r1))] [bx [1] (encSState a0)]) (aC (law26_light_ok hr1) <| aN) ?_
 refine iB h (fun b2 h => ?_) (fun b2 h => ?_)
 · obtain ⟨r3, hr3, h⟩ := bS h
   refine Rg [(.c (vB r3)), .a] (sl 63 [(2, vB r3)] []) (aC (law26_alive_ok hr3) <| aN) ?_
   refine Holds.ret ?_
   refine Tr ?_
   exact bQ (vB r3) (congrArg vB (sI h))
 · refine Holds.skip ?_
   refine Tn ?_
   obtain ⟨r4, hr4, h⟩ := bS h
   refine Rg [.a, (.c (vL (eI .i64) r4)), .a] (sl 63 [(1, vP [1] (0)), (3, vL (eI .i64) r4)] [bx [1] (encSState a0)]) (aC (state_Living_ok hr4) <| aN) ?_
   refine Holds.seq ?_
   refine Rg [.a, .a, .a] (sl 63 [(1, vP [1] (0)), (3, vL (eI .i64) r4), (14, vB ((r4.length : Int) == (0 : Int)))] [bx [1] (encSState a0)]) (aN) ?_
   refine iB h (fun b5 h => ?_) (fun b5 h => ?_)
   · obtain ⟨r6, hr6, h⟩ := bS h
     obtain ⟨r7, hr7, h⟩ := bS h
     obtain ⟨b8, hb8, h⟩ := bS h
     obtain ⟨r9, hr9, h⟩ := bS h
     obtain ⟨b10, hb10, h⟩ := bS h
     refine Rg [.a, (.c (vI r6)), .a, .a, .a, (.c (vL (eI .i64) r7)), .a, .a, (.v (vB b8)), .a, (.c (vB r9)), (.v (vB b10)), .a] (sl 63 [(2, vB b10)] []) (aC (state_After_ok hr6) <| aC (c1 hr7 state_Others_ok) <| aG ((r6 == (-1 : Int)) == true) <| aG ((r6 == (-1 : Int)) == true) <| aT (r6 == (-1 : Int)) <| aB hb8 <| aC (c0 hr9 law26_alive_ok) <| aT b8 <| aB hb10 <| aN) ?_
     refine Holds.ret ?_
     refine Tr ?_
     exact bQ (vB b10) (congrArg vB (sI h))
   · refine Holds.skip ?_
     refine Tn ?_
     obtain ⟨e11, he11, h⟩ := bS h
     refine Rg [.a, .a, (.v (vI e11)), .a] (sl 63 [(1, vP [1] (0)), (3, vL (eI .i64) r4), (4, vI e11)] [bx [1] (encSState a0)]) (aC (idx_b he11) <| aC (eld he11 (lenI .i64) 0 1 false (vI e11)) <| aC (Eq.refl (vI e11)) <| aN) ?_
     refine Sj (X := Int) (fun v => (sl 63 [(3, vL (eI .i64) r4), (4, vI v)] [])) (fun v => law26_StateRound_J13 r4 v = some r) ?_ ?_
     · refine Rg [.a, .a, .a] (sl 63 [(1, vP [1] (0)), (3, vL (eI .i64) r4), (4, vI e11), (31, vI (r4.length : Int)), (32, vI (0 : Int))] [bx [1] (encSState a0)]) (aN) ?_
       refine Holds.block ?_
       obtain ⟨oB22, hiB22, h⟩ := bS h
       refine It (fun (v : Int × Int) => (sl 63 [(1, vP [1] (0)), (3, vL (eI .i64) r4), (4, vI v.1), (31, vI (r4.length : Int)), (32, vI v.2)] [bx [1] (encSState a0)])) hiB22 (wT) ?_
       rintro ⟨p_t4_19, vt32_20⟩ zB22 hzB22 hoB22
       replace hzB22 : law26_StateRound_B22 a0 r4 p_t4_19 vt32_20 = some zB22 := hzB22
       unfold law26_StateRound_B22 at hzB22
       refine Rg [.a] (sl 63 [(1, vP [1] (0)), (3, vL (eI .i64) r4), (4, vI p_t4_19), (31, vI (r4.length : Int)), (32, vI vt32_20), (33, vB (decide (vt32_20 < (r4.length : Int))))] [bx [1] (encSState a0)]) (aN) ?_
       refine Holds.seq ?_
       refine iB hzB22 (fun b23 hzB22 => ?_) (fun b23 hzB22 => ?_)
       · refine Holds.skip ?_
         refine Tn ?_
         refine Holds.seq ?_
         refine Holds.block ?_
         refine Rg [.a, .a] (sl 63 [(1, vP [1] (0)), (3, vL (eI .i64) r4), (4, vI p_t4_19), (5, vI vt32_20), (31, vI (r4.length : Int)), (32, vI vt32_20)] [bx [1] (encSState a0)]) (aN) ?_
         refine Holds.seq ?_
         obtain ⟨e24, he24, hzB22⟩ := bS hzB22
         obtain ⟨r25, hr25, hzB22⟩ := bS hzB22
         obtain ⟨b26, hb26, hzB22⟩ := bS hzB22
         refine Rg [.a, .a, .a, .a, (.v (vI e24)), .a, .a, .a, .a, (.c (vL (eI .i64) r25)), .a, .a, .a, .a, .a, (.v (vB b26))] (sl 63 [(1, vP [1] (0)), (3, vL (eI .i64) r4), (4, vI p_t4_19), (31, vI (r4.length : Int)), (32, vI vt32_20), (50, vB b26)] [bx [1] (encSState a0)]) (aC (idx_b he24) <| aC (eld he24 (lenI .i64) 0 1 false (vI e24)) <| aC (Eq.refl (vI e24)) <| aC (c2 hr25 state_Others_ok) <| aG ((p_t4_19 != e24) == false) <| aG ((p_t4_19 != e24) == false) <| aG ((p_t4_19 != e24) == false) <| aH ((p_t4_19 != e24) == false) <| aF (p_t4_19 != e24) <| aB hb26 <| aN) ?_
         refine iB hzB22 (fun b27 hzB22 => ?_) (fun b27 hzB22 => ?_)
         · refine Rg [.a] (sl 63 [(2, vB false)] []) (aN) ?_
           refine Holds.ret ?_
           refine Tr ?_
           refine blockQ.ret ?_
           refine Tr ?_
           have hoB22_ := hoB22 _ (sI hzB22).symm
           subst hoB22_
           replace h := sumL h
           refine Tr ?_
           refine blockQ.ret ?_
           refine Tr ?_
           exact bQ (vB false) (congrArg vB (sI h))
         · refine Holds.skip ?_
           refine Tn ?_
           obtain ⟨r28, hr28, hzB22⟩ := bS hzB22
           refine Re [.a, .a, (.c (vI r28)), .a] (sl 63 [(1, vP [1] (0)), (3, vL (eI .i64) r4), (4, vI r28), (31, vI (r4.length : Int)), (32, vI vt32_20), (50, vB b26), (51, vA encSState a0), (52, vI p_t4_19), (53, vI r28)] [bx [1] (encSState a0)]) (aC (state_After_ok hr28) <| aN) ?_
           refine blockQ.normal ?_
           refine Tn ?_
           refine Re [.a, .a] (sl 63 [(1, vP [1] (0)), (3, vL (eI .i64) r4), (4, vI r28), (31, vI (r4.length : Int)), (32, vI (wrap64 (vt32_20 + (1 : Int)))), (50, vB b26), (51, vA encSState a0), (52, vI p_t4_19), (53, vI r28), (54, vI (wrap64 (vt32_20 + (1 : Int))))] [bx [1] (encSState a0)]) (aN) ?_
           refine Tn ⟨(r28, (wrap64 (vt32_20 + (1 : Int)))), (sI hzB22).symm, wT⟩
       · refine Holds.exit ?_
         refine thenQ.exit ?_
         have hoB22_ := hoB22 _ (sI hzB22).symm
         subst hoB22_
         replace h := sumR h
         refine thenQ.exit ?_
         refine blockQ.out ?_
         refine Tn ⟨p_t4_19, h, wT⟩
     · rintro p_t4_12 hJ13
       replace hJ13 : law26_StateRound_J13 r4 p_t4_12 = some r := hJ13
       unfold law26_StateRound_J13 at hJ13
       obtain ⟨e14, he14, hJ13⟩ := bS hJ13
       obtain ⟨r15, hr15, hJ13⟩ := bS hJ13
       obtain ⟨b16, hb16, hJ13⟩ := bS hJ13
       refine Rg [.a, .a, .a, (.v (vI e14)), .a, .a, (.c (vB r15)), (.v (vB b16)), .a] (sl 63 [(2, vB b16)] []) (aC (idx_b he14) <| aC (eld he14 (lenI .i64) 0 1 false (vI e14)) <| aC (Eq.refl (vI e14)) <| aC (c0 hr15 law26_alive_ok) <| aT (p_t4_12 == e14) <| aB hb16 <| aN) ?_
       refine Holds.ret ?_
       exact bQ (vB b16) (congrArg vB (sI hJ13))
end Go.PL
