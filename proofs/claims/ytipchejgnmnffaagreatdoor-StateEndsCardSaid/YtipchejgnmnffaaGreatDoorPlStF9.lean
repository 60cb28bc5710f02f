/- Functions of the program, as partial functions in Lean, with proofs. -/
import Derived.Test.YtipchejgnmnffaaGreatDoorPlStB
import Derived.Test.YtipchejgnmnffaaGreatDoorPlStF1
import Derived.Test.YtipchejgnmnffaaGreatDoorPlStF3
import Derived.Test.YtipchejgnmnffaaGreatDoorPlStF4
import Derived.Test.YtipchejgnmnffaaGreatDoorPlStF7
import Derived.Test.YtipchejgnmnffaaGreatDoorPlStF8
namespace Go.PL
open Go Go.RowKit Go.Proofs
set_option maxRecDepth 100000
set_option linter.all false
set_option maxHeartbeats 1000000
attribute [local irreducible] Holds thenQ blockQ
def r26_Small_J7  : Option (Bool) :=
 some true
def r26_Small_B10 (a0 : SState) (vt7_9 : Int) : Option ((Int) ⊕ (Unit ⊕ Unit)) :=
 (if (decide (vt7_9 < (a0.Conts.length : Int))) = true then
  (idx a0.Conts vt7_9).bind fun e12 =>
  (gd ((decide ((300 : Int) < (e12.Objects.length : Int))) == false) (idx a0.Conts vt7_9)).bind fun e13 =>
  (gd ((decide ((300 : Int) < (e12.Objects.length : Int))) == false) (r20_Light (⟨(0 : Int), (⟨(0 : Int), (0 : Int), (0 : Int), (0 : Int), (0 : Int), (0 : Int), (0 : Int), [], (0 : Int), (0 : Int), (⟨(0 : Int), (0 : Int)⟩ : SBound), (⟨(0 : Int), (0 : Int)⟩ : SBound), (⟨(0 : Int), (0 : Int)⟩ : SBound)⟩ : SFilter), e13.Mods, (⟨(⟨(0 : Int), (0 : Int), (⟨(0 : Int), (0 : Int), (0 : Int), (0 : Int), (0 : Int)⟩ : A5 (Int))⟩ : SCost), false, false, (0 : Int)⟩ : SPrice), false, (⟨(0 : Int), (0 : Int), (⟨(0 : Int), (0 : Int), (0 : Int), (0 : Int), (0 : Int), (0 : Int), (0 : Int), [], (0 : Int), (0 : Int), (⟨(0 : Int), (0 : Int)⟩ : SBound), (⟨(0 : Int), (0 : Int)⟩ : SBound), (⟨(0 : Int), (0 : Int)⟩ : SBound)⟩ : SFilter)⟩ : STrigger), false, ([] : List (SSpec)), ([] : List (SEffect)), (⟨(0 : Int), (0 : Int), (⟨(0 : Int), (0 : Int), (0 : Int), (0 : Int), (0 : Int), (0 : Int), (0 : Int), [], (0 : Int), (0 : Int), (⟨(0 : Int), (0 : Int)⟩ : SBound), (⟨(0 : Int), (0 : Int)⟩ : SBound), (⟨(0 : Int), (0 : Int)⟩ : SBound)⟩ : SFilter), (0 : Int), (0 : Int), (0 : Int), (0 : Int)⟩ : SReplace)⟩ : SAbility))).bind fun r14 =>
  (some (if (decide ((300 : Int) < (e12.Objects.length : Int))) = true then true else !r14)).bind fun b15 =>
  (if b15 = true then
   some (.inr (.inl ()))
  else
   some (.inl (wrap64 (vt7_9 + (1 : Int)))))
 else
  some (.inr (.inr ())))
def r26_Small_J6 (a0 : SState) : Option (Bool) :=
 (iter (fun (v : Int) => r26_Small_B10 a0 v) FU (0 : Int)).bind (Sum.elim (fun o0 => some false) (fun o1 => r26_Small_J7))
def r26_Small_B19 (a0 : SState) (vt6_18 : Int) : Option ((Int) ⊕ (Unit ⊕ Unit)) :=
 (if (decide (vt6_18 < (a0.Waiting.length : Int))) = true then
  (idx a0.Waiting vt6_18).bind fun e21 =>
  (r20_Light e21.Ability).bind fun r22 =>
  (if (!r22) = true then
   some (.inr (.inl ()))
  else
   some (.inl (wrap64 (vt6_18 + (1 : Int)))))
 else
  some (.inr (.inr ())))
def r26_Small_J5 (a0 : SState) : Option (Bool) :=
 (iter (fun (v : Int) => r26_Small_B19 a0 v) FU (0 : Int)).bind (Sum.elim (fun o0 => some false) (fun o1 => r26_Small_J6 a0))
def r26_Small_B26 (a0 : SState) (vt5_25 : Int) : Option ((Int) ⊕ (Unit ⊕ Unit)) :=
 (if (decide (vt5_25 < (a0.Stack.length : Int))) = true then
  (idx a0.Stack vt5_25).bind fun e28 =>
  (gd ((decide ((20 : Int) < (e28.Targets.length : Int))) == false) (idx a0.Stack vt5_25)).bind fun e29 =>
  (gd ((decide ((20 : Int) < (e28.Targets.length : Int))) == false) (r20_Light e29.Ability)).bind fun r30 =>
  (some (if (decide ((20 : Int) < (e28.Targets.length : Int))) = true then true else !r30)).bind fun b31 =>
  (if b31 = true then
   some (.inr (.inl ()))
  else
   some (.inl (wrap64 (vt5_25 + (1 : Int)))))
 else
  some (.inr (.inr ())))
def r26_Small_J2 (a0 : SState) (vt3_1 : Int) : Option (Bool) :=
 (some (if (decide ((300 : Int) < vt3_1)) = true then true else decide ((10 : Int) < (a0.Players.length : Int)))).bind fun b3 =>
 (if b3 = true then
  some false
 else
  (iter (fun (v : Int) => r26_Small_B26 a0 v) FU (0 : Int)).bind (Sum.elim (fun o0 => some false) (fun o1 => r26_Small_J5 a0)))
def r26_Small_B38 (a0 : SState) (vt3_35 : Int) (vt4_36 : Int) : Option ((Int × Int) ⊕ (Int)) :=
 (some (if (decide (vt4_36 < (a0.Players.length : Int))) = true then decide (vt4_36 < (10 : Int)) else false)).bind fun b39 =>
 (if b39 = true then
  (idx a0.Players vt4_36).bind fun e41 =>
  (idx a0.Players vt4_36).bind fun e42 =>
  (idx a0.Players vt4_36).bind fun e43 =>
  some (.inl ((wrap64 ((wrap64 ((wrap64 (vt3_35 + (e41.Library.length : Int))) + (e42.Hand.length : Int))) + (e43.Graveyard.length : Int))), (wrap64 (vt4_36 + (1 : Int)))))
 else
  some (.inr vt3_35))
/-- cardgame/cardgameref26.Small -/
def r26_Small (a0 : SState) : Option (Bool) :=
 (iter (fun (v : Int × Int) => r26_Small_B38 a0 v.1 v.2) FU ((wrap64 ((wrap64 ((wrap64 ((wrap64 ((wrap64 ((wrap64 ((a0.Objects.length : Int) + (a0.Battlefield.length : Int))) + (a0.Exile.length : Int))) + (a0.Extra.length : Int))) + (wrap64 ((8 : Int) * (a0.Stack.length : Int))))) + (wrap64 ((8 : Int) * (a0.Waiting.length : Int))))) + (wrap64 ((4 : Int) * (a0.Conts.length : Int))))), (0 : Int))).bind (fun o0 => r26_Small_J2 a0 o0)
def r26_Small_C (a0 : SState) (r : Bool) : Prop := PCall Tryz.prog I0 39 [vA encSState a0] (· = vB r)
theorem r26_Small_ok {a0 : SState} {r : Bool} (h : r26_Small a0 = some r) : r26_Small_C a0 r := by
 refine PCall.body I0_stable (by kernel_rfl) Tryz.func39 rfl Tryz.ntmps39 (rs := [.tmp 2]) rfl rfl ?_
 intro w0 av old gv
 unfold r26_Small at h
 refine Rg [.a, .a] (sl 148 [(1, vP [1] (0))] [bx [1] (encSState a0)]) (aN) ?_
 refine Rg [.a, .a, .a, .a, .a, .a, .a, .a, .a, .a, .a, .a, .a, .a, .a, .a, .a, .a, .a, .a, .a, .a, .a, .a, .a, .a, .a, .a, .a, .a, .a] (sl 148 [(1, vP [1] (0)), (3, vI (wrap64 ((wrap64 ((wrap64 ((wrap64 ((wrap64 ((wrap64 ((a0.Objects.length : Int) + (a0.Battlefield.length : Int))) + (a0.Exile.length : Int))) + (a0.Extra.length : Int))) + (wrap64 ((8 : Int) * (a0.Stack.length : Int))))) + (wrap64 ((8 : Int) * (a0.Waiting.length : Int))))) + (wrap64 ((4 : Int) * (a0.Conts.length : Int))))))] [bx [1] (encSState a0)]) (aN) ?_
 refine Sj (X := Int) (fun v => (sl 148 [(1, vP [1] (0)), (3, vI v)] [bx [1] (encSState a0)])) (fun v => r26_Small_J2 a0 v = some r) ?_ ?_
 · refine Rg [.a] (sl 148 [(1, vP [1] (0)), (3, vI (wrap64 ((wrap64 ((wrap64 ((wrap64 ((wrap64 ((wrap64 ((a0.Objects.length : Int) + (a0.Battlefield.length : Int))) + (a0.Exile.length : Int))) + (a0.Extra.length : Int))) + (wrap64 ((8 : Int) * (a0.Stack.length : Int))))) + (wrap64 ((8 : Int) * (a0.Waiting.length : Int))))) + (wrap64 ((4 : Int) * (a0.Conts.length : Int)))))), (4, vI (0 : Int))] [bx [1] (encSState a0)]) (aN) ?_
   refine Holds.block ?_
   obtain ⟨oB38, hiB38, h⟩ := bS h
   refine It (fun (v : Int × Int) => (sl 148 [(1, vP [1] (0)), (3, vI v.1), (4, vI v.2)] [bx [1] (encSState a0)])) hiB38 (wT) ?_
   rintro ⟨vt3_35, vt4_36⟩ zB38 hzB38 hoB38
   replace hzB38 : r26_Small_B38 a0 vt3_35 vt4_36 = some zB38 := hzB38
   unfold r26_Small_B38 at hzB38
   refine Holds.seq ?_
   obtain ⟨b39, hb39, hzB38⟩ := bS hzB38
   refine Rg [.a, .a, .a, .a, .a, .a, .a, .a, (.v (vB b39))] (sl 148 [(1, vP [1] (0)), (3, vI vt3_35), (4, vI vt4_36), (46, vB b39)] [bx [1] (encSState a0)]) (aG ((decide (vt4_36 < (a0.Players.length : Int))) == true) <| aT (decide (vt4_36 < (a0.Players.length : Int))) <| aB hb39 <| aN) ?_
   refine iB hzB38 (fun b40 hzB38 => ?_) (fun b40 hzB38 => ?_)
   · refine Holds.skip ?_
     refine Tn ?_
     refine Holds.seq ?_
     refine Holds.block ?_
     obtain ⟨e41, he41, hzB38⟩ := bS hzB38
     obtain ⟨e42, he42, hzB38⟩ := bS hzB38
     obtain ⟨e43, he43, hzB38⟩ := bS hzB38
     refine Rf followsP [.a, .a, .a, .a, .a, .a, (.v (vL (eI .i64) e41.Library)), .a, .a, .a, .a, .a, .a, .a, (.v (vL (eI .i64) e42.Hand)), .a, .a, .a, .a, .a, .a, .a, (.v (vL (eI .i64) e43.Graveyard)), .a, .a, .a] (sl 148 [(1, vP [1] (0)), (3, vI (wrap64 ((wrap64 ((wrap64 (vt3_35 + (e41.Library.length : Int))) + (e42.Hand.length : Int))) + (e43.Graveyard.length : Int)))), (4, vI vt4_36), (46, vB b39), (49, vI vt3_35), (50, vP [1] (0)), (51, vL encSPlayer a0.Players), (52, vI vt4_36), (53, vX encSPlayer a0.Players ((vt4_36).toNat * 14)), (54, vX encSPlayer a0.Players ((vt4_36).toNat * 14 + 11)), (55, vL (eI .i64) e41.Library), (56, vI (e41.Library.length : Int)), (57, vI (wrap64 (vt3_35 + (e41.Library.length : Int)))), (58, vP [1] (0)), (59, vL encSPlayer a0.Players), (60, vI vt4_36), (61, vX encSPlayer a0.Players ((vt4_36).toNat * 14)), (62, vX encSPlayer a0.Players ((vt4_36).toNat * 14 + 12)), (63, vL (eI .i64) e42.Hand), (64, vI (e42.Hand.length : Int)), (65, vI (wrap64 ((wrap64 (vt3_35 + (e41.Library.length : Int))) + (e42.Hand.length : Int)))), (66, vP [1] (0)), (67, vL encSPlayer a0.Players), (68, vI vt4_36), (69, vX encSPlayer a0.Players ((vt4_36).toNat * 14)), (70, vX encSPlayer a0.Players ((vt4_36).toNat * 14 + 13)), (71, vL (eI .i64) e43.Graveyard), (72, vI (e43.Graveyard.length : Int)), (73, vI (wrap64 ((wrap64 ((wrap64 (vt3_35 + (e41.Library.length : Int))) + (e42.Hand.length : Int))) + (e43.Graveyard.length : Int))))] [bx [1] (encSState a0)]) (aC (idx_b he41) <| aC (eld he41 lenSPlayer 11 1 false (vL (eI .i64) e41.Library)) <| aC (Eq.refl (vL (eI .i64) e41.Library)) <| aC (idx_b he42) <| aC (eld he42 lenSPlayer 12 1 false (vL (eI .i64) e42.Hand)) <| aC (Eq.refl (vL (eI .i64) e42.Hand)) <| aC (idx_b he43) <| aC (eld he43 lenSPlayer 13 1 false (vL (eI .i64) e43.Graveyard)) <| aC (Eq.refl (vL (eI .i64) e43.Graveyard)) <| aN) ?_
     refine blockQ.normal ?_
     refine Tn ?_
     refine Re [.a, .a, .a] (sl 148 [(1, vP [1] (0)), (3, vI (wrap64 ((wrap64 ((wrap64 (vt3_35 + (e41.Library.length : Int))) + (e42.Hand.length : Int))) + (e43.Graveyard.length : Int)))), (4, vI (wrap64 (vt4_36 + (1 : Int)))), (46, vB b39), (47, vI vt4_36), (48, vI (wrap64 (vt4_36 + (1 : Int)))), (49, vI vt3_35), (50, vP [1] (0)), (51, vL encSPlayer a0.Players), (52, vI vt4_36), (53, vX encSPlayer a0.Players ((vt4_36).toNat * 14)), (54, vX encSPlayer a0.Players ((vt4_36).toNat * 14 + 11)), (55, vL (eI .i64) e41.Library), (56, vI (e41.Library.length : Int)), (57, vI (wrap64 (vt3_35 + (e41.Library.length : Int)))), (58, vP [1] (0)), (59, vL encSPlayer a0.Players), (60, vI vt4_36), (61, vX encSPlayer a0.Players ((vt4_36).toNat * 14)), (62, vX encSPlayer a0.Players ((vt4_36).toNat * 14 + 12)), (63, vL (eI .i64) e42.Hand), (64, vI (e42.Hand.length : Int)), (65, vI (wrap64 ((wrap64 (vt3_35 + (e41.Library.length : Int))) + (e42.Hand.length : Int)))), (66, vP [1] (0)), (67, vL encSPlayer a0.Players), (68, vI vt4_36), (69, vX encSPlayer a0.Players ((vt4_36).toNat * 14)), (70, vX encSPlayer a0.Players ((vt4_36).toNat * 14 + 13)), (71, vL (eI .i64) e43.Graveyard), (72, vI (e43.Graveyard.length : Int)), (73, vI (wrap64 ((wrap64 ((wrap64 (vt3_35 + (e41.Library.length : Int))) + (e42.Hand.length : Int))) + (e43.Graveyard.length : Int))))] [bx [1] (encSState a0)]) (aN) ?_
     refine Tn ⟨((wrap64 ((wrap64 ((wrap64 (vt3_35 + (e41.Library.length : Int))) + (e42.Hand.length : Int))) + (e43.Graveyard.length : Int))), (wrap64 (vt4_36 + (1 : Int)))), (sI hzB38).symm, wT⟩
   · refine Holds.exit ?_
     refine thenQ.exit ?_
     have hoB38_ := hoB38 _ (sI hzB38).symm
     subst hoB38_
     refine thenQ.exit ?_
     refine blockQ.out ?_
     refine Tn ⟨vt3_35, h, wT⟩
 · rintro vt3_1 hJ2
   replace hJ2 : r26_Small_J2 a0 vt3_1 = some r := hJ2
   unfold r26_Small_J2 at hJ2
   refine Holds.seq ?_
   obtain ⟨b3, hb3, hJ2⟩ := bS hJ2
   refine Rg [.a, .a, .a, .a, .a, .a, .a, (.v (vB b3))] (sl 148 [(1, vP [1] (0)), (81, vB b3)] [bx [1] (encSState a0)]) (aG ((decide ((300 : Int) < vt3_1)) == false) <| aG ((decide ((300 : Int) < vt3_1)) == false) <| aG ((decide ((300 : Int) < vt3_1)) == false) <| aF (decide ((300 : Int) < vt3_1)) <| aB hb3 <| aN) ?_
   refine iB hJ2 (fun b4 hJ2 => ?_) (fun b4 hJ2 => ?_)
   · refine Rg [.a] (sl 148 [(2, vB false)] []) (aN) ?_
     refine Holds.ret ?_
     refine Tr ?_
     exact bQ (vB false) (congrArg vB (sI hJ2))
   · refine Holds.skip ?_
     refine Tn ?_
     refine Sj (X := Unit) (fun v => (sl 148 [(1, vP [1] (0))] [bx [1] (encSState a0)])) (fun v => r26_Small_J5 a0 = some r) ?_ ?_
     · refine Rg [.a] (sl 148 [(1, vP [1] (0)), (5, vI (0 : Int))] [bx [1] (encSState a0)]) (aN) ?_
       refine Holds.block ?_
       obtain ⟨oB26, hiB26, hJ2⟩ := bS hJ2
       refine It (fun (v : Int) => (sl 148 [(1, vP [1] (0)), (5, vI v)] [bx [1] (encSState a0)])) hiB26 (wT) ?_
       rintro vt5_25 zB26 hzB26 hoB26
       replace hzB26 : r26_Small_B26 a0 vt5_25 = some zB26 := hzB26
       unfold r26_Small_B26 at hzB26
       refine Holds.seq ?_
       refine Rg [.a, .a, .a, .a, .a] (sl 148 [(1, vP [1] (0)), (5, vI vt5_25), (86, vB (decide (vt5_25 < (a0.Stack.length : Int))))] [bx [1] (encSState a0)]) (aN) ?_
       refine iB hzB26 (fun b27 hzB26 => ?_) (fun b27 hzB26 => ?_)
       · refine Holds.skip ?_
         refine Tn ?_
         refine Holds.seq ?_
         refine Holds.block ?_
         obtain ⟨e28, he28, hzB26⟩ := bS hzB26
         obtain ⟨e29, he29, hzB26⟩ := bS hzB26
         obtain ⟨r30, hr30, hzB26⟩ := bS hzB26
         obtain ⟨b31, hb31, hzB26⟩ := bS hzB26
         refine Rg [.a, .a, .a, .a, .a, (.v (vL encSTarget e28.Targets)), .a, .a, .a, .a, .a, .a, .a, .a, (.v (vA encSAbility e29.Ability)), (.c (vB r30)), .a, (.v (vB b31))] (sl 148 [(1, vP [1] (0)), (5, vI vt5_25), (106, vB b31)] [bx [1] (encSState a0)]) (aC (idx_b he28) <| aC (eld he28 lenSItem 78 1 false (vL encSTarget e28.Targets)) <| aC (Eq.refl (vL encSTarget e28.Targets)) <| aG ((decide ((20 : Int) < (e28.Targets.length : Int))) == false) <| aC (fun hg : ((decide ((20 : Int) < (e28.Targets.length : Int))) == false) = true => aC (gi ((decide ((20 : Int) < (e28.Targets.length : Int))) == false)) <| aC (gi ((decide ((20 : Int) < (e28.Targets.length : Int))) == false)) <| aC (gidx_b he29 hg).1 <| aN) <| aG ((decide ((20 : Int) < (e28.Targets.length : Int))) == false) <| aC (fun hg : ((decide ((20 : Int) < (e28.Targets.length : Int))) == false) = true => aC (gi ((decide ((20 : Int) < (e28.Targets.length : Int))) == false)) <| aC (eld (gd_t he29 hg) lenSItem 6 72 true (vA encSAbility e29.Ability)) <| aC (Eq.refl (vA encSAbility e29.Ability)) <| aN) <| aC (c1 hr30 r20_Light_ok) <| aG ((decide ((20 : Int) < (e28.Targets.length : Int))) == false) <| aF (decide ((20 : Int) < (e28.Targets.length : Int))) <| aB hb31 <| aN) ?_
         refine iB hzB26 (fun b32 hzB26 => ?_) (fun b32 hzB26 => ?_)
         · refine Rg [.a] (sl 148 [(2, vB false)] []) (aN) ?_
           refine Holds.ret ?_
           refine blockQ.ret ?_
           refine Tr ?_
           have hoB26_ := hoB26 _ (sI hzB26).symm
           subst hoB26_
           replace hJ2 := sumL hJ2
           refine Tr ?_
           refine blockQ.ret ?_
           refine Tr ?_
           exact bQ (vB false) (congrArg vB (sI hJ2))
         · refine Holds.skip ?_
           refine blockQ.normal ?_
           refine Tn ?_
           refine Re [.a, .a, .a] (sl 148 [(1, vP [1] (0)), (5, vI (wrap64 (vt5_25 + (1 : Int)))), (87, vI vt5_25), (88, vI (wrap64 (vt5_25 + (1 : Int)))), (106, vB b31)] [bx [1] (encSState a0)]) (aN) ?_
           refine Tn ⟨(wrap64 (vt5_25 + (1 : Int))), (sI hzB26).symm, wT⟩
       · refine Holds.exit ?_
         refine thenQ.exit ?_
         have hoB26_ := hoB26 _ (sI hzB26).symm
         subst hoB26_
         replace hJ2 := sumR hJ2
         refine thenQ.exit ?_
         refine blockQ.out ?_
         refine Tn ⟨(), hJ2, wT⟩
     · rintro _ hJ5
       replace hJ5 : r26_Small_J5 a0 = some r := hJ5
       unfold r26_Small_J5 at hJ5
       refine Sj (X := Unit) (fun v => (sl 148 [(1, vP [1] (0))] [bx [1] (encSState a0)])) (fun v => r26_Small_J6 a0 = some r) ?_ ?_
       · refine Rg [.a] (sl 148 [(1, vP [1] (0)), (6, vI (0 : Int))] [bx [1] (encSState a0)]) (aN) ?_
         refine Holds.block ?_
         obtain ⟨oB19, hiB19, hJ5⟩ := bS hJ5
         refine It (fun (v : Int) => (sl 148 [(1, vP [1] (0)), (6, vI v)] [bx [1] (encSState a0)])) hiB19 (wT) ?_
         rintro vt6_18 zB19 hzB19 hoB19
         replace hzB19 : r26_Small_B19 a0 vt6_18 = some zB19 := hzB19
         unfold r26_Small_B19 at hzB19
         refine Holds.seq ?_
         refine Rg [.a, .a, .a, .a, .a] (sl 148 [(1, vP [1] (0)), (6, vI vt6_18), (111, vB (decide (vt6_18 < (a0.Waiting.length : Int))))] [bx [1] (encSState a0)]) (aN) ?_
         refine iB hzB19 (fun b20 hzB19 => ?_) (fun b20 hzB19 => ?_)
         · refine Holds.skip ?_
           refine Tn ?_
           refine Holds.seq ?_
           refine Holds.block ?_
           obtain ⟨e21, he21, hzB19⟩ := bS hzB19
           obtain ⟨r22, hr22, hzB19⟩ := bS hzB19
           refine Rg [.a, .a, .a, .a, .a, (.v (vA encSAbility e21.Ability)), (.c (vB r22)), .a] (sl 148 [(1, vP [1] (0)), (6, vI vt6_18), (121, vB (!r22))] [bx [1] (encSState a0)]) (aC (idx_b he21) <| aC (eld he21 lenSWaiting 2 72 true (vA encSAbility e21.Ability)) <| aC (Eq.refl (vA encSAbility e21.Ability)) <| aC (r20_Light_ok hr22) <| aN) ?_
           refine iB hzB19 (fun b23 hzB19 => ?_) (fun b23 hzB19 => ?_)
           · refine Rg [.a] (sl 148 [(2, vB false)] []) (aN) ?_
             refine Holds.ret ?_
             refine blockQ.ret ?_
             refine Tr ?_
             have hoB19_ := hoB19 _ (sI hzB19).symm
             subst hoB19_
             replace hJ5 := sumL hJ5
             refine Tr ?_
             refine blockQ.ret ?_
             refine Tr ?_
             exact bQ (vB false) (congrArg vB (sI hJ5))
           · refine Holds.skip ?_
             refine blockQ.normal ?_
             refine Tn ?_
             refine Re [.a, .a, .a] (sl 148 [(1, vP [1] (0)), (6, vI (wrap64 (vt6_18 + (1 : Int)))), (112, vI vt6_18), (113, vI (wrap64 (vt6_18 + (1 : Int)))), (121, vB (!r22))] [bx [1] (encSState a0)]) (aN) ?_
             refine Tn ⟨(wrap64 (vt6_18 + (1 : Int))), (sI hzB19).symm, wT⟩
         · refine Holds.exit ?_
           refine thenQ.exit ?_
           have hoB19_ := hoB19 _ (sI hzB19).symm
           subst hoB19_
           replace hJ5 := sumR hJ5
           refine thenQ.exit ?_
           refine blockQ.out ?_
           refine Tn ⟨(), hJ5, wT⟩
       · rintro _ hJ6
         replace hJ6 : r26_Small_J6 a0 = some r := hJ6
         unfold r26_Small_J6 at hJ6
         refine Sj (X := Unit) (fun v => (sl 148 [] [])) (fun v => r26_Small_J7 = some r) ?_ ?_
         · refine Rg [.a] (sl 148 [(1, vP [1] (0)), (7, vI (0 : Int))] [bx [1] (encSState a0)]) (aN) ?_
           refine Holds.block ?_
           obtain ⟨oB10, hiB10, hJ6⟩ := bS hJ6
           refine It (fun (v : Int) => (sl 148 [(1, vP [1] (0)), (7, vI v)] [bx [1] (encSState a0)])) hiB10 (wT) ?_
           rintro vt7_9 zB10 hzB10 hoB10
           replace hzB10 : r26_Small_B10 a0 vt7_9 = some zB10 := hzB10
           unfold r26_Small_B10 at hzB10
           refine Holds.seq ?_
           refine Rg [.a, .a, .a, .a, .a] (sl 148 [(1, vP [1] (0)), (7, vI vt7_9), (126, vB (decide (vt7_9 < (a0.Conts.length : Int))))] [bx [1] (encSState a0)]) (aN) ?_
           refine iB hzB10 (fun b11 hzB10 => ?_) (fun b11 hzB10 => ?_)
           · refine Holds.skip ?_
             refine Tn ?_
             refine Holds.seq ?_
             refine Holds.block ?_
             obtain ⟨e12, he12, hzB10⟩ := bS hzB10
             obtain ⟨e13, he13, hzB10⟩ := bS hzB10
             obtain ⟨r14, hr14, hzB10⟩ := bS hzB10
             obtain ⟨b15, hb15, hzB10⟩ := bS hzB10
             refine Rg [.a, .a, .a, .a, .a, (.v (vL (eI .i64) e12.Objects)), .a, .a, .a, .a, .a, .a, .a, .a, (.v (vL encSMod e13.Mods)), .a, (.c (vB r14)), .a, (.v (vB b15))] (sl 148 [(1, vP [1] (0)), (7, vI vt7_9), (147, vB b15)] [bx [1] (encSState a0)]) (aC (idx_b he12) <| aC (eld he12 lenSCont 4 1 false (vL (eI .i64) e12.Objects)) <| aC (Eq.refl (vL (eI .i64) e12.Objects)) <| aG ((decide ((300 : Int) < (e12.Objects.length : Int))) == false) <| aC (fun hg : ((decide ((300 : Int) < (e12.Objects.length : Int))) == false) = true => aC (gi ((decide ((300 : Int) < (e12.Objects.length : Int))) == false)) <| aC (gi ((decide ((300 : Int) < (e12.Objects.length : Int))) == false)) <| aC (gidx_b he13 hg).1 <| aN) <| aG ((decide ((300 : Int) < (e12.Objects.length : Int))) == false) <| aC (fun hg : ((decide ((300 : Int) < (e12.Objects.length : Int))) == false) = true => aC (gi ((decide ((300 : Int) < (e12.Objects.length : Int))) == false)) <| aC (eld (gd_t he13 hg) lenSCont 5 1 false (vL encSMod e13.Mods)) <| aC (Eq.refl (vL encSMod e13.Mods)) <| aN) <| aC (fun hg : ((decide ((300 : Int) < (e12.Objects.length : Int))) == false) = true => aC (And.intro (show (((decide ((300 : Int) < (e12.Objects.length : Int))) == false) = true → ((decide ((300 : Int) < (e12.Objects.length : Int))) == false) = true) ∧ True from ⟨id, trivial⟩) okp76) <| aN) <| aC (c1 hr14 r20_Light_ok) <| aG ((decide ((300 : Int) < (e12.Objects.length : Int))) == false) <| aF (decide ((300 : Int) < (e12.Objects.length : Int))) <| aB hb15 <| aN) ?_
             refine iB hzB10 (fun b16 hzB10 => ?_) (fun b16 hzB10 => ?_)
             · refine Rg [.a] (sl 148 [(2, vB false)] []) (aN) ?_
               refine Holds.ret ?_
               refine blockQ.ret ?_
               refine Tr ?_
               have hoB10_ := hoB10 _ (sI hzB10).symm
               subst hoB10_
               replace hJ6 := sumL hJ6
               refine Tr ?_
               refine blockQ.ret ?_
               refine Tr ?_
               exact bQ (vB false) (congrArg vB (sI hJ6))
             · refine Holds.skip ?_
               refine blockQ.normal ?_
               refine Tn ?_
               refine Re [.a, .a, .a] (sl 148 [(1, vP [1] (0)), (7, vI (wrap64 (vt7_9 + (1 : Int)))), (127, vI vt7_9), (128, vI (wrap64 (vt7_9 + (1 : Int)))), (147, vB b15)] [bx [1] (encSState a0)]) (aN) ?_
               refine Tn ⟨(wrap64 (vt7_9 + (1 : Int))), (sI hzB10).symm, wT⟩
           · refine Holds.exit ?_
             refine thenQ.exit ?_
             have hoB10_ := hoB10 _ (sI hzB10).symm
             subst hoB10_
             replace hJ6 := sumR hJ6
             refine thenQ.exit ?_
             refine blockQ.out ?_
             refine Tn ⟨(), hJ6, wT⟩
         · rintro _ hJ7
           replace hJ7 : r26_Small_J7 = some r := hJ7
           unfold r26_Small_J7 at hJ7
           refine Rg [.a] (sl 148 [(2, vB true)] []) (aN) ?_
           refine Holds.ret ?_
           exact bQ (vB true) (congrArg vB (sI hJ7))
/-- cardgame/state.each[cardgame/api.Effect] -/
def state_each_api_Effect_state_sameEffect (a0 : List (SEffect)) (a1 : List (SEffect)) : Option (Bool) :=
 (slices_EqualFunc_api_Effect_api_Effect_api_Effect_api_Effect_state_sameEffect a0 a1).bind fun r1 =>
 some r1
def state_each_api_Effect_state_sameEffect_C (a0 : List (SEffect)) (a1 : List (SEffect)) (r : Bool) : Prop := PCall Tryz.prog I0 108 [vL encSEffect a0, vL encSEffect a1, .c (.fn 109)] (· = vB r)
theorem state_each_api_Effect_state_sameEffect_ok {a0 : List (SEffect)} {a1 : List (SEffect)} {r : Bool} (h : state_each_api_Effect_state_sameEffect a0 a1 = some r) : state_each_api_Effect_state_sameEffect_C a0 a1 r := by
 refine PCall.body I0_stable (by kernel_rfl) Tryz.func108 rfl Tryz.ntmps108 (rs := [.tmp 6]) rfl rfl ?_
 intro w0 av old gv
 unfold state_each_api_Effect_state_sameEffect at h
 refine Rg [.a] (sl 11 [(0, vL encSEffect a0), (1, vL encSEffect a1), (2, .c (.fn 109))] []) (aN) ?_
 obtain ⟨r1, hr1, h⟩ := bS h
 refine Rg [.a, .a, .a, (.c (vB r1)), .a] (sl 11 [(6, vB r1)] []) (aC (slices_EqualFunc_api_Effect_api_Effect_api_Effect_api_Effect_state_sameEffect_ok hr1) <| aN) ?_
 refine Holds.ret ?_
 exact bQ (vB r1) (congrArg vB (sI h))
/-- cardgame/state.each[cardgame/api.Cont] -/
def state_each_api_Cont_state_sameCont (a0 : List (SCont)) (a1 : List (SCont)) : Option (Bool) :=
 (slices_EqualFunc_api_Cont_api_Cont_api_Cont_api_Cont_state_sameCont a0 a1).bind fun r1 =>
 some r1
def state_each_api_Cont_state_sameCont_C (a0 : List (SCont)) (a1 : List (SCont)) (r : Bool) : Prop := PCall Tryz.prog I0 49 [vL encSCont a0, vL encSCont a1, .c (.fn 50)] (· = vB r)
theorem state_each_api_Cont_state_sameCont_ok {a0 : List (SCont)} {a1 : List (SCont)} {r : Bool} (h : state_each_api_Cont_state_sameCont a0 a1 = some r) : state_each_api_Cont_state_sameCont_C a0 a1 r := by
 refine PCall.body I0_stable (by kernel_rfl) Tryz.func49 rfl Tryz.ntmps49 (rs := [.tmp 6]) rfl rfl ?_
 intro w0 av old gv
 unfold state_each_api_Cont_state_sameCont at h
 refine Rg [.a] (sl 11 [(0, vL encSCont a0), (1, vL encSCont a1), (2, .c (.fn 50))] []) (aN) ?_
 obtain ⟨r1, hr1, h⟩ := bS h
 refine Rg [.a, .a, .a, (.c (vB r1)), .a] (sl 11 [(6, vB r1)] []) (aC (slices_EqualFunc_api_Cont_api_Cont_api_Cont_api_Cont_state_sameCont_ok hr1) <| aN) ?_
 refine Holds.ret ?_
 exact bQ (vB r1) (congrArg vB (sI h))
/-- cardgame/state.After -/
def state_After (a0 : SState) (a1 : Int) : Option (Int) :=
 (state_Others a0 a1).bind fun r1 =>
 (if (decide ((0 : Int) < (r1.length : Int))) = true then
  (idx r1 (0 : Int)).bind fun e3 =>
  some e3
 else
  (some (if (decide ((0 : Int) ≤ a1)) = true then decide (a1 < (a0.Players.length : Int)) else false)).bind fun b4 =>
  (gd (b4 == true) (idx a0.Players a1)).bind fun e5 =>
  (some (if b4 = true then !e5.Lost else false)).bind fun b6 =>
  (if b6 = true then
   some a1
  else
   some (-1 : Int)))
def state_After_C (a0 : SState) (a1 : Int) (r : Int) : Prop := PCall Tryz.prog I0 19 [vA encSState a0, vI a1] (· = vI r)
theorem state_After_ok {a0 : SState} {a1 : Int} {r : Int} (h : state_After a0 a1 = some r) : state_After_C a0 a1 r := by
 refine PCall.body I0_stable (by kernel_rfl) Tryz.func19 rfl Tryz.ntmps19 (rs := [.tmp 4]) rfl rfl ?_
 intro w0 av old gv
 unfold state_After at h
 refine Rg [.a, .a] (sl 34 [(1, vI a1), (2, vP [2] (0))] [bx [2] (encSState a0)]) (aN) ?_
 refine Holds.seq ?_
 obtain ⟨r1, hr1, h⟩ := bS h
 refine Rg [.a, .a, (.c (vL (eI .i64) r1)), .a] (sl 34 [(1, vI a1), (2, vP [2] (0)), (5, vL (eI .i64) r1)] [bx [2] (encSState a0)]) (aC (state_Others_ok hr1) <| aN) ?_
 refine Rg [.a, .a, .a] (sl 34 [(1, vI a1), (2, vP [2] (0)), (5, vL (eI .i64) r1), (11, vB (decide ((0 : Int) < (r1.length : Int))))] [bx [2] (encSState a0)]) (aN) ?_
 refine iB h (fun b2 h => ?_) (fun b2 h => ?_)
 · obtain ⟨e3, he3, h⟩ := bS h
   refine Rg [.a, .a, (.v (vI e3)), .a] (sl 34 [(4, vI e3)] []) (aC (idx_b he3) <| aC (eld he3 (lenI .i64) 0 1 false (vI e3)) <| aC (Eq.refl (vI e3)) <| aN) ?_
   refine Holds.ret ?_
   refine Tr ?_
   exact bQ (vI e3) (congrArg vI (sI h))
 · refine Holds.skip ?_
   refine Tn ?_
   refine Holds.seq ?_
   obtain ⟨b4, hb4, h⟩ := bS h
   obtain ⟨e5, he5, h⟩ := bS h
   obtain ⟨b6, hb6, h⟩ := bS h
   refine Rg [.a, .a, .a, .a, .a, .a, .a, .a, (.v (vB b4)), .a, .a, .a, .a, .a, .a, (.v (vB e5.Lost)), .a, (.v (vB b6))] (sl 34 [(1, vI a1), (32, vB b6)] []) (aG ((decide ((0 : Int) ≤ a1)) == true) <| aG ((decide ((0 : Int) ≤ a1)) == true) <| aH ((decide ((0 : Int) ≤ a1)) == true) <| aT (decide ((0 : Int) ≤ a1)) <| aB hb4 <| aG (b4 == true) <| aC (fun hg : (b4 == true) = true => aC (gi (b4 == true)) <| aC (gi (b4 == true)) <| aC (gidx_b he5 hg).1 <| aN) <| aG (b4 == true) <| aC (fun hg : (b4 == true) = true => aC (gi (b4 == true)) <| aC (eld (gd_t he5 hg) lenSPlayer 10 1 false (vB e5.Lost)) <| aC (Eq.refl (vB e5.Lost)) <| aN) <| aG (b4 == true) <| aT b4 <| aB hb6 <| aN) ?_
   refine iB h (fun b7 h => ?_) (fun b7 h => ?_)
   · refine Rg [.a, .a] (sl 34 [(4, vI a1)] []) (aN) ?_
     refine Holds.ret ?_
     refine Tr ?_
     exact bQ (vI a1) (congrArg vI (sI h))
   · refine Holds.skip ?_
     refine Tn ?_
     refine Rg [.a] (sl 34 [(4, vI (-1 : Int))] []) (aN) ?_
     refine Holds.ret ?_
     exact bQ (vI (-1 : Int)) (congrArg vI (sI h))
def state_Wins_J3  (b5_2 : SState) : Option (SState) :=
 some b5_2
/-- cardgame/state.Wins -/
def state_Wins (a0 : SState) (a1 : Int) : Option (SState) :=
 (zone_Copy a0).bind fun r1 =>
 (some (if (r1.Over == (0 : Int)) = true then decide ((0 : Int) ≤ a1) else false)).bind fun b4 =>
 (some (if b4 = true then decide (a1 < (r1.Players.length : Int)) else false)).bind fun b5 =>
 (if b5 = true then
  state_Wins_J3 ({ { r1 with Over := (1 : Int) } with Winner := a1 })
 else
  state_Wins_J3 r1)
def state_Wins_C (a0 : SState) (a1 : Int) (r : SState) : Prop := PCall Tryz.prog I0 23 [vA encSState a0, vI a1] (· = vA encSState r)
theorem state_Wins_ok {a0 : SState} {a1 : Int} {r : SState} (h : state_Wins a0 a1 = some r) : state_Wins_C a0 a1 r := by
 refine PCall.body I0_stable (by kernel_rfl) Tryz.func23 rfl Tryz.ntmps23 (rs := [.cell 4 33]) rfl rfl ?_
 intro w0 av old gv
 unfold state_Wins at h
 refine Rg [.a, .a] (sl 26 [(1, vI a1), (2, vP [2] (0)), (4, vP [4] (0))] [bx [4] [.nils, .nils, .nils, .nils, .nils, .nils, .nils, .int .i64 (0 : Int), .int .i64 (0 : Int), .int .i64 (0 : Int), .bool false, .int .i64 (0 : Int), .int .i64 (0 : Int), .int .i64 (0 : Int), .int .i64 (0 : Int), .int .u64 (0 : Int), .nils, .int .i64 (0 : Int), .int .i64 (0 : Int)], bx [2] (encSState a0)]) (aN) ?_
 obtain ⟨r1, hr1, h⟩ := bS h
 refine Rg [.a, (.c (vA encSState r1)), .a, .a] (sl 26 [(1, vI a1), (4, vP [4] (0)), (5, vP [5] (0))] [bx [5] (encSState r1), bx [4] [.nils, .nils, .nils, .nils, .nils, .nils, .nils, .int .i64 (0 : Int), .int .i64 (0 : Int), .int .i64 (0 : Int), .bool false, .int .i64 (0 : Int), .int .i64 (0 : Int), .int .i64 (0 : Int), .int .i64 (0 : Int), .int .u64 (0 : Int), .nils, .int .i64 (0 : Int), .int .i64 (0 : Int)]]) (aC (zone_Copy_ok hr1) <| aN) ?_
 refine Sj (X := SState) (fun v => (sl 26 [(4, vP [4] (0)), (5, vP [5] (0))] [bx [5] (encSState v), bx [4] [.nils, .nils, .nils, .nils, .nils, .nils, .nils, .int .i64 (0 : Int), .int .i64 (0 : Int), .int .i64 (0 : Int), .bool false, .int .i64 (0 : Int), .int .i64 (0 : Int), .int .i64 (0 : Int), .int .i64 (0 : Int), .int .u64 (0 : Int), .nils, .int .i64 (0 : Int), .int .i64 (0 : Int)]])) (fun v => state_Wins_J3 v = some r) ?_ ?_
 · obtain ⟨b4, hb4, h⟩ := bS h
   obtain ⟨b5, hb5, h⟩ := bS h
   refine Rg [.a, .a, .a, .a, .a, .a, (.v (vB b4)), .a, .a, .a, .a, .a, .a, (.v (vB b5))] (sl 26 [(1, vI a1), (4, vP [4] (0)), (5, vP [5] (0)), (21, vB b5)] [bx [5] (encSState r1), bx [4] [.nils, .nils, .nils, .nils, .nils, .nils, .nils, .int .i64 (0 : Int), .int .i64 (0 : Int), .int .i64 (0 : Int), .bool false, .int .i64 (0 : Int), .int .i64 (0 : Int), .int .i64 (0 : Int), .int .i64 (0 : Int), .int .u64 (0 : Int), .nils, .int .i64 (0 : Int), .int .i64 (0 : Int)]]) (aG ((r1.Over == (0 : Int)) == true) <| aT (r1.Over == (0 : Int)) <| aB hb4 <| aG (b4 == true) <| aG (b4 == true) <| aH (b4 == true) <| aT b4 <| aB hb5 <| aN) ?_
   refine iB h (fun b6 h => ?_) (fun b6 h => ?_)
   · refine Re [.a, .a, .a, .a, .a] (sl 26 [(1, vI a1), (4, vP [4] (0)), (5, vP [5] (0)), (21, vB b5), (22, vI a1), (23, vP [5] (17)), (24, vP [5] (18))] [bx [5] (encSState ({ { r1 with Over := (1 : Int) } with Winner := a1 })), bx [4] [.nils, .nils, .nils, .nils, .nils, .nils, .nils, .int .i64 (0 : Int), .int .i64 (0 : Int), .int .i64 (0 : Int), .bool false, .int .i64 (0 : Int), .int .i64 (0 : Int), .int .i64 (0 : Int), .int .i64 (0 : Int), .int .u64 (0 : Int), .nils, .int .i64 (0 : Int), .int .i64 (0 : Int)]]) (aN) ?_
     refine Tn ⟨({ { r1 with Over := (1 : Int) } with Winner := a1 }), h, wT⟩
   · refine Holds.skip ?_
     refine Tn ⟨r1, h, wT⟩
 · rintro b5_2 hJ3
   replace hJ3 : state_Wins_J3 b5_2 = some r := hJ3
   unfold state_Wins_J3 at hJ3
   refine Rg [.a, .a] (sl 26 [(4, vP [4] (0))] [bx [4] (encSState b5_2)]) (aN) ?_
   refine Holds.ret ?_
   exact bE (vA encSState b5_2) (.agg (encSState b5_2)) (congrArg (vA encSState) (sI hJ3))
def r20_Same_J2 (a0 : SAbility) (a1 : SAbility) : Option (Bool) :=
 (some (if (a0.Kind == a1.Kind) = true then a0.Filter == a1.Filter else false)).bind fun b3 =>
 (gd (b3 == true) (r17_SameMods a0.Mods a1.Mods)).bind fun r4 =>
 (some (if b3 = true then r4 else false)).bind fun b5 =>
 (some (if b5 = true then a0.Price == a1.Price else false)).bind fun b6 =>
 (some (if b6 = true then a0.Slow == a1.Slow else false)).bind fun b7 =>
 (some (if b7 = true then a0.Trigger == a1.Trigger else false)).bind fun b8 =>
 (some (if b8 = true then a0.May == a1.May else false)).bind fun b9 =>
 (gd (b9 == true) (r17_SameList a0.Effects a1.Effects)).bind fun r10 =>
 (some (if b9 = true then r10 else false)).bind fun b11 =>
 (some (if b11 = true then a0.Replace == a1.Replace else false)).bind fun b12 =>
 some b12
def r20_Same_B15 (a0 : SAbility) (a1 : SAbility) (i_t5_14 : Int) : Option ((Int) ⊕ (Unit ⊕ Unit)) :=
 (if (decide (i_t5_14 < (a0.Specs.length : Int))) = true then
  (idx a0.Specs i_t5_14).bind fun e17 =>
  (idx a1.Specs i_t5_14).bind fun e18 =>
  (if (!(e17 == e18)) = true then
   some (.inr (.inl ()))
  else
   some (.inl (wrap64 (i_t5_14 + (1 : Int)))))
 else
  some (.inr (.inr ())))
/-- cardgame/cardgameref20.Same -/
def r20_Same (a0 : SAbility) (a1 : SAbility) : Option (Bool) :=
 (if ((a0.Specs.length : Int) != (a1.Specs.length : Int)) = true then
  some false
 else
  (iter (fun (v : Int) => r20_Same_B15 a0 a1 v) FU (0 : Int)).bind (Sum.elim (fun o0 => some false) (fun o1 => r20_Same_J2 a0 a1)))
def r20_Same_C (a0 : SAbility) (a1 : SAbility) (r : Bool) : Prop := PCall Tryz.prog I0 98 [vA encSAbility a0, vA encSAbility a1] (· = vB r)
theorem r20_Same_ok {a0 : SAbility} {a1 : SAbility} {r : Bool} (h : r20_Same a0 a1 = some r) : r20_Same_C a0 a1 r := by
 refine PCall.body I0_stable (by kernel_rfl) Tryz.func98 rfl Tryz.ntmps98 (rs := [.tmp 4]) rfl rfl ?_
 intro w0 av old gv
 unfold r20_Same at h
 refine Rg [.a, .a, .a] (sl 92 [(2, vP [2] (0)), (3, vP [3] (0))] [bx [3] (encSAbility a1), bx [2] (encSAbility a0)]) (aN) ?_
 refine Holds.seq ?_
 refine Rg [.a, .a, .a, .a, .a, .a, .a] (sl 92 [(2, vP [2] (0)), (3, vP [3] (0)), (12, vB ((a0.Specs.length : Int) != (a1.Specs.length : Int)))] [bx [3] (encSAbility a1), bx [2] (encSAbility a0)]) (aN) ?_
 refine iB h (fun b1 h => ?_) (fun b1 h => ?_)
 · refine Rg [.a] (sl 92 [(4, vB false)] []) (aN) ?_
   refine Holds.ret ?_
   refine Tr ?_
   exact bQ (vB false) (congrArg vB (sI h))
 · refine Holds.skip ?_
   refine Tn ?_
   refine Sj (X := Unit) (fun v => (sl 92 [(2, vP [2] (0)), (3, vP [3] (0))] [bx [3] (encSAbility a1), bx [2] (encSAbility a0)])) (fun v => r20_Same_J2 a0 a1 = some r) ?_ ?_
   · refine Rg [.a] (sl 92 [(2, vP [2] (0)), (3, vP [3] (0)), (5, vI (0 : Int))] [bx [3] (encSAbility a1), bx [2] (encSAbility a0)]) (aN) ?_
     refine Holds.block ?_
     obtain ⟨oB15, hiB15, h⟩ := bS h
     refine It (fun (v : Int) => (sl 92 [(2, vP [2] (0)), (3, vP [3] (0)), (5, vI v)] [bx [3] (encSAbility a1), bx [2] (encSAbility a0)])) hiB15 (wT) ?_
     rintro i_t5_14 zB15 hzB15 hoB15
     replace hzB15 : r20_Same_B15 a0 a1 i_t5_14 = some zB15 := hzB15
     unfold r20_Same_B15 at hzB15
     refine Holds.seq ?_
     refine Rg [.a, .a, .a, .a, .a] (sl 92 [(2, vP [2] (0)), (3, vP [3] (0)), (5, vI i_t5_14), (17, vB (decide (i_t5_14 < (a0.Specs.length : Int))))] [bx [3] (encSAbility a1), bx [2] (encSAbility a0)]) (aN) ?_
     refine iB hzB15 (fun b16 hzB15 => ?_) (fun b16 hzB15 => ?_)
     · refine Holds.skip ?_
       refine Tn ?_
       refine Holds.seq ?_
       refine Holds.block ?_
       obtain ⟨e17, he17, hzB15⟩ := bS hzB15
       obtain ⟨e18, he18, hzB15⟩ := bS hzB15
       refine Rq followsP [.a, .a, .a, .a, (.v (vA encSSpec e17)), .a, .a, .a, .a, (.v (vA encSSpec e18)), (.v (vB (!(e17 == e18))))] (sl 92 [(2, vP [2] (0)), (3, vP [3] (0)), (5, vI i_t5_14), (30, vB (!(e17 == e18)))] [bx [3] (encSAbility a1), bx [2] (encSAbility a0)]) (aC (idx_b he17) <| aC (eld he17 lenSSpec 0 18 true (vA encSSpec e17)) <| aC (Eq.refl (vA encSSpec e17)) <| aC (idx_b he18) <| aC (eld he18 lenSSpec 0 18 true (vA encSSpec e18)) <| aC (Eq.refl (vA encSSpec e18)) <| aC (congrArg (fun z => V.c (.bool (!z))) (eqT132 e17 e18)) <| aN) ?_
       refine iB hzB15 (fun b19 hzB15 => ?_) (fun b19 hzB15 => ?_)
       · refine Rg [.a] (sl 92 [(4, vB false)] []) (aN) ?_
         refine Holds.ret ?_
         refine blockQ.ret ?_
         refine Tr ?_
         have hoB15_ := hoB15 _ (sI hzB15).symm
         subst hoB15_
         replace h := sumL h
         refine Tr ?_
         refine blockQ.ret ?_
         refine Tr ?_
         exact bQ (vB false) (congrArg vB (sI h))
       · refine Holds.skip ?_
         refine blockQ.normal ?_
         refine Tn ?_
         refine Re [.a, .a, .a] (sl 92 [(2, vP [2] (0)), (3, vP [3] (0)), (5, vI (wrap64 (i_t5_14 + (1 : Int)))), (18, vI i_t5_14), (19, vI (wrap64 (i_t5_14 + (1 : Int)))), (30, vB (!(e17 == e18)))] [bx [3] (encSAbility a1), bx [2] (encSAbility a0)]) (aN) ?_
         refine Tn ⟨(wrap64 (i_t5_14 + (1 : Int))), (sI hzB15).symm, wT⟩
     · refine Holds.exit ?_
       refine thenQ.exit ?_
       have hoB15_ := hoB15 _ (sI hzB15).symm
       subst hoB15_
       replace h := sumR h
       refine thenQ.exit ?_
       refine blockQ.out ?_
       refine Tn ⟨(), h, wT⟩
   · rintro _ hJ2
     replace hJ2 : r20_Same_J2 a0 a1 = some r := hJ2
     unfold r20_Same_J2 at hJ2
     obtain ⟨b3, hb3, hJ2⟩ := bS hJ2
     obtain ⟨r4, hr4, hJ2⟩ := bS hJ2
     obtain ⟨b5, hb5, hJ2⟩ := bS hJ2
     obtain ⟨b6, hb6, hJ2⟩ := bS hJ2
     obtain ⟨b7, hb7, hJ2⟩ := bS hJ2
     obtain ⟨b8, hb8, hJ2⟩ := bS hJ2
     obtain ⟨b9, hb9, hJ2⟩ := bS hJ2
     obtain ⟨r10, hr10, hJ2⟩ := bS hJ2
     obtain ⟨b11, hb11, hJ2⟩ := bS hJ2
     obtain ⟨b12, hb12, hJ2⟩ := bS hJ2
     refine Rg [.a, .a, .a, .a, .a, .a, .a, .a, .a, .a, (.v (vB (a0.Filter == a1.Filter))), (.v (vB b3)), .a, .a, .a, .a, .a, (.c (vB r4)), (.v (vB b5)), .a, .a, .a, .a, .a, (.v (vB (a0.Price == a1.Price))), (.v (vB b6)), .a, .a, .a, .a, .a, .a, (.v (vB b7)), .a, .a, .a, .a, .a, (.v (vB (a0.Trigger == a1.Trigger))), (.v (vB b8)), .a, .a, .a, .a, .a, .a, (.v (vB b9)), .a, .a, .a, .a, .a, (.c (vB r10)), (.v (vB b11)), .a, .a, .a, .a, .a, (.v (vB (a0.Replace == a1.Replace))), (.v (vB b12)), .a] (sl 92 [(4, vB b12)] []) (aG ((a0.Kind == a1.Kind) == true) <| aG ((a0.Kind == a1.Kind) == true) <| aC (fun hg : ((a0.Kind == a1.Kind) == true) = true => aC (gi ((a0.Kind == a1.Kind) == true)) <| aC (gi ((a0.Kind == a1.Kind) == true)) <| aC (congrArg (fun z => V.c (.bool (z))) (eqT62 a0.Filter a1.Filter)) <| aN) <| aT (a0.Kind == a1.Kind) <| aB hb3 <| aG (b3 == true) <| aG (b3 == true) <| aC (c2 hr4 r17_SameMods_ok) <| aT b3 <| aB hb5 <| aG (b5 == true) <| aG (b5 == true) <| aC (fun hg : (b5 == true) = true => aC (gi (b5 == true)) <| aC (gi (b5 == true)) <| aC (congrArg (fun z => V.c (.bool (z))) (eqT68 a0.Price a1.Price)) <| aN) <| aT b5 <| aB hb6 <| aG (b6 == true) <| aG (b6 == true) <| aC (fun hg : (b6 == true) = true => aC (gi (b6 == true)) <| aC (gi (b6 == true)) <| aC isb4 <| aN) <| aT b6 <| aB hb7 <| aG (b7 == true) <| aG (b7 == true) <| aC (fun hg : (b7 == true) = true => aC (gi (b7 == true)) <| aC (gi (b7 == true)) <| aC (congrArg (fun z => V.c (.bool (z))) (eqT70 a0.Trigger a1.Trigger)) <| aN) <| aT b7 <| aB hb8 <| aG (b8 == true) <| aG (b8 == true) <| aC (fun hg : (b8 == true) = true => aC (gi (b8 == true)) <| aC (gi (b8 == true)) <| aC isb4 <| aN) <| aT b8 <| aB hb9 <| aG (b9 == true) <| aG (b9 == true) <| aC (c2 hr10 r17_SameList_ok) <| aT b9 <| aB hb11 <| aG (b11 == true) <| aG (b11 == true) <| aC (fun hg : (b11 == true) = true => aC (gi (b11 == true)) <| aC (gi (b11 == true)) <| aC (congrArg (fun z => V.c (.bool (z))) (eqT74 a0.Replace a1.Replace)) <| aN) <| aT b11 <| aB hb12 <| aN) ?_
     refine Holds.ret ?_
     exact bQ (vB b12) (congrArg vB (sI hJ2))
def state_Draws_J3  (b3_2 : SState) : Option (SState) :=
 some b3_2
/-- cardgame/state.Draws -/
def state_Draws (a0 : SState) : Option (SState) :=
 (zone_Copy a0).bind fun r1 =>
 (if (r1.Over == (0 : Int)) = true then
  state_Draws_J3 ({ { r1 with Over := (2 : Int) } with Winner := (-1 : Int) })
 else
  state_Draws_J3 r1)
def state_Draws_C (a0 : SState) (r : SState) : Prop := PCall Tryz.prog I0 24 [vA encSState a0] (· = vA encSState r)
theorem state_Draws_ok {a0 : SState} {r : SState} (h : state_Draws a0 = some r) : state_Draws_C a0 r := by
 refine PCall.body I0_stable (by kernel_rfl) Tryz.func24 rfl Tryz.ntmps24 (rs := [.cell 2 33]) rfl rfl ?_
 intro w0 av old gv
 unfold state_Draws at h
 refine Rg [.a, .a] (sl 12 [(1, vP [1] (0)), (2, vP [2] (0))] [bx [2] [.nils, .nils, .nils, .nils, .nils, .nils, .nils, .int .i64 (0 : Int), .int .i64 (0 : Int), .int .i64 (0 : Int), .bool false, .int .i64 (0 : Int), .int .i64 (0 : Int), .int .i64 (0 : Int), .int .i64 (0 : Int), .int .u64 (0 : Int), .nils, .int .i64 (0 : Int), .int .i64 (0 : Int)], bx [1] (encSState a0)]) (aN) ?_
 obtain ⟨r1, hr1, h⟩ := bS h
 refine Rg [.a, (.c (vA encSState r1)), .a, .a] (sl 12 [(2, vP [2] (0)), (3, vP [3] (0))] [bx [3] (encSState r1), bx [2] [.nils, .nils, .nils, .nils, .nils, .nils, .nils, .int .i64 (0 : Int), .int .i64 (0 : Int), .int .i64 (0 : Int), .bool false, .int .i64 (0 : Int), .int .i64 (0 : Int), .int .i64 (0 : Int), .int .i64 (0 : Int), .int .u64 (0 : Int), .nils, .int .i64 (0 : Int), .int .i64 (0 : Int)]]) (aC (zone_Copy_ok hr1) <| aN) ?_
 refine Sj (X := SState) (fun v => (sl 12 [(2, vP [2] (0)), (3, vP [3] (0))] [bx [3] (encSState v), bx [2] [.nils, .nils, .nils, .nils, .nils, .nils, .nils, .int .i64 (0 : Int), .int .i64 (0 : Int), .int .i64 (0 : Int), .bool false, .int .i64 (0 : Int), .int .i64 (0 : Int), .int .i64 (0 : Int), .int .i64 (0 : Int), .int .u64 (0 : Int), .nils, .int .i64 (0 : Int), .int .i64 (0 : Int)]])) (fun v => state_Draws_J3 v = some r) ?_ ?_
 · refine Rg [.a, .a, .a] (sl 12 [(2, vP [2] (0)), (3, vP [3] (0)), (8, vB (r1.Over == (0 : Int)))] [bx [3] (encSState r1), bx [2] [.nils, .nils, .nils, .nils, .nils, .nils, .nils, .int .i64 (0 : Int), .int .i64 (0 : Int), .int .i64 (0 : Int), .bool false, .int .i64 (0 : Int), .int .i64 (0 : Int), .int .i64 (0 : Int), .int .i64 (0 : Int), .int .u64 (0 : Int), .nils, .int .i64 (0 : Int), .int .i64 (0 : Int)]]) (aN) ?_
   refine iB h (fun b4 h => ?_) (fun b4 h => ?_)
   · refine Re [.a, .a, .a, .a] (sl 12 [(2, vP [2] (0)), (3, vP [3] (0)), (8, vB (r1.Over == (0 : Int))), (9, vP [3] (17)), (10, vP [3] (18))] [bx [3] (encSState ({ { r1 with Over := (2 : Int) } with Winner := (-1 : Int) })), bx [2] [.nils, .nils, .nils, .nils, .nils, .nils, .nils, .int .i64 (0 : Int), .int .i64 (0 : Int), .int .i64 (0 : Int), .bool false, .int .i64 (0 : Int), .int .i64 (0 : Int), .int .i64 (0 : Int), .int .i64 (0 : Int), .int .u64 (0 : Int), .nils, .int .i64 (0 : Int), .int .i64 (0 : Int)]]) (aN) ?_
     refine Tn ⟨({ { r1 with Over := (2 : Int) } with Winner := (-1 : Int) }), h, wT⟩
   · refine Holds.skip ?_
     refine Tn ⟨r1, h, wT⟩
 · rintro b3_2 hJ3
   replace hJ3 : state_Draws_J3 b3_2 = some r := hJ3
   unfold state_Draws_J3 at hJ3
   refine Rg [.a, .a] (sl 12 [(2, vP [2] (0))] [bx [2] (encSState b3_2)]) (aN) ?_
   refine Holds.ret ?_
   exact bE (vA encSState b3_2) (.agg (encSState b3_2)) (congrArg (vA encSState) (sI hJ3))
end Go.PL
