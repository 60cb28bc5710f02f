/- Functions of the program, as partial functions in Lean, with proofs. -/
import Derived.Test.YtipchejgnmnffaaGreatDoorPlStB
import Derived.Test.YtipchejgnmnffaaGreatDoorPlStF0
import Derived.Test.YtipchejgnmnffaaGreatDoorPlStF3
import Derived.Test.YtipchejgnmnffaaGreatDoorPlStF4
import Derived.Test.YtipchejgnmnffaaGreatDoorPlStF9
namespace Go.PL
open Go Go.RowKit Go.Proofs
set_option maxRecDepth 100000
set_option linter.all false
set_option maxHeartbeats 1000000
attribute [local irreducible] Holds thenQ blockQ
/-- cardgame/cardgamelaw26.light -/
def law26_light (a0 : List (SCard)) (a1 : SState) : Option (Bool) :=
 (gd ((decide ((a0.length : Int) ≤ (300 : Int))) == true) (r26_Small a1)).bind fun r1 =>
 (some (if (decide ((a0.length : Int) ≤ (300 : Int))) = true then r1 else false)).bind fun b2 =>
 some b2
def law26_light_C (a0 : List (SCard)) (a1 : SState) (r : Bool) : Prop := PCall Tryz.prog I0 14 [vL encSCard a0, vA encSState a1] (· = vB r)
theorem law26_light_ok {a0 : List (SCard)} {a1 : SState} {r : Bool} (h : law26_light a0 a1 = some r) : law26_light_C a0 a1 r := by
 refine PCall.body I0_stable (by kernel_rfl) Tryz.func14 rfl Tryz.ntmps14 (rs := [.tmp 4]) rfl rfl ?_
 intro w0 av old gv
 unfold law26_light at h
 refine Rg [.a, .a] (sl 12 [(0, vL encSCard a0), (3, vP [3] (0))] [bx [3] (encSState a1)]) (aN) ?_
 obtain ⟨r1, hr1, h⟩ := bS h
 obtain ⟨b2, hb2, h⟩ := bS h
 refine Rg [.a, .a, .a, .a, .a, (.c (vB r1)), (.v (vB b2)), .a] (sl 12 [(4, vB b2)] []) (aC (c1 hr1 r26_Small_ok) <| aT (decide ((a0.length : Int) ≤ (300 : Int))) <| aB hb2 <| aN) ?_
 refine Holds.ret ?_
 exact bQ (vB b2) (congrArg vB (sI h))
/-- cardgame/state.sameAbility -/
def state_sameAbility (a0 : SAbility) (a1 : SAbility) : Option (Bool) :=
 (some (if (a0.Kind == a1.Kind) = true then a0.Filter == a1.Filter else false)).bind fun b1 =>
 (gd (b1 == true) (state_each_api_Mod_state_equal_api_Mod a0.Mods a1.Mods)).bind fun r2 =>
 (some (if b1 = true then r2 else false)).bind fun b3 =>
 (some (if b3 = true then a0.Price == a1.Price else false)).bind fun b4 =>
 (some (if b4 = true then a0.Slow == a1.Slow else false)).bind fun b5 =>
 (some (if b5 = true then a0.Trigger == a1.Trigger else false)).bind fun b6 =>
 (some (if b6 = true then a0.May == a1.May else false)).bind fun b7 =>
 (gd (b7 == true) (state_each_api_Spec_state_equal_api_Spec a0.Specs a1.Specs)).bind fun r8 =>
 (some (if b7 = true then r8 else false)).bind fun b9 =>
 (gd (b9 == true) (state_each_api_Effect_state_sameEffect a0.Effects a1.Effects)).bind fun r10 =>
 (some (if b9 = true then r10 else false)).bind fun b11 =>
 (some (if b11 = true then a0.Replace == a1.Replace else false)).bind fun b12 =>
 some b12
def state_sameAbility_C (a0 : SAbility) (a1 : SAbility) (r : Bool) : Prop := PCall Tryz.prog I0 63 [vA encSAbility a0, vA encSAbility a1] (· = vB r)
theorem state_sameAbility_ok {a0 : SAbility} {a1 : SAbility} {r : Bool} (h : state_sameAbility a0 a1 = some r) : state_sameAbility_C a0 a1 r := by
 refine PCall.body I0_stable (by kernel_rfl) Tryz.func63 rfl Tryz.ntmps63 (rs := [.tmp 4]) rfl rfl ?_
 intro w0 av old gv
 unfold state_sameAbility at h
 refine Rg [.a, .a, .a] (sl 73 [(2, vP [2] (0)), (3, vP [3] (0))] [bx [3] (encSAbility a1), bx [2] (encSAbility a0)]) (aN) ?_
 obtain ⟨b1, hb1, h⟩ := bS h
 obtain ⟨r2, hr2, h⟩ := bS h
 obtain ⟨b3, hb3, h⟩ := bS h
 obtain ⟨b4, hb4, h⟩ := bS h
 obtain ⟨b5, hb5, h⟩ := bS h
 obtain ⟨b6, hb6, h⟩ := bS h
 obtain ⟨b7, hb7, h⟩ := bS h
 obtain ⟨r8, hr8, h⟩ := bS h
 obtain ⟨b9, hb9, h⟩ := bS h
 obtain ⟨r10, hr10, h⟩ := bS h
 obtain ⟨b11, hb11, h⟩ := bS h
 obtain ⟨b12, hb12, h⟩ := bS h
 refine Rg [.a, .a, .a, .a, .a, .a, .a, .a, .a, .a, (.v (vB (a0.Filter == a1.Filter))), (.v (vB b1)), .a, .a, .a, .a, .a, (.c (vB r2)), (.v (vB b3)), .a, .a, .a, .a, .a, (.v (vB (a0.Price == a1.Price))), (.v (vB b4)), .a, .a, .a, .a, .a, .a, (.v (vB b5)), .a, .a, .a, .a, .a, (.v (vB (a0.Trigger == a1.Trigger))), (.v (vB b6)), .a, .a, .a, .a, .a, .a, (.v (vB b7)), .a, .a, .a, .a, .a, (.c (vB r8)), (.v (vB b9)), .a, .a, .a, .a, .a, (.c (vB r10)), (.v (vB b11)), .a, .a, .a, .a, .a, (.v (vB (a0.Replace == a1.Replace))), (.v (vB b12)), .a] (sl 73 [(4, vB b12)] []) (aG ((a0.Kind == a1.Kind) == true) <| aG ((a0.Kind == a1.Kind) == true) <| aC (fun hg : ((a0.Kind == a1.Kind) == true) = true => aC (gi ((a0.Kind == a1.Kind) == true)) <| aC (gi ((a0.Kind == a1.Kind) == true)) <| aC (congrArg (fun z => V.c (.bool (z))) (eqT62 a0.Filter a1.Filter)) <| aN) <| aT (a0.Kind == a1.Kind) <| aB hb1 <| aG (b1 == true) <| aG (b1 == true) <| aC (c2 hr2 state_each_api_Mod_state_equal_api_Mod_ok) <| aT b1 <| aB hb3 <| aG (b3 == true) <| aG (b3 == true) <| aC (fun hg : (b3 == true) = true => aC (gi (b3 == true)) <| aC (gi (b3 == true)) <| aC (congrArg (fun z => V.c (.bool (z))) (eqT68 a0.Price a1.Price)) <| aN) <| aT b3 <| aB hb4 <| aG (b4 == true) <| aG (b4 == true) <| aC (fun hg : (b4 == true) = true => aC (gi (b4 == true)) <| aC (gi (b4 == true)) <| aC isb4 <| aN) <| aT b4 <| aB hb5 <| aG (b5 == true) <| aG (b5 == true) <| aC (fun hg : (b5 == true) = true => aC (gi (b5 == true)) <| aC (gi (b5 == true)) <| aC (congrArg (fun z => V.c (.bool (z))) (eqT70 a0.Trigger a1.Trigger)) <| aN) <| aT b5 <| aB hb6 <| aG (b6 == true) <| aG (b6 == true) <| aC (fun hg : (b6 == true) = true => aC (gi (b6 == true)) <| aC (gi (b6 == true)) <| aC isb4 <| aN) <| aT b6 <| aB hb7 <| aG (b7 == true) <| aG (b7 == true) <| aC (c2 hr8 state_each_api_Spec_state_equal_api_Spec_ok) <| aT b7 <| aB hb9 <| aG (b9 == true) <| aG (b9 == true) <| aC (c2 hr10 state_each_api_Effect_state_sameEffect_ok) <| aT b9 <| aB hb11 <| aG (b11 == true) <| aG (b11 == true) <| aC (fun hg : (b11 == true) = true => aC (gi (b11 == true)) <| aC (gi (b11 == true)) <| aC (congrArg (fun z => V.c (.bool (z))) (eqT74 a0.Replace a1.Replace)) <| aN) <| aT b11 <| aB hb12 <| aN) ?_
 refine Holds.ret ?_
 exact bQ (vB b12) (congrArg vB (sI h))
def r26_SameItem_J2 (a0 : SItem) (a1 : SItem) : Option (Bool) :=
 (some (if (a0.Id == a1.Id) = true then a0.Kind == a1.Kind else false)).bind fun b3 =>
 (some (if b3 = true then a0.Source == a1.Source else false)).bind fun b4 =>
 (some (if b4 = true then a0.Control == a1.Control else false)).bind fun b5 =>
 (some (if b5 = true then a0.X == a1.X else false)).bind fun b6 =>
 (some (if b6 = true then a0.Copy == a1.Copy else false)).bind fun b7 =>
 (gd (b7 == true) (r20_Same a0.Ability a1.Ability)).bind fun r8 =>
 (some (if b7 = true then r8 else false)).bind fun b9 =>
 (some (if b9 = true then a0.Event == a1.Event else false)).bind fun b10 =>
 some b10
def r26_SameItem_B13 (a0 : SItem) (a1 : SItem) (i_t5_12 : Int) : Option ((Int) ⊕ (Unit ⊕ Unit)) :=
 (if (decide (i_t5_12 < (a0.Targets.length : Int))) = true then
  (idx a0.Targets i_t5_12).bind fun e15 =>
  (idx a1.Targets i_t5_12).bind fun e16 =>
  (if (!(e15 == e16)) = true then
   some (.inr (.inl ()))
  else
   some (.inl (wrap64 (i_t5_12 + (1 : Int)))))
 else
  some (.inr (.inr ())))
/-- cardgame/cardgameref26.SameItem -/
def r26_SameItem (a0 : SItem) (a1 : SItem) : Option (Bool) :=
 (if ((a0.Targets.length : Int) != (a1.Targets.length : Int)) = true then
  some false
 else
  (iter (fun (v : Int) => r26_SameItem_B13 a0 a1 v) FU (0 : Int)).bind (Sum.elim (fun o0 => some false) (fun o1 => r26_SameItem_J2 a0 a1)))
def r26_SameItem_C (a0 : SItem) (a1 : SItem) (r : Bool) : Prop := PCall Tryz.prog I0 55 [vA encSItem a0, vA encSItem a1] (· = vB r)
theorem r26_SameItem_ok {a0 : SItem} {a1 : SItem} {r : Bool} (h : r26_SameItem a0 a1 = some r) : r26_SameItem_C a0 a1 r := by
 refine PCall.body I0_stable (by kernel_rfl) Tryz.func55 rfl Tryz.ntmps55 (rs := [.tmp 4]) rfl rfl ?_
 intro w0 av old gv
 unfold r26_SameItem at h
 refine Rg [.a, .a, .a] (sl 85 [(2, vP [2] (0)), (3, vP [3] (0))] [bx [3] (encSItem a1), bx [2] (encSItem a0)]) (aN) ?_
 refine Holds.seq ?_
 refine Rg [.a, .a, .a, .a, .a, .a, .a] (sl 85 [(2, vP [2] (0)), (3, vP [3] (0)), (12, vB ((a0.Targets.length : Int) != (a1.Targets.length : Int)))] [bx [3] (encSItem a1), bx [2] (encSItem a0)]) (aN) ?_
 refine iB h (fun b1 h => ?_) (fun b1 h => ?_)
 · refine Rg [.a] (sl 85 [(4, vB false)] []) (aN) ?_
   refine Holds.ret ?_
   refine Tr ?_
   exact bQ (vB false) (congrArg vB (sI h))
 · refine Holds.skip ?_
   refine Tn ?_
   refine Sj (X := Unit) (fun v => (sl 85 [(2, vP [2] (0)), (3, vP [3] (0))] [bx [3] (encSItem a1), bx [2] (encSItem a0)])) (fun v => r26_SameItem_J2 a0 a1 = some r) ?_ ?_
   · refine Rg [.a] (sl 85 [(2, vP [2] (0)), (3, vP [3] (0)), (5, vI (0 : Int))] [bx [3] (encSItem a1), bx [2] (encSItem a0)]) (aN) ?_
     refine Holds.block ?_
     obtain ⟨oB13, hiB13, h⟩ := bS h
     refine It (fun (v : Int) => (sl 85 [(2, vP [2] (0)), (3, vP [3] (0)), (5, vI v)] [bx [3] (encSItem a1), bx [2] (encSItem a0)])) hiB13 (wT) ?_
     rintro i_t5_12 zB13 hzB13 hoB13
     replace hzB13 : r26_SameItem_B13 a0 a1 i_t5_12 = some zB13 := hzB13
     unfold r26_SameItem_B13 at hzB13
     refine Holds.seq ?_
     refine Rg [.a, .a, .a, .a, .a] (sl 85 [(2, vP [2] (0)), (3, vP [3] (0)), (5, vI i_t5_12), (17, vB (decide (i_t5_12 < (a0.Targets.length : Int))))] [bx [3] (encSItem a1), bx [2] (encSItem a0)]) (aN) ?_
     refine iB hzB13 (fun b14 hzB13 => ?_) (fun b14 hzB13 => ?_)
     · refine Holds.skip ?_
       refine Tn ?_
       refine Holds.seq ?_
       refine Holds.block ?_
       obtain ⟨e15, he15, hzB13⟩ := bS hzB13
       obtain ⟨e16, he16, hzB13⟩ := bS hzB13
       refine Rq followsP [.a, .a, .a, .a, (.v (vA encSTarget e15)), .a, .a, .a, .a, (.v (vA encSTarget e16)), (.v (vB (!(e15 == e16))))] (sl 85 [(2, vP [2] (0)), (3, vP [3] (0)), (5, vI i_t5_12), (30, vB (!(e15 == e16)))] [bx [3] (encSItem a1), bx [2] (encSItem a0)]) (aC (idx_b he15) <| aC (eld he15 lenSTarget 0 2 true (vA encSTarget e15)) <| aC (Eq.refl (vA encSTarget e15)) <| aC (idx_b he16) <| aC (eld he16 lenSTarget 0 2 true (vA encSTarget e16)) <| aC (Eq.refl (vA encSTarget e16)) <| aC (congrArg (fun z => V.c (.bool (!z))) (eqT107 e15 e16)) <| aN) ?_
       refine iB hzB13 (fun b17 hzB13 => ?_) (fun b17 hzB13 => ?_)
       · refine Rg [.a] (sl 85 [(4, vB false)] []) (aN) ?_
         refine Holds.ret ?_
         refine blockQ.ret ?_
         refine Tr ?_
         have hoB13_ := hoB13 _ (sI hzB13).symm
         subst hoB13_
         replace h := sumL h
         refine Tr ?_
         refine blockQ.ret ?_
         refine Tr ?_
         exact bQ (vB false) (congrArg vB (sI h))
       · refine Holds.skip ?_
         refine blockQ.normal ?_
         refine Tn ?_
         refine Re [.a, .a, .a] (sl 85 [(2, vP [2] (0)), (3, vP [3] (0)), (5, vI (wrap64 (i_t5_12 + (1 : Int)))), (18, vI i_t5_12), (19, vI (wrap64 (i_t5_12 + (1 : Int)))), (30, vB (!(e15 == e16)))] [bx [3] (encSItem a1), bx [2] (encSItem a0)]) (aN) ?_
         refine Tn ⟨(wrap64 (i_t5_12 + (1 : Int))), (sI hzB13).symm, wT⟩
     · refine Holds.exit ?_
       refine thenQ.exit ?_
       have hoB13_ := hoB13 _ (sI hzB13).symm
       subst hoB13_
       replace h := sumR h
       refine thenQ.exit ?_
       refine blockQ.out ?_
       refine Tn ⟨(), h, wT⟩
   · rintro _ hJ2
     replace hJ2 : r26_SameItem_J2 a0 a1 = some r := hJ2
     unfold r26_SameItem_J2 at hJ2
     obtain ⟨b3, hb3, hJ2⟩ := bS hJ2
     obtain ⟨b4, hb4, hJ2⟩ := bS hJ2
     obtain ⟨b5, hb5, hJ2⟩ := bS hJ2
     obtain ⟨b6, hb6, hJ2⟩ := bS hJ2
     obtain ⟨b7, hb7, hJ2⟩ := bS hJ2
     obtain ⟨r8, hr8, hJ2⟩ := bS hJ2
     obtain ⟨b9, hb9, hJ2⟩ := bS hJ2
     obtain ⟨b10, hb10, hJ2⟩ := bS hJ2
     refine Rg [.a, .a, .a, .a, .a, .a, .a, .a, .a, .a, .a, (.v (vB b3)), .a, .a, .a, .a, .a, .a, (.v (vB b4)), .a, .a, .a, .a, .a, .a, (.v (vB b5)), .a, .a, .a, .a, .a, .a, (.v (vB b6)), .a, .a, .a, .a, .a, .a, (.v (vB b7)), .a, .a, .a, .a, .a, (.c (vB r8)), (.v (vB b9)), .a, .a, .a, .a, .a, (.v (vB (a0.Event == a1.Event))), (.v (vB b10)), .a] (sl 85 [(4, vB b10)] []) (aG ((a0.Id == a1.Id) == true) <| aG ((a0.Id == a1.Id) == true) <| aH ((a0.Id == a1.Id) == true) <| aT (a0.Id == a1.Id) <| aB hb3 <| aG (b3 == true) <| aG (b3 == true) <| aH (b3 == true) <| aT b3 <| aB hb4 <| aG (b4 == true) <| aG (b4 == true) <| aH (b4 == true) <| aT b4 <| aB hb5 <| aG (b5 == true) <| aG (b5 == true) <| aH (b5 == true) <| aT b5 <| aB hb6 <| aG (b6 == true) <| aG (b6 == true) <| aC (fun hg : (b6 == true) = true => aC (gi (b6 == true)) <| aC (gi (b6 == true)) <| aC isb4 <| aN) <| aT b6 <| aB hb7 <| aG (b7 == true) <| aG (b7 == true) <| aC (c2 hr8 r20_Same_ok) <| aT b7 <| aB hb9 <| aG (b9 == true) <| aG (b9 == true) <| aC (fun hg : (b9 == true) = true => aC (gi (b9 == true)) <| aC (gi (b9 == true)) <| aC (congrArg (fun z => V.c (.bool (z))) (eqT79 a0.Event a1.Event)) <| aN) <| aT b9 <| aB hb10 <| aN) ?_
     refine Holds.ret ?_
     exact bQ (vB b10) (congrArg vB (sI hJ2))
/-- cardgame/cardgameref26.SameWaiting -/
def r26_SameWaiting (a0 : SWaiting) (a1 : SWaiting) : Option (Bool) :=
 (some (if (a0.Source == a1.Source) = true then a0.Control == a1.Control else false)).bind fun b1 =>
 (gd (b1 == true) (r20_Same a0.Ability a1.Ability)).bind fun r2 =>
 (some (if b1 = true then r2 else false)).bind fun b3 =>
 (some (if b3 = true then a0.Event == a1.Event else false)).bind fun b4 =>
 some b4
def r26_SameWaiting_C (a0 : SWaiting) (a1 : SWaiting) (r : Bool) : Prop := PCall Tryz.prog I0 56 [vA encSWaiting a0, vA encSWaiting a1] (· = vB r)
theorem r26_SameWaiting_ok {a0 : SWaiting} {a1 : SWaiting} {r : Bool} (h : r26_SameWaiting a0 a1 = some r) : r26_SameWaiting_C a0 a1 r := by
 refine PCall.body I0_stable (by kernel_rfl) Tryz.func56 rfl Tryz.ntmps56 (rs := [.tmp 4]) rfl rfl ?_
 intro w0 av old gv
 unfold r26_SameWaiting at h
 refine Rg [.a, .a, .a] (sl 31 [(2, vP [2] (0)), (3, vP [3] (0))] [bx [3] (encSWaiting a1), bx [2] (encSWaiting a0)]) (aN) ?_
 obtain ⟨b1, hb1, h⟩ := bS h
 obtain ⟨r2, hr2, h⟩ := bS h
 obtain ⟨b3, hb3, h⟩ := bS h
 obtain ⟨b4, hb4, h⟩ := bS h
 refine Rg [.a, .a, .a, .a, .a, .a, .a, .a, .a, .a, .a, (.v (vB b1)), .a, .a, .a, .a, .a, (.c (vB r2)), (.v (vB b3)), .a, .a, .a, .a, .a, (.v (vB (a0.Event == a1.Event))), (.v (vB b4)), .a] (sl 31 [(4, vB b4)] []) (aG ((a0.Source == a1.Source) == true) <| aG ((a0.Source == a1.Source) == true) <| aH ((a0.Source == a1.Source) == true) <| aT (a0.Source == a1.Source) <| aB hb1 <| aG (b1 == true) <| aG (b1 == true) <| aC (c2 hr2 r20_Same_ok) <| aT b1 <| aB hb3 <| aG (b3 == true) <| aG (b3 == true) <| aC (fun hg : (b3 == true) = true => aC (gi (b3 == true)) <| aC (gi (b3 == true)) <| aC (congrArg (fun z => V.c (.bool (z))) (eqT79 a0.Event a1.Event)) <| aN) <| aT b3 <| aB hb4 <| aN) ?_
 refine Holds.ret ?_
 exact bQ (vB b4) (congrArg vB (sI h))
end Go.PL
