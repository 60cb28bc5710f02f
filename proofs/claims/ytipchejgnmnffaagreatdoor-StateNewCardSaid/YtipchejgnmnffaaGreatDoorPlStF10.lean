/- Functions of the program, as partial functions in Lean, with proofs. -/
import Derived.Test.YtipchejgnmnffaaGreatDoorPlStB
import Derived.Test.YtipchejgnmnffaaGreatDoorPlStF0
import Derived.Test.YtipchejgnmnffaaGreatDoorPlStF3
import Derived.Test.YtipchejgnmnffaaGreatDoorPlStF4
import Derived.Test.YtipchejgnmnffaaGreatDoorPlStF9
namespace Go.PL
open Go Go.RowKit Go.Proofs
set_option maxRecDepth 100000
set_option linter.all false
set_option maxHeartbeats 1000000
attribute [local irreducible] Holds thenQ blockQ
/-- cardgame/state.sameAbility -/
def state_sameAbility (a0 : SAbility) (a1 : SAbility) : Option (Bool) :=
 (some (if (a0.Kind == a1.Kind) = true then a0.Filter == a1.Filter else false)).bind fun b1 =>
 (gd (b1 == true) (state_each_api_Mod_state_equal_api_Mod a0.Mods a1.Mods)).bind fun r2 =>
 (some (if b1 = true then r2 else false)).bind fun b3 =>
 (some (if b3 = true then a0.Price == a1.Price else false)).bind fun b4 =>
 (some (if b4 = true then a0.Slow == a1.Slow else false)).bind fun b5 =>
 (some (if b5 = true then a0.Trigger == a1.Trigger else false)).bind fun b6 =>
 (some (if b6 = true then a0.May == a1.May else false)).bind fun b7 =>
 (gd (b7 == true) (state_each_api_Spec_state_equal_api_Spec a0.Specs a1.Specs)).bind fun r8 =>
 (some (if b7 = true then r8 else false)).bind fun b9 =>
 (gd (b9 == true) (state_each_api_Effect_state_sameEffect a0.Effects a1.Effects)).bind fun r10 =>
 (some (if b9 = true then r10 else false)).bind fun b11 =>
 (some (if b11 = true then a0.Replace == a1.Replace else false)).bind fun b12 =>
 some b12
def state_sameAbility_C (a0 : SAbility) (a1 : SAbility) (r : Bool) : Prop := PCall Tryz.prog I0 63 [vA encSAbility a0, vA encSAbility a1] (· = vB r)
theorem state_sameAbility_ok {a0 : SAbility} {a1 : SAbility} {r : Bool} (h : state_sameAbility a0 a1 = some r) : state_sameAbility_C a0 a1 r := by
 refine PCall.body I0_stable (by kernel_rfl) Tryz.func63 rfl Tryz.ntmps63 (rs := [.tmp 4]) rfl rfl ?_
 intro w0 av old gv
 unfold state_sameAbility at h
 refine Rg [.a, .a, .a] (sl 73 [(2, vP [2] (0)), (3, vP [3] (0))] [bx [3] (encSAbility a1), bx [2] (encSAbility a0)]) (aN) ?_
 obtain ⟨b1, hb1, h⟩ := bS h
 obtain ⟨r2, hr2, h⟩ := bS h
 obtain ⟨b3, hb3, h⟩ := bS h
 obtain ⟨b4, hb4, h⟩ := bS h
 obtain ⟨b5, hb5, h⟩ := bS h
 obtain ⟨b6, hb6, h⟩ := bS h
 obtain ⟨b7, hb7, h⟩ := bS h
 obtain ⟨r8, hr8, h⟩ := bS h
 obtain ⟨b9, hb9, h⟩ := bS h
 obtain ⟨r10, hr10, h⟩ := bS h
 obtain ⟨b11, hb11, h⟩ := bS h
 obtain ⟨b12, hb12, h⟩ := bS h
 refine Rg [.a, .a, .a, .a, .a, .a, .a, .a, .a, .a, (.v (vB (a0.Filter == a1.Filter))), (.v (vB b1)), .a, .a, .a, .a, .a, (.c (vB r2)), (.v (vB b3)), .a, .a, .a, .a, .a, (.v (vB (a0.Price == a1.Price))), (.v (vB b4)), .a, .a, .a, .a, .a, .a, (.v (vB b5)), .a, .a, .a, .a, .a, (.v (vB (a0.Trigger == a1.Trigger))), (.v (vB b6)), .a, .a, .a, .a, .a, .a, (.v (vB b7)), .a, .a, .a, .a, .a, (.c (vB r8)), (.v (vB b9)), .a, .a, .a, .a, .a, (.c (vB r10)), (.v (vB b11)), .a, .a, .a, .a, .a, (.v (vB (a0.Replace == a1.Replace))), (.v (vB b12)), .a] (sl 73 [(4, vB b12)] []) (aG ((a0.Kind == a1.Kind) == true) <| aG ((a0.Kind == a1.Kind) == true) <| aC (fun hg : ((a0.Kind == a1.Kind) == true) = true => aC (gi ((a0.Kind == a1.Kind) == true)) <| aC (gi ((a0.Kind == a1.Kind) == true)) <| aC (congrArg (fun z => V.c (.bool (z))) (eqT62 a0.Filter a1.Filter)) <| aN) <| aT (a0.Kind == a1.Kind) <| aB hb1 <| aG (b1 == true) <| aG (b1 == true) <| aC (c2 hr2 state_each_api_Mod_state_equal_api_Mod_ok) <| aT b1 <| aB hb3 <| aG (b3 == true) <| aG (b3 == true) <| aC (fun hg : (b3 == true) = true => aC (gi (b3 == true)) <| aC (gi (b3 == true)) <| aC (congrArg (fun z => V.c (.bool (z))) (eqT68 a0.Price a1.Price)) <| aN) <| aT b3 <| aB hb4 <| aG (b4 == true) <| aG (b4 == true) <| aC (fun hg : (b4 == true) = true => aC (gi (b4 == true)) <| aC (gi (b4 == true)) <| aC isb4 <| aN) <| aT b4 <| aB hb5 <| aG (b5 == true) <| aG (b5 == true) <| aC (fun hg : (b5 == true) = true => aC (gi (b5 == true)) <| aC (gi (b5 == true)) <| aC (congrArg (fun z => V.c (.bool (z))) (eqT70 a0.Trigger a1.Trigger)) <| aN) <| aT b5 <| aB hb6 <| aG (b6 == true) <| aG (b6 == true) <| aC (fun hg : (b6 == true) = true => aC (gi (b6 == true)) <| aC (gi (b6 == true)) <| aC isb4 <| aN) <| aT b6 <| aB hb7 <| aG (b7 == true) <| aG (b7 == true) <| aC (c2 hr8 state_each_api_Spec_state_equal_api_Spec_ok) <| aT b7 <| aB hb9 <| aG (b9 == true) <| aG (b9 == true) <| aC (c2 hr10 state_each_api_Effect_state_sameEffect_ok) <| aT b9 <| aB hb11 <| aG (b11 == true) <| aG (b11 == true) <| aC (fun hg : (b11 == true) = true => aC (gi (b11 == true)) <| aC (gi (b11 == true)) <| aC (congrArg (fun z => V.c (.bool (z))) (eqT74 a0.Replace a1.Replace)) <| aN) <| aT b11 <| aB hb12 <| aN) ?_
 refine Holds.ret ?_
 exact bQ (vB b12) (congrArg vB (sI h))
def r26_SameItem_J2 (a0 : SItem) (a1 : SItem) : Option (Bool) :=
 (some (if (a0.Id == a1.Id) = true then a0.Kind == a1.Kind else false)).bind fun b3 =>
 (some (if b3 = true then a0.Source == a1.Source else false)).bind fun b4 =>
 (some (if b4 = true then a0.Control == a1.Control else false)).bind fun b5 =>
 (some (if b5 = true then a0.X == a1.X else false)).bind fun b6 =>
 (some (if b6 = true then a0.Copy == a1.Copy else false)).bind fun b7 =>
 (gd (b7 == true) (r20_Same a0.Ability a1.Ability)).bind fun r8 =>
 (some (if b7 = true then r8 else false)).bind fun b9 =>
 (some (if b9 = true then a0.Event == a1.Event else false)).bind fun b10 =>
 some b10
def r26_SameItem_B13 (a0 : SItem) (a1 : SItem) (i_t5_12 : Int) : Option ((Int) ⊕ (Unit ⊕ Unit)) :=
 (if (decide (i_t5_12 < (a0.Targets.length : Int))) = true then
  (idx a0.Targets i_t5_12).bind fun e15 =>
  (idx a1.Targets i_t5_12).bind fun e16 =>
  (if (!(e15 == e16)) = true then
   some (.inr (.inl ()))
  else
   some (.inl (wrap64 (i_t5_12 + (1 : Int)))))
 else
  some (.inr (.inr ())))
/-- cardgame/cardgameref26.SameItem -/
def r26_SameItem (a0 : SItem) (a1 : SItem) : Option (Bool) :=
 (if ((a0.Targets.length : Int) != (a1.Targets.length : Int)) = true then
  some false
 else
  (iter (fun (v : Int) => r26_SameItem_B13 a0 a1 v) FU (0 : Int)).bind (Sum.elim (fun o0 => some false) (fun o1 => r26_SameItem_J2 a0 a1)))
def r26_SameItem_C (a0 : SItem) (a1 : SItem) (r : Bool) : Prop := PCall Tryz.prog I0 55 [vA encSItem a0, vA encSItem a1] (· = vB r)
theorem r26_SameItem_ok {a0 : SItem} {a1 : SItem} {r : Bool} (h : r26_SameItem a0 a1 = some r) : r26_SameItem_C a0 a1 r := by
 refine PCall.body I0_stable (by kernel_rfl) Tryz.func55 rfl Tryz.ntmps55 (rs := [.tmp 4]) rfl rfl ?_
 intro w0 av old gv
 unfold r26_SameItem at h
 refine Rg [.a, .a, .a] (sl 85 [(2, vP [2] (0)), (3, vP [3] (0))] [bx [3] (encSItem a1), bx [2] (encSItem a0)]) (aN) ?_
 refine Holds.seq ?_
 refine Rg [.a, .a, .a, .a, .a, .a, .a] (sl 85 [(2, vP [2] (0)), (3, vP [3] (0)), (12, vB ((a0.Targets.length : Int) != (a1.Targets.length : Int)))] [bx [3] (encSItem a1), bx [2] (encSItem a0)]) (aN) ?_
 refine iB h (fun b1 h => ?_) (fun b1 h => ?_)
 · refine Rg [.a] (sl 85 [(4, vB false)] []) (aN) ?_
   refine Holds.ret ?_
   refine Tr ?_
   exact bQ (vB false) (congrArg vB (sI h))
 · refine Holds.skip ?_
   refine Tn ?_
   refine Sj (X := Unit) (fun v => (sl 85 [(2, vP [2] (0)), (3, vP [3] (0))] [bx [3] (encSItem a1), bx [2] (encSItem a0)])) (fun v => r26_SameItem_J2 a0 a1 = some r) ?_ ?_
   · refine Rg [.a] (sl 85 [(2, vP [2] (0)), (3, vP [3] (0)), (5, vI (0 : Int))] [bx [3] (encSItem a1), bx [2] (encSItem a0)]) (aN) ?_
     refine Holds.block ?_
     obtain ⟨oB13, hiB13, h⟩ := bS h
     refine It (fun (v : Int) => (sl 85 [(2, vP [2] (0)), (3, vP [3] (0)), (5, vI v)] [bx [3] (encSItem a1), bx [2] (encSItem a0)])) hiB13 (wT) ?_
     rintro i_t5_12 zB13 hzB13 hoB13
     replace hzB13 : r26_SameItem_B13 a0 a1 i_t5_12 = some zB13 := hzB13
     unfold r26_SameItem_B13 at hzB13
     refine Holds.seq ?_
     refine Rg [.a, .a, .a, .a, .a] (sl 85 [(2, vP [2] (0)), (3, vP [3] (0)), (5, vI i_t5_12), (17, vB (decide (i_t5_12 < (a0.Targets.length : Int))))] [bx [3] (encSItem a1), bx [2] (encSItem a0)]) (aN) ?_
     refine iB hzB13 (fun b14 hzB13 => ?_) (fun b14 hzB13 => ?_)
     · refine Holds.skip ?_
       refine Tn ?_
       refine Holds.seq ?_
       refine Holds.block ?_
       obtain ⟨e15, he15, hzB13⟩ := bS hzB13
       obtain ⟨e16, he16, hzB13⟩ := bS hzB13
       refine Rq followsP [.a, .a, .a, .a, (.v (vA encSTarget e15)), .a, .a, .a, .a, (.v (vA encSTarget e16)), (.v (vB (!(e15 == e16))))] (sl 85 [(2, vP [2] (0)), (3, vP [3] (0)), (5, vI i_t5_12), (30, vB (!(e15 == e16)))] [bx [3] (encSItem a1), bx [2] (encSItem a0)]) (aC (idx_b he15) <| aC (eld he15 lenSTarget 0 2 true (vA encSTarget e15)) <| aC (Eq.refl (vA encSTarget e15)) <| aC (idx_b he16) <| aC (eld he16 lenSTarget 0 2 true (vA encSTarget e16)) <| aC (Eq.refl (vA encSTarget e16)) <| aC (congrArg (fun z => V.c (.bool (!z))) (eqT107 e15 e16)) <| aN) ?_
       refine iB hzB13 (fun b17 hzB13 => ?_) (fun b17 hzB13 => ?_)
       · refine Rg [.a] (sl 85 [(4, vB false)] []) (aN) ?_
         refine Holds.ret ?_
         refine blockQ.ret ?_
         refine Tr ?_
         have hoB13_ := hoB13 _ (sI hzB13).symm
         subst hoB13_
         replace h := sumL h
         refine Tr ?_
         refine blockQ.ret ?_
         refine Tr ?_
         exact bQ (vB false) (congrArg vB (sI h))
       · refine Holds.skip ?_
         refine blockQ.normal ?_
         refine Tn ?_
         refine Re [.a, .a, .a] (sl 85 [(2, vP [2] (0)), (3, vP [3] (0)), (5, vI (wrap64 (i_t5_12 + (1 : Int)))), (18, vI i_t5_12), (19, vI (wrap64 (i_t5_12 + (1 : Int)))), (30, vB (!(e15 == e16)))] [bx [3] (encSItem a1), bx [2] (encSItem a0)]) (aN) ?_
         refine Tn ⟨(wrap64 (i_t5_12 + (1 : Int))), (sI hzB13).symm, wT⟩
     · refine Holds.exit ?_
       refine thenQ.exit ?_
       have hoB13_ := hoB13 _ (sI hzB13).symm
       subst hoB13_
       replace h := sumR h
       refine thenQ.exit ?_
       refine blockQ.out ?_
       refine Tn ⟨(), h, wT⟩
   · rintro _ hJ2
     replace hJ2 : r26_SameItem_J2 a0 a1 = some r := hJ2
     unfold r26_SameItem_J2 at hJ2
     obtain ⟨b3, hb3, hJ2⟩ := bS hJ2
     obtain ⟨b4, hb4, hJ2⟩ := bS hJ2
     obtain ⟨b5, hb5, hJ2⟩ := bS hJ2
     obtain ⟨b6, hb6, hJ2⟩ := bS hJ2
     obtain ⟨b7, hb7, hJ2⟩ := bS hJ2
     obtain ⟨r8, hr8, hJ2⟩ := bS hJ2
     obtain ⟨b9, hb9, hJ2⟩ := bS hJ2
     obtain ⟨b10, hb10, hJ2⟩ := bS hJ2
     refine Rg [.a, .a, .a, .a, .a, .a, .a, .a, .a, .a, .a, (.v (vB b3)), .a, .a, .a, .a, .a, .a, (.v (vB b4)), .a, .a, .a, .a, .a, .a, (.v (vB b5)), .a, .a, .a, .a, .a, .a, (.v (vB b6)), .a, .a, .a, .a, .a, .a, (.v (vB b7)), .a, .a, .a, .a, .a, (.c (vB r8)), (.v (vB b9)), .a, .a, .a, .a, .a, (.v (vB (a0.Event == a1.Event))), (.v (vB b10)), .a] (sl 85 [(4, vB b10)] []) (aG ((a0.Id == a1.Id) == true) <| aG ((a0.Id == a1.Id) == true) <| aH ((a0.Id == a1.Id) == true) <| aT (a0.Id == a1.Id) <| aB hb3 <| aG (b3 == true) <| aG (b3 == true) <| aH (b3 == true) <| aT b3 <| aB hb4 <| aG (b4 == true) <| aG (b4 == true) <| aH (b4 == true) <| aT b4 <| aB hb5 <| aG (b5 == true) <| aG (b5 == true) <| aH (b5 == true) <| aT b5 <| aB hb6 <| aG (b6 == true) <| aG (b6 == true) <| aC (fun hg : (b6 == true) = true => aC (gi (b6 == true)) <| aC (gi (b6 == true)) <| aC isb4 <| aN) <| aT b6 <| aB hb7 <| aG (b7 == true) <| aG (b7 == true) <| aC (c2 hr8 r20_Same_ok) <| aT b7 <| aB hb9 <| aG (b9 == true) <| aG (b9 == true) <| aC (fun hg : (b9 == true) = true => aC (gi (b9 == true)) <| aC (gi (b9 == true)) <| aC (congrArg (fun z => V.c (.bool (z))) (eqT79 a0.Event a1.Event)) <| aN) <| aT b9 <| aB hb10 <| aN) ?_
     refine Holds.ret ?_
     exact bQ (vB b10) (congrArg vB (sI hJ2))
/-- cardgame/cardgameref26.SameWaiting -/
def r26_SameWaiting (a0 : SWaiting) (a1 : SWaiting) : Option (Bool) :=
 (some (if (a0.Source == a1.Source) = true then a0.Control == a1.Control else false)).bind fun b1 =>
 (gd (b1 == true) (r20_Same a0.Ability a1.Ability)).bind fun r2 =>
 (some (if b1 = true then r2 else false)).bind fun b3 =>
 (some (if b3 = true then a0.Event == a1.Event else false)).bind fun b4 =>
 some b4
def r26_SameWaiting_C (a0 : SWaiting) (a1 : SWaiting) (r : Bool) : Prop := PCall Tryz.prog I0 56 [vA encSWaiting a0, vA encSWaiting a1] (· = vB r)
theorem r26_SameWaiting_ok {a0 : SWaiting} {a1 : SWaiting} {r : Bool} (h : r26_SameWaiting a0 a1 = some r) : r26_SameWaiting_C a0 a1 r := by
 refine PCall.body I0_stable (by kernel_rfl) Tryz.func56 rfl Tryz.ntmps56 (rs := [.tmp 4]) rfl rfl ?_
 intro w0 av old gv
 unfold r26_SameWaiting at h
 refine Rg [.a, .a, .a] (sl 31 [(2, vP [2] (0)), (3, vP [3] (0))] [bx [3] (encSWaiting a1), bx [2] (encSWaiting a0)]) (aN) ?_
 obtain ⟨b1, hb1, h⟩ := bS h
 obtain ⟨r2, hr2, h⟩ := bS h
 obtain ⟨b3, hb3, h⟩ := bS h
 obtain ⟨b4, hb4, h⟩ := bS h
 refine Rg [.a, .a, .a, .a, .a, .a, .a, .a, .a, .a, .a, (.v (vB b1)), .a, .a, .a, .a, .a, (.c (vB r2)), (.v (vB b3)), .a, .a, .a, .a, .a, (.v (vB (a0.Event == a1.Event))), (.v (vB b4)), .a] (sl 31 [(4, vB b4)] []) (aG ((a0.Source == a1.Source) == true) <| aG ((a0.Source == a1.Source) == true) <| aH ((a0.Source == a1.Source) == true) <| aT (a0.Source == a1.Source) <| aB hb1 <| aG (b1 == true) <| aG (b1 == true) <| aC (c2 hr2 r20_Same_ok) <| aT b1 <| aB hb3 <| aG (b3 == true) <| aG (b3 == true) <| aC (fun hg : (b3 == true) = true => aC (gi (b3 == true)) <| aC (gi (b3 == true)) <| aC (congrArg (fun z => V.c (.bool (z))) (eqT79 a0.Event a1.Event)) <| aN) <| aT b3 <| aB hb4 <| aN) ?_
 refine Holds.ret ?_
 exact bQ (vB b4) (congrArg vB (sI h))
def r26_players_J3 (a0 : SState) : Option (Bool) :=
 (r26_list a0 a0.Battlefield (0 : Int) (-1 : Int)).bind fun r4 =>
 (gd (r4 == true) (r26_list a0 a0.Exile (4 : Int) (-1 : Int))).bind fun r5 =>
 (some (if r4 = true then r5 else false)).bind fun b6 =>
 some b6
def r26_players_B9 (a0 : SState) (i_t3_8 : Int) : Option ((Int) ⊕ (Unit ⊕ Unit)) :=
 (if (decide (i_t3_8 < (a0.Players.length : Int))) = true then
  (idx a0.Players i_t3_8).bind fun e11 =>
  (r26_in e11.Life (-1000000 : Int) (1000000 : Int)).bind fun r12 =>
  (gd ((!r12) == false) (r26_in e11.Venom (0 : Int) (1000000 : Int))).bind fun r13 =>
  (some (if (!r12) = true then true else !r13)).bind fun b14 =>
  (gd (b14 == false) (r26_in e11.Lands (0 : Int) (1000000 : Int))).bind fun r15 =>
  (some (if b14 = true then true else !r15)).bind fun b16 =>
  (gd (b16 == false) (r08_Whole e11.Pool)).bind fun r17 =>
  (some (if b16 = true then true else !r17)).bind fun b18 =>
  (if b18 = true then
   some (.inr (.inl ()))
  else
   (r26_list a0 e11.Library (2 : Int) i_t3_8).bind fun r20 =>
   (gd ((!r20) == false) (r26_list a0 e11.Hand (1 : Int) i_t3_8)).bind fun r21 =>
   (some (if (!r20) = true then true else !r21)).bind fun b22 =>
   (gd (b22 == false) (r26_list a0 e11.Graveyard (3 : Int) i_t3_8)).bind fun r23 =>
   (some (if b22 = true then true else !r23)).bind fun b24 =>
   (if b24 = true then
    some (.inr (.inl ()))
   else
    some (.inl (wrap64 (i_t3_8 + (1 : Int))))))
 else
  some (.inr (.inr ())))
/-- cardgame/cardgameref26.players -/
def r26_players (a0 : SState) : Option (Bool) :=
 (r26_in (a0.Players.length : Int) (2 : Int) (4 : Int)).bind fun r1 =>
 (if (!r1) = true then
  some false
 else
  (iter (fun (v : Int) => r26_players_B9 a0 v) FU (0 : Int)).bind (Sum.elim (fun o0 => some false) (fun o1 => r26_players_J3 a0)))
def r26_players_C (a0 : SState) (r : Bool) : Prop := PCall Tryz.prog I0 35 [vA encSState a0] (· = vB r)
theorem r26_players_ok {a0 : SState} {r : Bool} (h : r26_players a0 = some r) : r26_players_C a0 r := by
 refine PCall.body I0_stable (by kernel_rfl) Tryz.func35 rfl Tryz.ntmps35 (rs := [.tmp 2]) rfl rfl ?_
 intro w0 av old gv
 unfold r26_players at h
 refine Rg [.a, .a] (sl 76 [(1, vP [1] (0))] [bx [1] (encSState a0)]) (aN) ?_
 refine Holds.seq ?_
 obtain ⟨r1, hr1, h⟩ := bS h
 refine Rg [.a, .a, .a, (.c (vB r1)), .a] (sl 76 [(1, vP [1] (0)), (9, vB (!r1))] [bx [1] (encSState a0)]) (aC (r26_in_ok hr1) <| aN) ?_
 refine iB h (fun b2 h => ?_) (fun b2 h => ?_)
 · refine Rg [.a] (sl 76 [(2, vB false)] []) (aN) ?_
   refine Holds.ret ?_
   refine Tr ?_
   exact bQ (vB false) (congrArg vB (sI h))
 · refine Holds.skip ?_
   refine Tn ?_
   refine Sj (X := Unit) (fun v => (sl 76 [(1, vP [1] (0))] [bx [1] (encSState a0)])) (fun v => r26_players_J3 a0 = some r) ?_ ?_
   · refine Rg [.a] (sl 76 [(1, vP [1] (0)), (3, vI (0 : Int))] [bx [1] (encSState a0)]) (aN) ?_
     refine Holds.block ?_
     obtain ⟨oB9, hiB9, h⟩ := bS h
     refine It (fun (v : Int) => (sl 76 [(1, vP [1] (0)), (3, vI v)] [bx [1] (encSState a0)])) hiB9 (wT) ?_
     rintro i_t3_8 zB9 hzB9 hoB9
     replace hzB9 : r26_players_B9 a0 i_t3_8 = some zB9 := hzB9
     unfold r26_players_B9 at hzB9
     refine Holds.seq ?_
     refine Rg [.a, .a, .a, .a, .a] (sl 76 [(1, vP [1] (0)), (3, vI i_t3_8), (14, vB (decide (i_t3_8 < (a0.Players.length : Int))))] [bx [1] (encSState a0)]) (aN) ?_
     refine iB hzB9 (fun b10 hzB9 => ?_) (fun b10 hzB9 => ?_)
     · refine Holds.skip ?_
       refine Tn ?_
       refine Holds.seq ?_
       refine Holds.block ?_
       obtain ⟨e11, he11, hzB9⟩ := bS hzB9
       refine Rg [.a, .a, .a, .a, (.v (vA encSPlayer e11)), .a, .a] (sl 76 [(1, vP [1] (0)), (3, vI i_t3_8), (4, vP [4] (0))] [bx [4] (encSPlayer e11), bx [1] (encSState a0)]) (aC (idx_b he11) <| aC (eld he11 lenSPlayer 0 14 true (vA encSPlayer e11)) <| aC (Eq.refl (vA encSPlayer e11)) <| aN) ?_
       refine Holds.seq ?_
       obtain ⟨r12, hr12, hzB9⟩ := bS hzB9
       obtain ⟨r13, hr13, hzB9⟩ := bS hzB9
       obtain ⟨b14, hb14, hzB9⟩ := bS hzB9
       obtain ⟨r15, hr15, hzB9⟩ := bS hzB9
       obtain ⟨b16, hb16, hzB9⟩ := bS hzB9
       obtain ⟨r17, hr17, hzB9⟩ := bS hzB9
       obtain ⟨b18, hb18, hzB9⟩ := bS hzB9
       refine Rg [.a, .a, (.c (vB r12)), .a, .a, .a, .a, (.c (vB r13)), .a, (.v (vB b14)), .a, .a, .a, (.c (vB r15)), .a, (.v (vB b16)), .a, .a, .a, (.c (vB r17)), .a, (.v (vB b18))] (sl 76 [(1, vP [1] (0)), (3, vI i_t3_8), (4, vP [4] (0)), (43, vB b18)] [bx [4] (encSPlayer e11), bx [1] (encSState a0)]) (aC (r26_in_ok hr12) <| aG ((!r12) == false) <| aC (c1 hr13 r26_in_ok) <| aG ((!r12) == false) <| aF (!r12) <| aB hb14 <| aG (b14 == false) <| aC (c1 hr15 r26_in_ok) <| aG (b14 == false) <| aF b14 <| aB hb16 <| aG (b16 == false) <| aC (c1 hr17 r08_Whole_ok) <| aG (b16 == false) <| aF b16 <| aB hb18 <| aN) ?_
       refine iB hzB9 (fun b19 hzB9 => ?_) (fun b19 hzB9 => ?_)
       · refine Rg [.a] (sl 76 [(2, vB false)] []) (aN) ?_
         refine Holds.ret ?_
         refine Tr ?_
         refine blockQ.ret ?_
         refine Tr ?_
         have hoB9_ := hoB9 _ (sI hzB9).symm
         subst hoB9_
         replace h := sumL h
         refine Tr ?_
         refine blockQ.ret ?_
         refine Tr ?_
         exact bQ (vB false) (congrArg vB (sI h))
       · refine Holds.skip ?_
         refine Tn ?_
         obtain ⟨r20, hr20, hzB9⟩ := bS hzB9
         obtain ⟨r21, hr21, hzB9⟩ := bS hzB9
         obtain ⟨b22, hb22, hzB9⟩ := bS hzB9
         obtain ⟨r23, hr23, hzB9⟩ := bS hzB9
         obtain ⟨b24, hb24, hzB9⟩ := bS hzB9
         refine Rg [.a, .a, .a, .a, (.c (vB r20)), .a, .a, .a, .a, .a, .a, (.c (vB r21)), .a, (.v (vB b22)), .a, .a, .a, .a, .a, (.c (vB r23)), .a, (.v (vB b24))] (sl 76 [(1, vP [1] (0)), (3, vI i_t3_8), (65, vB b24)] [bx [1] (encSState a0)]) (aC (r26_list_ok hr20) <| aG ((!r20) == false) <| aC (c3 hr21 r26_list_ok) <| aG ((!r20) == false) <| aF (!r20) <| aB hb22 <| aG (b22 == false) <| aC (c3 hr23 r26_list_ok) <| aG (b22 == false) <| aF b22 <| aB hb24 <| aN) ?_
         refine iB hzB9 (fun b25 hzB9 => ?_) (fun b25 hzB9 => ?_)
         · refine Rg [.a] (sl 76 [(2, vB false)] []) (aN) ?_
           refine Holds.ret ?_
           refine blockQ.ret ?_
           refine Tr ?_
           have hoB9_ := hoB9 _ (sI hzB9).symm
           subst hoB9_
           replace h := sumL h
           refine Tr ?_
           refine blockQ.ret ?_
           refine Tr ?_
           exact bQ (vB false) (congrArg vB (sI h))
         · refine Holds.skip ?_
           refine blockQ.normal ?_
           refine Tn ?_
           refine Re [.a, .a, .a] (sl 76 [(1, vP [1] (0)), (3, vI (wrap64 (i_t3_8 + (1 : Int)))), (15, vI i_t3_8), (16, vI (wrap64 (i_t3_8 + (1 : Int)))), (65, vB b24)] [bx [1] (encSState a0)]) (aN) ?_
           refine Tn ⟨(wrap64 (i_t3_8 + (1 : Int))), (sI hzB9).symm, wT⟩
     · refine Holds.exit ?_
       refine thenQ.exit ?_
       have hoB9_ := hoB9 _ (sI hzB9).symm
       subst hoB9_
       replace h := sumR h
       refine thenQ.exit ?_
       refine blockQ.out ?_
       refine Tn ⟨(), h, wT⟩
   · rintro _ hJ3
     replace hJ3 : r26_players_J3 a0 = some r := hJ3
     unfold r26_players_J3 at hJ3
     obtain ⟨r4, hr4, hJ3⟩ := bS hJ3
     obtain ⟨r5, hr5, hJ3⟩ := bS hJ3
     obtain ⟨b6, hb6, hJ3⟩ := bS hJ3
     refine Rg [.a, .a, .a, (.c (vB r4)), .a, .a, .a, .a, (.c (vB r5)), (.v (vB b6)), .a] (sl 76 [(2, vB b6)] []) (aC (r26_list_ok hr4) <| aG (r4 == true) <| aC (c2 hr5 r26_list_ok) <| aT r4 <| aB hb6 <| aN) ?_
     refine Holds.ret ?_
     exact bQ (vB b6) (congrArg vB (sI hJ3))
end Go.PL
