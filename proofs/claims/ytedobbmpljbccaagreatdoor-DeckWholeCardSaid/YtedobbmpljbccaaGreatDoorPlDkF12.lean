/- Functions of the program, as partial functions in Lean, with proofs. -/
import Derived.Test.YtedobbmpljbccaaGreatDoorPlDkB
import Derived.Test.YtedobbmpljbccaaGreatDoorPlDkF11
import Derived.Test.YtedobbmpljbccaaGreatDoorPlDkF2
import Derived.Test.YtedobbmpljbccaaGreatDoorPlDkF4
import Derived.Test.YtedobbmpljbccaaGreatDoorPlDkF5
import Derived.Test.YtedobbmpljbccaaGreatDoorPlDkF7
import Derived.Test.YtedobbmpljbccaaGreatDoorPlDkF8
namespace Go.PL
open Go Go.RowKit Go.Proofs
set_option maxRecDepth 100000
set_option linter.all false
set_option maxHeartbeats 1000000
attribute [local irreducible] Holds thenQ blockQ
def r20_Is_J8 (a0 : SAbility) (b4 : Bool) : Option (Bool) :=
 (if b4 = true then
  (r20_specs a0.Specs).bind fun r10 =>
  (gd (r10 == true) (r20_effects a0.Effects (a0.Specs.length : Int))).bind fun r11 =>
  (some (if r10 = true then r11 else false)).bind fun b12 =>
  some b12
 else
  (some (if ((a0.Specs.length : Int) == (0 : Int)) = true then (a0.Effects.length : Int) == (0 : Int) else false)).bind fun b13 =>
  some b13)
def r20_Is_J7 (a0 : SAbility) (b4 : Bool) : Option (Bool) :=
 (if (a0.Kind == (5 : Int)) = true then
  (r19_Is a0.Replace).bind fun r15 =>
  (if (!r15) = true then
   some false
  else
   r20_Is_J8 a0 b4)
 else
  (if (!(a0.Replace == (⟨(0 : Int), (0 : Int), (⟨(0 : Int), (0 : Int), (0 : Int), (0 : Int), (0 : Int), (0 : Int), (0 : Int), [], (0 : Int), (0 : Int), (⟨(0 : Int), (0 : Int)⟩ : SBound), (⟨(0 : Int), (0 : Int)⟩ : SBound), (⟨(0 : Int), (0 : Int)⟩ : SBound)⟩ : SFilter), (0 : Int), (0 : Int), (0 : Int), (0 : Int)⟩ : SReplace))) = true then
   some false
  else
   r20_Is_J8 a0 b4))
def r20_Is_J6 (a0 : SAbility) (b4 : Bool) : Option (Bool) :=
 (if (a0.Kind == (4 : Int)) = true then
  (r18_Is a0.Trigger).bind fun r19 =>
  (if (!r19) = true then
   some false
  else
   r20_Is_J7 a0 b4)
 else
  (some (if (!(a0.Trigger == (⟨(0 : Int), (0 : Int), (⟨(0 : Int), (0 : Int), (0 : Int), (0 : Int), (0 : Int), (0 : Int), (0 : Int), [], (0 : Int), (0 : Int), (⟨(0 : Int), (0 : Int)⟩ : SBound), (⟨(0 : Int), (0 : Int)⟩ : SBound), (⟨(0 : Int), (0 : Int)⟩ : SBound)⟩ : SFilter)⟩ : STrigger))) = true then true else a0.May)).bind fun b21 =>
  (if b21 = true then
   some false
  else
   r20_Is_J7 a0 b4))
def r20_Is_J5 (a0 : SAbility) (b4 : Bool) : Option (Bool) :=
 (if (a0.Kind == (3 : Int)) = true then
  (r20_price a0.Price).bind fun r24 =>
  (if (!r24) = true then
   some false
  else
   r20_Is_J6 a0 b4)
 else
  (some (if (!(a0.Price == (⟨(⟨(0 : Int), (0 : Int), (⟨(0 : Int), (0 : Int), (0 : Int), (0 : Int), (0 : Int)⟩ : A5 (Int))⟩ : SCost), false, false, (0 : Int)⟩ : SPrice))) = true then true else a0.Slow)).bind fun b26 =>
  (if b26 = true then
   some false
  else
   r20_Is_J6 a0 b4))
/-- cardgame/cardgameref20.Is -/
def r20_Is (a0 : SAbility) : Option (Bool) :=
 (some (if (decide (a0.Kind < (1 : Int))) = true then true else decide ((5 : Int) < a0.Kind))).bind fun b1 =>
 (if b1 = true then
  some false
 else
  (some (if (a0.Kind == (2 : Int)) = true then true else a0.Kind == (3 : Int))).bind fun b3 =>
  (some (if b3 = true then true else a0.Kind == (4 : Int))).bind fun b4 =>
  (if (a0.Kind == (1 : Int)) = true then
   (r13_Is a0.Filter).bind fun r29 =>
   (some (if (!r29) = true then true else a0.Filter.Zone != (0 : Int))).bind fun b30 =>
   (gd (b30 == false) (r15_ListText a0.Mods)).bind fun r31 =>
   (some (if b30 = true then true else r31 == ([] : List UInt8))).bind fun b32 =>
   (if b32 = true then
    some false
   else
    r20_Is_J5 a0 b4)
  else
   (some (if (!(a0.Filter == (⟨(0 : Int), (0 : Int), (0 : Int), (0 : Int), (0 : Int), (0 : Int), (0 : Int), [], (0 : Int), (0 : Int), (⟨(0 : Int), (0 : Int)⟩ : SBound), (⟨(0 : Int), (0 : Int)⟩ : SBound), (⟨(0 : Int), (0 : Int)⟩ : SBound)⟩ : SFilter))) = true then true else decide ((0 : Int) < (a0.Mods.length : Int)))).bind fun b34 =>
   (if b34 = true then
    some false
   else
    r20_Is_J5 a0 b4)))
def r20_Is_C (a0 : SAbility) (r : Bool) : Prop := PCall Tryz.prog I0 60 [vA encSAbility a0] (· = vB r)
theorem r20_Is_ok {a0 : SAbility} {r : Bool} (h : r20_Is a0 = some r) : r20_Is_C a0 r := by
 refine PCall.body I0_stable (by kernel_rfl) Tryz.func60 rfl Tryz.ntmps60 (rs := [.tmp 2]) rfl rfl ?_
 intro w0 av old gv
 unfold r20_Is at h
 refine Rg [.a, .a] (sl 117 [(1, vP [1] (0))] [bx [1] (encSAbility a0)]) (aN) ?_
 refine Holds.seq ?_
 obtain ⟨b1, hb1, h⟩ := bS h
 refine Rg [.a, .a, .a, .a, .a, .a, .a, (.v (vB b1))] (sl 117 [(1, vP [1] (0)), (11, vB b1)] [bx [1] (encSAbility a0)]) (aG ((decide (a0.Kind < (1 : Int))) == false) <| aG ((decide (a0.Kind < (1 : Int))) == false) <| aF (decide (a0.Kind < (1 : Int))) <| aB hb1 <| aN) ?_
 refine iB h (fun b2 h => ?_) (fun b2 h => ?_)
 · refine Rg [.a] (sl 117 [(2, vB false)] []) (aN) ?_
   refine Holds.ret ?_
   refine Tr ?_
   exact bQ (vB false) (congrArg vB (sI h))
 · refine Holds.skip ?_
   refine Tn ?_
   obtain ⟨b3, hb3, h⟩ := bS h
   obtain ⟨b4, hb4, h⟩ := bS h
   refine Rg [.a, .a, .a, .a, .a, .a, .a, (.v (vB b3)), .a, .a, .a, .a, (.v (vB b4)), .a] (sl 117 [(1, vP [1] (0)), (3, vB b4)] [bx [1] (encSAbility a0)]) (aG ((a0.Kind == (2 : Int)) == false) <| aG ((a0.Kind == (2 : Int)) == false) <| aF (a0.Kind == (2 : Int)) <| aB hb3 <| aG (b3 == false) <| aG (b3 == false) <| aF b3 <| aB hb4 <| aN) ?_
   refine Sj (X := Unit) (fun v => (sl 117 [(1, vP [1] (0)), (3, vB b4)] [bx [1] (encSAbility a0)])) (fun v => r20_Is_J5 a0 b4 = some r) ?_ ?_
   · refine Rg [.a, .a, .a] (sl 117 [(1, vP [1] (0)), (3, vB b4), (27, vB (a0.Kind == (1 : Int)))] [bx [1] (encSAbility a0)]) (aN) ?_
     refine iB h (fun b28 h => ?_) (fun b28 h => ?_)
     · obtain ⟨r29, hr29, h⟩ := bS h
       obtain ⟨b30, hb30, h⟩ := bS h
       obtain ⟨r31, hr31, h⟩ := bS h
       obtain ⟨b32, hb32, h⟩ := bS h
       refine Rg [.a, .a, (.c (vB r29)), .a, .a, .a, .a, .a, .a, (.v (vB b30)), .a, .a, .a, (.c (vS r31)), .a, (.v (vB b32))] (sl 117 [(1, vP [1] (0)), (3, vB b4), (43, vB b32)] [bx [1] (encSAbility a0)]) (aC (r13_Is_ok hr29) <| aG ((!r29) == false) <| aG ((!r29) == false) <| aG ((!r29) == false) <| aF (!r29) <| aB hb30 <| aG (b30 == false) <| aC (c1 hr31 r15_ListText_ok) <| aG (b30 == false) <| aF b30 <| aB hb32 <| aN) ?_
       refine iB h (fun b33 h => ?_) (fun b33 h => ?_)
       · refine Rg [.a] (sl 117 [(2, vB false)] []) (aN) ?_
         refine Holds.ret ?_
         refine Tr ?_
         exact bQ (vB false) (congrArg vB (sI h))
       · refine Holds.skip ?_
         refine Tn ⟨(), h, wT⟩
     · obtain ⟨b34, hb34, h⟩ := bS h
       refine Rg [.a, .a, .a, (.v (vB (!(a0.Filter == (⟨(0 : Int), (0 : Int), (0 : Int), (0 : Int), (0 : Int), (0 : Int), (0 : Int), [], (0 : Int), (0 : Int), (⟨(0 : Int), (0 : Int)⟩ : SBound), (⟨(0 : Int), (0 : Int)⟩ : SBound), (⟨(0 : Int), (0 : Int)⟩ : SBound)⟩ : SFilter))))), .a, .a, .a, .a, .a, (.v (vB b34))] (sl 117 [(1, vP [1] (0)), (3, vB b4), (53, vB b34)] [bx [1] (encSAbility a0)]) (aC (And.intro trivial okp94) <| aC (congrArg (fun z => V.c (.bool (!z))) (eqT94 a0.Filter (⟨(0 : Int), (0 : Int), (0 : Int), (0 : Int), (0 : Int), (0 : Int), (0 : Int), [], (0 : Int), (0 : Int), (⟨(0 : Int), (0 : Int)⟩ : SBound), (⟨(0 : Int), (0 : Int)⟩ : SBound), (⟨(0 : Int), (0 : Int)⟩ : SBound)⟩ : SFilter))) <| aG ((!(a0.Filter == (⟨(0 : Int), (0 : Int), (0 : Int), (0 : Int), (0 : Int), (0 : Int), (0 : Int), [], (0 : Int), (0 : Int), (⟨(0 : Int), (0 : Int)⟩ : SBound), (⟨(0 : Int), (0 : Int)⟩ : SBound), (⟨(0 : Int), (0 : Int)⟩ : SBound)⟩ : SFilter))) == false) <| aG ((!(a0.Filter == (⟨(0 : Int), (0 : Int), (0 : Int), (0 : Int), (0 : Int), (0 : Int), (0 : Int), [], (0 : Int), (0 : Int), (⟨(0 : Int), (0 : Int)⟩ : SBound), (⟨(0 : Int), (0 : Int)⟩ : SBound), (⟨(0 : Int), (0 : Int)⟩ : SBound)⟩ : SFilter))) == false) <| aG ((!(a0.Filter == (⟨(0 : Int), (0 : Int), (0 : Int), (0 : Int), (0 : Int), (0 : Int), (0 : Int), [], (0 : Int), (0 : Int), (⟨(0 : Int), (0 : Int)⟩ : SBound), (⟨(0 : Int), (0 : Int)⟩ : SBound), (⟨(0 : Int), (0 : Int)⟩ : SBound)⟩ : SFilter))) == false) <| aF (!(a0.Filter == (⟨(0 : Int), (0 : Int), (0 : Int), (0 : Int), (0 : Int), (0 : Int), (0 : Int), [], (0 : Int), (0 : Int), (⟨(0 : Int), (0 : Int)⟩ : SBound), (⟨(0 : Int), (0 : Int)⟩ : SBound), (⟨(0 : Int), (0 : Int)⟩ : SBound)⟩ : SFilter))) <| aB hb34 <| aN) ?_
       refine iB h (fun b35 h => ?_) (fun b35 h => ?_)
       · refine Rg [.a] (sl 117 [(2, vB false)] []) (aN) ?_
         refine Holds.ret ?_
         refine Tr ?_
         exact bQ (vB false) (congrArg vB (sI h))
       · refine Holds.skip ?_
         refine Tn ⟨(), h, wT⟩
   · rintro _ hJ5
     replace hJ5 : r20_Is_J5 a0 b4 = some r := hJ5
     unfold r20_Is_J5 at hJ5
     refine Sj (X := Unit) (fun v => (sl 117 [(1, vP [1] (0)), (3, vB b4)] [bx [1] (encSAbility a0)])) (fun v => r20_Is_J6 a0 b4 = some r) ?_ ?_
     · refine Rg [.a, .a, .a] (sl 117 [(1, vP [1] (0)), (3, vB b4), (56, vB (a0.Kind == (3 : Int)))] [bx [1] (encSAbility a0)]) (aN) ?_
       refine iB hJ5 (fun b23 hJ5 => ?_) (fun b23 hJ5 => ?_)
       · obtain ⟨r24, hr24, hJ5⟩ := bS hJ5
         refine Rg [.a, .a, (.c (vB r24)), .a] (sl 117 [(1, vP [1] (0)), (3, vB b4), (60, vB (!r24))] [bx [1] (encSAbility a0)]) (aC (r20_price_ok hr24) <| aN) ?_
         refine iB hJ5 (fun b25 hJ5 => ?_) (fun b25 hJ5 => ?_)
         · refine Rg [.a] (sl 117 [(2, vB false)] []) (aN) ?_
           refine Holds.ret ?_
           refine Tr ?_
           exact bQ (vB false) (congrArg vB (sI hJ5))
         · refine Holds.skip ?_
           refine Tn ⟨(), hJ5, wT⟩
       · obtain ⟨b26, hb26, hJ5⟩ := bS hJ5
         refine Rg [.a, .a, .a, (.v (vB (!(a0.Price == (⟨(⟨(0 : Int), (0 : Int), (⟨(0 : Int), (0 : Int), (0 : Int), (0 : Int), (0 : Int)⟩ : A5 (Int))⟩ : SCost), false, false, (0 : Int)⟩ : SPrice))))), .a, .a, .a, (.v (vB b26))] (sl 117 [(1, vP [1] (0)), (3, vB b4), (68, vB b26)] [bx [1] (encSAbility a0)]) (aC (And.intro trivial okp97) <| aC (congrArg (fun z => V.c (.bool (!z))) (eqT97 a0.Price (⟨(⟨(0 : Int), (0 : Int), (⟨(0 : Int), (0 : Int), (0 : Int), (0 : Int), (0 : Int)⟩ : A5 (Int))⟩ : SCost), false, false, (0 : Int)⟩ : SPrice))) <| aG ((!(a0.Price == (⟨(⟨(0 : Int), (0 : Int), (⟨(0 : Int), (0 : Int), (0 : Int), (0 : Int), (0 : Int)⟩ : A5 (Int))⟩ : SCost), false, false, (0 : Int)⟩ : SPrice))) == false) <| aF (!(a0.Price == (⟨(⟨(0 : Int), (0 : Int), (⟨(0 : Int), (0 : Int), (0 : Int), (0 : Int), (0 : Int)⟩ : A5 (Int))⟩ : SCost), false, false, (0 : Int)⟩ : SPrice))) <| aB hb26 <| aN) ?_
         refine iB hJ5 (fun b27 hJ5 => ?_) (fun b27 hJ5 => ?_)
         · refine Rg [.a] (sl 117 [(2, vB false)] []) (aN) ?_
           refine Holds.ret ?_
           refine Tr ?_
           exact bQ (vB false) (congrArg vB (sI hJ5))
         · refine Holds.skip ?_
           refine Tn ⟨(), hJ5, wT⟩
     · rintro _ hJ6
       replace hJ6 : r20_Is_J6 a0 b4 = some r := hJ6
       unfold r20_Is_J6 at hJ6
       refine Sj (X := Unit) (fun v => (sl 117 [(1, vP [1] (0)), (3, vB b4)] [bx [1] (encSAbility a0)])) (fun v => r20_Is_J7 a0 b4 = some r) ?_ ?_
       · refine Rg [.a, .a, .a] (sl 117 [(1, vP [1] (0)), (3, vB b4), (71, vB (a0.Kind == (4 : Int)))] [bx [1] (encSAbility a0)]) (aN) ?_
         refine iB hJ6 (fun b18 hJ6 => ?_) (fun b18 hJ6 => ?_)
         · obtain ⟨r19, hr19, hJ6⟩ := bS hJ6
           refine Rg [.a, .a, (.c (vB r19)), .a] (sl 117 [(1, vP [1] (0)), (3, vB b4), (75, vB (!r19))] [bx [1] (encSAbility a0)]) (aC (r18_Is_ok hr19) <| aN) ?_
           refine iB hJ6 (fun b20 hJ6 => ?_) (fun b20 hJ6 => ?_)
           · refine Rg [.a] (sl 117 [(2, vB false)] []) (aN) ?_
             refine Holds.ret ?_
             refine Tr ?_
             exact bQ (vB false) (congrArg vB (sI hJ6))
           · refine Holds.skip ?_
             refine Tn ⟨(), hJ6, wT⟩
         · obtain ⟨b21, hb21, hJ6⟩ := bS hJ6
           refine Rg [.a, .a, .a, (.v (vB (!(a0.Trigger == (⟨(0 : Int), (0 : Int), (⟨(0 : Int), (0 : Int), (0 : Int), (0 : Int), (0 : Int), (0 : Int), (0 : Int), [], (0 : Int), (0 : Int), (⟨(0 : Int), (0 : Int)⟩ : SBound), (⟨(0 : Int), (0 : Int)⟩ : SBound), (⟨(0 : Int), (0 : Int)⟩ : SBound)⟩ : SFilter)⟩ : STrigger))))), .a, .a, .a, (.v (vB b21))] (sl 117 [(1, vP [1] (0)), (3, vB b4), (83, vB b21)] [bx [1] (encSAbility a0)]) (aC (And.intro trivial okp99) <| aC (congrArg (fun z => V.c (.bool (!z))) (eqT99 a0.Trigger (⟨(0 : Int), (0 : Int), (⟨(0 : Int), (0 : Int), (0 : Int), (0 : Int), (0 : Int), (0 : Int), (0 : Int), [], (0 : Int), (0 : Int), (⟨(0 : Int), (0 : Int)⟩ : SBound), (⟨(0 : Int), (0 : Int)⟩ : SBound), (⟨(0 : Int), (0 : Int)⟩ : SBound)⟩ : SFilter)⟩ : STrigger))) <| aG ((!(a0.Trigger == (⟨(0 : Int), (0 : Int), (⟨(0 : Int), (0 : Int), (0 : Int), (0 : Int), (0 : Int), (0 : Int), (0 : Int), [], (0 : Int), (0 : Int), (⟨(0 : Int), (0 : Int)⟩ : SBound), (⟨(0 : Int), (0 : Int)⟩ : SBound), (⟨(0 : Int), (0 : Int)⟩ : SBound)⟩ : SFilter)⟩ : STrigger))) == false) <| aF (!(a0.Trigger == (⟨(0 : Int), (0 : Int), (⟨(0 : Int), (0 : Int), (0 : Int), (0 : Int), (0 : Int), (0 : Int), (0 : Int), [], (0 : Int), (0 : Int), (⟨(0 : Int), (0 : Int)⟩ : SBound), (⟨(0 : Int), (0 : Int)⟩ : SBound), (⟨(0 : Int), (0 : Int)⟩ : SBound)⟩ : SFilter)⟩ : STrigger))) <| aB hb21 <| aN) ?_
           refine iB hJ6 (fun b22 hJ6 => ?_) (fun b22 hJ6 => ?_)
           · refine Rg [.a] (sl 117 [(2, vB false)] []) (aN) ?_
             refine Holds.ret ?_
             refine Tr ?_
             exact bQ (vB false) (congrArg vB (sI hJ6))
           · refine Holds.skip ?_
             refine Tn ⟨(), hJ6, wT⟩
       · rintro _ hJ7
         replace hJ7 : r20_Is_J7 a0 b4 = some r := hJ7
         unfold r20_Is_J7 at hJ7
         refine Sj (X := Unit) (fun v => (sl 117 [(1, vP [1] (0)), (3, vB b4)] [bx [1] (encSAbility a0)])) (fun v => r20_Is_J8 a0 b4 = some r) ?_ ?_
         · refine Rg [.a, .a, .a] (sl 117 [(1, vP [1] (0)), (3, vB b4), (86, vB (a0.Kind == (5 : Int)))] [bx [1] (encSAbility a0)]) (aN) ?_
           refine iB hJ7 (fun b14 hJ7 => ?_) (fun b14 hJ7 => ?_)
           · obtain ⟨r15, hr15, hJ7⟩ := bS hJ7
             refine Rg [.a, .a, (.c (vB r15)), .a] (sl 117 [(1, vP [1] (0)), (3, vB b4), (90, vB (!r15))] [bx [1] (encSAbility a0)]) (aC (r19_Is_ok hr15) <| aN) ?_
             refine iB hJ7 (fun b16 hJ7 => ?_) (fun b16 hJ7 => ?_)
             · refine Rg [.a] (sl 117 [(2, vB false)] []) (aN) ?_
               refine Holds.ret ?_
               refine Tr ?_
               exact bQ (vB false) (congrArg vB (sI hJ7))
             · refine Holds.skip ?_
               refine Tn ⟨(), hJ7, wT⟩
           · refine Rg [.a, .a, .a, (.v (vB (!(a0.Replace == (⟨(0 : Int), (0 : Int), (⟨(0 : Int), (0 : Int), (0 : Int), (0 : Int), (0 : Int), (0 : Int), (0 : Int), [], (0 : Int), (0 : Int), (⟨(0 : Int), (0 : Int)⟩ : SBound), (⟨(0 : Int), (0 : Int)⟩ : SBound), (⟨(0 : Int), (0 : Int)⟩ : SBound)⟩ : SFilter), (0 : Int), (0 : Int), (0 : Int), (0 : Int)⟩ : SReplace)))))] (sl 117 [(1, vP [1] (0)), (3, vB b4), (94, vB (!(a0.Replace == (⟨(0 : Int), (0 : Int), (⟨(0 : Int), (0 : Int), (0 : Int), (0 : Int), (0 : Int), (0 : Int), (0 : Int), [], (0 : Int), (0 : Int), (⟨(0 : Int), (0 : Int)⟩ : SBound), (⟨(0 : Int), (0 : Int)⟩ : SBound), (⟨(0 : Int), (0 : Int)⟩ : SBound)⟩ : SFilter), (0 : Int), (0 : Int), (0 : Int), (0 : Int)⟩ : SReplace))))] [bx [1] (encSAbility a0)]) (aC (And.intro trivial okp103) <| aC (congrArg (fun z => V.c (.bool (!z))) (eqT103 a0.Replace (⟨(0 : Int), (0 : Int), (⟨(0 : Int), (0 : Int), (0 : Int), (0 : Int), (0 : Int), (0 : Int), (0 : Int), [], (0 : Int), (0 : Int), (⟨(0 : Int), (0 : Int)⟩ : SBound), (⟨(0 : Int), (0 : Int)⟩ : SBound), (⟨(0 : Int), (0 : Int)⟩ : SBound)⟩ : SFilter), (0 : Int), (0 : Int), (0 : Int), (0 : Int)⟩ : SReplace))) <| aN) ?_
             refine iB hJ7 (fun b17 hJ7 => ?_) (fun b17 hJ7 => ?_)
             · refine Rg [.a] (sl 117 [(2, vB false)] []) (aN) ?_
               refine Holds.ret ?_
               refine Tr ?_
               exact bQ (vB false) (congrArg vB (sI hJ7))
             · refine Holds.skip ?_
               refine Tn ⟨(), hJ7, wT⟩
         · rintro _ hJ8
           replace hJ8 : r20_Is_J8 a0 b4 = some r := hJ8
           unfold r20_Is_J8 at hJ8
           refine Holds.seq ?_
           refine Rg [.a] (sl 117 [(1, vP [1] (0)), (95, vB b4)] [bx [1] (encSAbility a0)]) (aN) ?_
           refine iB hJ8 (fun b9 hJ8 => ?_) (fun b9 hJ8 => ?_)
           · obtain ⟨r10, hr10, hJ8⟩ := bS hJ8
             obtain ⟨r11, hr11, hJ8⟩ := bS hJ8
             obtain ⟨b12, hb12, hJ8⟩ := bS hJ8
             refine Rg [.a, .a, (.c (vB r10)), .a, .a, .a, .a, .a, .a, (.c (vB r11)), (.v (vB b12)), .a] (sl 117 [(2, vB b12)] []) (aC (r20_specs_ok hr10) <| aG (r10 == true) <| aG (r10 == true) <| aG (r10 == true) <| aC (c2 hr11 r20_effects_ok) <| aT r10 <| aB hb12 <| aN) ?_
             refine Holds.ret ?_
             refine Tr ?_
             exact bQ (vB b12) (congrArg vB (sI hJ8))
           · refine Holds.skip ?_
             refine Tn ?_
             obtain ⟨b13, hb13, hJ8⟩ := bS hJ8
             refine Rg [.a, .a, .a, .a, .a, .a, .a, .a, .a, (.v (vB b13)), .a] (sl 117 [(2, vB b13)] []) (aG (((a0.Specs.length : Int) == (0 : Int)) == true) <| aG (((a0.Specs.length : Int) == (0 : Int)) == true) <| aG (((a0.Specs.length : Int) == (0 : Int)) == true) <| aT ((a0.Specs.length : Int) == (0 : Int)) <| aB hb13 <| aN) ?_
             refine Holds.ret ?_
             exact bQ (vB b13) (congrArg vB (sI hJ8))
end Go.PL
