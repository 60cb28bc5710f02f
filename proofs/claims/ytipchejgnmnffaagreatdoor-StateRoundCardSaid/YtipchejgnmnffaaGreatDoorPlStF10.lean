/- Functions of the program, as partial functions in Lean, with proofs. -/
import Derived.Test.YtipchejgnmnffaaGreatDoorPlStB
import Derived.Test.YtipchejgnmnffaaGreatDoorPlStF0
import Derived.Test.YtipchejgnmnffaaGreatDoorPlStF3
import Derived.Test.YtipchejgnmnffaaGreatDoorPlStF4
import Derived.Test.YtipchejgnmnffaaGreatDoorPlStF9
namespace Go.PL
open Go Go.RowKit Go.Proofs
set_option maxRecDepth 100000
set_option linter.all false
set_option maxHeartbeats 1000000
attribute [local irreducible] Holds thenQ blockQ
/-- cardgame/cardgamelaw26.light -/
def law26_light (a0 : List (SCard)) (a1 : SState) : Option (Bool) :=
 (gd ((decide ((a0.length : Int) ≤ (300 : Int))) == true) (r26_Small a1)).bind fun r1 =>
 (some (if (decide ((a0.length : Int) ≤ (300 : Int))) = true then r1 else false)).bind fun b2 =>
 some b2
def law26_light_C (a0 : List (SCard)) (a1 : SState) (r : Bool) : Prop := PCall Tryz.prog I0 14 [vL encSCard a0, vA encSState a1] (· = vB r)
theorem law26_light_ok {a0 : List (SCard)} {a1 : SState} {r : Bool} (h : law26_light a0 a1 = some r) : law26_light_C a0 a1 r := by
 refine PCall.body I0_stable (by kernel_rfl) Tryz.func14 rfl Tryz.ntmps14 (rs := [.tmp 4]) rfl rfl ?_
 intro w0 av old gv
 unfold law26_light at h
 refine Rg [.a, .a] (sl 12 [(0, vL encSCard a0), (3, vP [3] (0))] [bx [3] (encSState a1)]) (aN) ?_
 obtain ⟨r1, hr1, h⟩ := bS h
 obtain ⟨b2, hb2, h⟩ := bS h
 refine Rg [.a, .a, .a, .a, .a, (.c (vB r1)), (.v (vB b2)), .a] (sl 12 [(4, vB b2)] []) (aC (c1 hr1 r26_Small_ok) <| aT (decide ((a0.length : Int) ≤ (300 : Int))) <| aB hb2 <| aN) ?_
 refine Holds.ret ?_
 exact bQ (vB b2) (congrArg vB (sI h))
/-- cardgame/state.sameAbility -/
def state_sameAbility (a0 : SAbility) (a1 : SAbility) : Option (Bool) :=
 (some (if (a0.Kind == a1.Kind) = true then a0.Filter == a1.Filter else false)).bind fun b1 =>
 (gd (b1 == true) (state_each_api_Mod_state_equal_api_Mod a0.Mods a1.Mods)).bind fun r2 =>
 (some (if b1 = true then r2 else false)).bind fun b3 =>
 (some (if b3 = true then a0.Price == a1.Price else false)).bind fun b4 =>
 (some (if b4 = true then a0.Slow == a1.Slow else false)).bind fun b5 =>
 (some (if b5 = true then a0.Trigger == a1.Trigger else false)).bind fun b6 =>
 (some (if b6 = true then a0.May == a1.May else false)).bind fun b7 =>
 (gd (b7 == true) (state_each_api_Spec_state_equal_api_Spec a0.Specs a1.Specs)).bind fun r8 =>
 (some (if b7 = true then r8 else false)).bind fun b9 =>
 (gd (b9 == true) (state_each_api_Effect_state_sameEffect a0.Effects a1.Effects)).bind fun r10 =>
 (some (if b9 = true then r10 else false)).bind fun b11 =>
 (some (if b11 = true then a0.Replace == a1.Replace else false)).bind fun b12 =>
 some b12
def state_sameAbility_C (a0 : SAbility) (a1 : SAbility) (r : Bool) : Prop := PCall Tryz.prog I0 63 [vA encSAbility a0, vA encSAbility a1] (· = vB r)
theorem state_sameAbility_ok {a0 : SAbility} {a1 : SAbility} {r : Bool} (h : state_sameAbility a0 a1 = some r) : state_sameAbility_C a0 a1 r := by
 refine PCall.body I0_stable (by kernel_rfl) Tryz.func63 rfl Tryz.ntmps63 (rs := [.tmp 4]) rfl rfl ?_
 intro w0 av old gv
 unfold state_sameAbility at h
 refine Rg [.a, .a, .a] (sl 73 [(2, vP [2] (0)), (3, vP [3] (0))] [bx [3] (encSAbility a1), bx [2] (encSAbility a0)]) (aN) ?_
 obtain ⟨b1, hb1, h⟩ := bS h
 obtain ⟨r2, hr2, h⟩ := bS h
 obtain ⟨b3, hb3, h⟩ := bS h
 obtain ⟨b4, hb4, h⟩ := bS h
 obtain ⟨b5, hb5, h⟩ := bS h
 obtain ⟨b6, hb6, h⟩ := bS h
 obtain ⟨b7, hb7, h⟩ := bS h
 obtain ⟨r8, hr8, h⟩ := bS h
 obtain ⟨b9, hb9, h⟩ := bS h
 obtain ⟨r10, hr10, h⟩ := bS h
 obtain ⟨b11, hb11, h⟩ := bS h
 obtain ⟨b12, hb12, h⟩ := bS h
 refine Rg [.a, .a, .a, .a, .a, .a, .a, .a, .a, .a, (.v (vB (a0.Filter == a1.Filter))), (.v (vB b1)), .a, .a, .a, .a, .a, (.c (vB r2)), (.v (vB b3)), .a, .a, .a, .a, .a, (.v (vB (a0.Price == a1.Price))), (.v (vB b4)), .a, .a, .a, .a, .a, .a, (.v (vB b5)), .a, .a, .a, .a, .a, (.v (vB (a0.Trigger == a1.Trigger))), (.v (vB b6)), .a, .a, .a, .a, .a, .a, (.v (vB b7)), .a, .a, .a, .a, .a, (.c (vB r8)), (.v (vB b9)), .a, .a, .a, .a, .a, (.c (vB r10)), (.v (vB b11)), .a, .a, .a, .a, .a, (.v (vB (a0.Replace == a1.Replace))), (.v (vB b12)), .a] (sl 73 [(4, vB b12)] []) (aG ((a0.Kind == a1.Kind) == true) <| aG ((a0.Kind == a1.Kind) == true) <| aC (fun hg : ((a0.Kind == a1.Kind) == true) = true => aC (gi ((a0.Kind == a1.Kind) == true)) <| aC (gi ((a0.Kind == a1.Kind) == true)) <| aC (congrArg (fun z => V.c (.bool (z))) (eqT62 a0.Filter a1.Filter)) <| aN) <| aT (a0.Kind == a1.Kind) <| aB hb1 <| aG (b1 == true) <| aG (b1 == true) <| aC (c2 hr2 state_each_api_Mod_state_equal_api_Mod_ok) <| aT b1 <| aB hb3 <| aG (b3 == true) <| aG (b3 == true) <| aC (fun hg : (b3 == true) = true => aC (gi (b3 == true)) <| aC (gi (b3 == true)) <| aC (congrArg (fun z => V.c (.bool (z))) (eqT68 a0.Price a1.Price)) <| aN) <| aT b3 <| aB hb4 <| aG (b4 == true) <| aG (b4 == true) <| aC (fun hg : (b4 == true) = true => aC (gi (b4 == true)) <| aC (gi (b4 == true)) <| aC isb4 <| aN) <| aT b4 <| aB hb5 <| aG (b5 == true) <| aG (b5 == true) <| aC (fun hg : (b5 == true) = true => aC (gi (b5 == true)) <| aC (gi (b5 == true)) <| aC (congrArg (fun z => V.c (.bool (z))) (eqT70 a0.Trigger a1.Trigger)) <| aN) <| aT b5 <| aB hb6 <| aG (b6 == true) <| aG (b6 == true) <| aC (fun hg : (b6 == true) = true => aC (gi (b6 == true)) <| aC (gi (b6 == true)) <| aC isb4 <| aN) <| aT b6 <| aB hb7 <| aG (b7 == true) <| aG (b7 == true) <| aC (c2 hr8 state_each_api_Spec_state_equal_api_Spec_ok) <| aT b7 <| aB hb9 <| aG (b9 == true) <| aG (b9 == true) <| aC (c2 hr10 state_each_api_Effect_state_sameEffect_ok) <| aT b9 <| aB hb11 <| aG (b11 == true) <| aG (b11 == true) <| aC (fun hg : (b11 == true) = true => aC (gi (b11 == true)) <| aC (gi (b11 == true)) <| aC (congrArg (fun z => V.c (.bool (z))) (eqT74 a0.Replace a1.Replace)) <| aN) <| aT b11 <| aB hb12 <| aN) ?_
 refine Holds.ret ?_
 exact bQ (vB b12) (congrArg vB (sI h))
end Go.PL
