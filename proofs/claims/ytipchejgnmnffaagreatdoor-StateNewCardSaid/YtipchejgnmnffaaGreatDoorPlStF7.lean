/- Functions of the program, as partial functions in Lean, with proofs. -/
import Derived.Test.YtipchejgnmnffaaGreatDoorPlStB
import Derived.Test.YtipchejgnmnffaaGreatDoorPlStF0
import Derived.Test.YtipchejgnmnffaaGreatDoorPlStF1
import Derived.Test.YtipchejgnmnffaaGreatDoorPlStF4
import Derived.Test.YtipchejgnmnffaaGreatDoorPlStF6
namespace Go.PL
open Go Go.RowKit Go.Proofs
set_option maxRecDepth 100000
set_option linter.all false
set_option maxHeartbeats 1000000
attribute [local irreducible] Holds thenQ blockQ
/-- cardgame/state.Is -/
def state_Is (a0 : List (SCard)) (a1 : SState) : Option (Bool) :=
 (state_players a1).bind fun r1 =>
 (gd (r1 == true) (state_objects a0 a1)).bind fun r2 =>
 (some (if r1 = true then r2 else false)).bind fun b3 =>
 (gd (b3 == true) (state_places a1)).bind fun r4 =>
 (some (if b3 = true then r4 else false)).bind fun b5 =>
 (gd (b5 == true) (state_items a1)).bind fun r6 =>
 (some (if b5 = true then r6 else false)).bind fun b7 =>
 (gd (b7 == true) (state_effects a1)).bind fun r8 =>
 (some (if b7 = true then r8 else false)).bind fun b9 =>
 (gd (b9 == true) (state_numbers a1)).bind fun r10 =>
 (some (if b9 = true then r10 else false)).bind fun b11 =>
 some b11
def state_Is_C (a0 : List (SCard)) (a1 : SState) (r : Bool) : Prop := PCall Tryz.prog I0 12 [vL encSCard a0, vA encSState a1] (· = vB r)
theorem state_Is_ok {a0 : List (SCard)} {a1 : SState} {r : Bool} (h : state_Is a0 a1 = some r) : state_Is_C a0 a1 r := by
 refine PCall.body I0_stable (by kernel_rfl) Tryz.func12 rfl Tryz.ntmps12 (rs := [.tmp 4]) rfl rfl ?_
 intro w0 av old gv
 unfold state_Is at h
 refine Rg [.a, .a] (sl 28 [(0, vL encSCard a0), (3, vP [3] (0))] [bx [3] (encSState a1)]) (aN) ?_
 obtain ⟨r1, hr1, h⟩ := bS h
 obtain ⟨r2, hr2, h⟩ := bS h
 obtain ⟨b3, hb3, h⟩ := bS h
 obtain ⟨r4, hr4, h⟩ := bS h
 obtain ⟨b5, hb5, h⟩ := bS h
 obtain ⟨r6, hr6, h⟩ := bS h
 obtain ⟨b7, hb7, h⟩ := bS h
 obtain ⟨r8, hr8, h⟩ := bS h
 obtain ⟨b9, hb9, h⟩ := bS h
 obtain ⟨r10, hr10, h⟩ := bS h
 obtain ⟨b11, hb11, h⟩ := bS h
 refine Rg [.a, (.c (vB r1)), .a, .a, .a, (.c (vB r2)), (.v (vB b3)), .a, .a, (.c (vB r4)), (.v (vB b5)), .a, .a, (.c (vB r6)), (.v (vB b7)), .a, .a, (.c (vB r8)), (.v (vB b9)), .a, .a, (.c (vB r10)), (.v (vB b11)), .a] (sl 28 [(4, vB b11)] []) (aC (state_players_ok hr1) <| aC (c2 hr2 state_objects_ok) <| aT r1 <| aB hb3 <| aC (c1 hr4 state_places_ok) <| aT b3 <| aB hb5 <| aC (c1 hr6 state_items_ok) <| aT b5 <| aB hb7 <| aC (c1 hr8 state_effects_ok) <| aT b7 <| aB hb9 <| aC (c1 hr10 state_numbers_ok) <| aT b9 <| aB hb11 <| aN) ?_
 refine Holds.ret ?_
 exact bQ (vB b11) (congrArg vB (sI h))
/-- cardgame/state.each[cardgame/api.Player] -/
def state_each_api_Player_state_samePlayer (a0 : List (SPlayer)) (a1 : List (SPlayer)) : Option (Bool) :=
 (slices_EqualFunc_api_Player_api_Player_api_Player_api_Player_state_samePlayer a0 a1).bind fun r1 =>
 some r1
def state_each_api_Player_state_samePlayer_C (a0 : List (SPlayer)) (a1 : List (SPlayer)) (r : Bool) : Prop := PCall Tryz.prog I0 40 [vL encSPlayer a0, vL encSPlayer a1, .c (.fn 41)] (· = vB r)
theorem state_each_api_Player_state_samePlayer_ok {a0 : List (SPlayer)} {a1 : List (SPlayer)} {r : Bool} (h : state_each_api_Player_state_samePlayer a0 a1 = some r) : state_each_api_Player_state_samePlayer_C a0 a1 r := by
 refine PCall.body I0_stable (by kernel_rfl) Tryz.func40 rfl Tryz.ntmps40 (rs := [.tmp 6]) rfl rfl ?_
 intro w0 av old gv
 unfold state_each_api_Player_state_samePlayer at h
 refine Rg [.a] (sl 11 [(0, vL encSPlayer a0), (1, vL encSPlayer a1), (2, .c (.fn 41))] []) (aN) ?_
 obtain ⟨r1, hr1, h⟩ := bS h
 refine Rg [.a, .a, .a, (.c (vB r1)), .a] (sl 11 [(6, vB r1)] []) (aC (slices_EqualFunc_api_Player_api_Player_api_Player_api_Player_state_samePlayer_ok hr1) <| aN) ?_
 refine Holds.ret ?_
 exact bQ (vB r1) (congrArg vB (sI h))
def slices_EqualFunc_api_Effect_api_Effect_api_Effect_api_Effect_state_sameEffect_J2  : Option (Bool) :=
 some true
def slices_EqualFunc_api_Effect_api_Effect_api_Effect_api_Effect_state_sameEffect_B5 (a0 : List (SEffect)) (a1 : List (SEffect)) (vt17_4 : Int) : Option ((Int) ⊕ (Unit ⊕ Unit)) :=
 (if (decide (vt17_4 < (a0.length : Int))) = true then
  (idx a0 vt17_4).bind fun e7 =>
  (idx a1 vt17_4).bind fun e8 =>
  (some (if (e7.Op == e8.Op) = true then e7.Ref == e8.Ref else false)).bind fun b9 =>
  (some (if b9 = true then e7.Amount == e8.Amount else false)).bind fun b10 =>
  (some (if b10 = true then e7.Counter == e8.Counter else false)).bind fun b11 =>
  (some (if b11 = true then e7.Zone == e8.Zone else false)).bind fun b12 =>
  (some (if b12 = true then e7.Card == e8.Card else false)).bind fun b13 =>
  (some (if b13 = true then e7.Filter == e8.Filter else false)).bind fun b14 =>
  (some (if b14 = true then e7.Pool == e8.Pool else false)).bind fun b15 =>
  (gd (b15 == true) (state_each_api_Mod_state_equal_api_Mod e7.Mods e8.Mods)).bind fun r16 =>
  (some (if b15 = true then r16 else false)).bind fun b17 =>
  (if (!b17) = true then
   some (.inr (.inl ()))
  else
   some (.inl (wrap64 (vt17_4 + (1 : Int)))))
 else
  some (.inr (.inr ())))
/-- slices.EqualFunc[[]cardgame/api.Effect,[]cardgame/api.Effect,cardgame/api.Effect,cardgame/api.Effect] -/
def slices_EqualFunc_api_Effect_api_Effect_api_Effect_api_Effect_state_sameEffect (a0 : List (SEffect)) (a1 : List (SEffect)) : Option (Bool) :=
 (if ((a0.length : Int) != (a1.length : Int)) = true then
  some false
 else
  (iter (fun (v : Int) => slices_EqualFunc_api_Effect_api_Effect_api_Effect_api_Effect_state_sameEffect_B5 a0 a1 v) FU (0 : Int)).bind (Sum.elim (fun o0 => some false) (fun o1 => slices_EqualFunc_api_Effect_api_Effect_api_Effect_api_Effect_state_sameEffect_J2)))
def slices_EqualFunc_api_Effect_api_Effect_api_Effect_api_Effect_state_sameEffect_C (a0 : List (SEffect)) (a1 : List (SEffect)) (r : Bool) : Prop := PCall Tryz.prog I0 145 [vL encSEffect a0, vL encSEffect a1, .c (.fn 109)] (· = vB r)
theorem slices_EqualFunc_api_Effect_api_Effect_api_Effect_api_Effect_state_sameEffect_ok {a0 : List (SEffect)} {a1 : List (SEffect)} {r : Bool} (h : slices_EqualFunc_api_Effect_api_Effect_api_Effect_api_Effect_state_sameEffect a0 a1 = some r) : slices_EqualFunc_api_Effect_api_Effect_api_Effect_api_Effect_state_sameEffect_C a0 a1 r := by
 refine PCall.body I0_stable (by kernel_rfl) Tryz.func145 rfl Tryz.ntmps145 (rs := [.tmp 6]) rfl rfl ?_
 intro w0 av old gv
 unfold slices_EqualFunc_api_Effect_api_Effect_api_Effect_api_Effect_state_sameEffect at h
 refine Rg [.a] (sl 32 [(0, vL encSEffect a0), (1, vL encSEffect a1), (2, .c (.fn 109))] []) (aN) ?_
 refine Holds.seq ?_
 refine Rg [.a, .a, .a, .a, .a] (sl 32 [(0, vL encSEffect a0), (1, vL encSEffect a1), (2, .c (.fn 109)), (14, vB ((a0.length : Int) != (a1.length : Int)))] []) (aN) ?_
 refine iB h (fun b1 h => ?_) (fun b1 h => ?_)
 · refine Rg [.a] (sl 32 [(6, vB false)] []) (aN) ?_
   refine Holds.ret ?_
   refine Tr ?_
   exact bQ (vB false) (congrArg vB (sI h))
 · refine Holds.skip ?_
   refine Tn ?_
   refine Sj (X := Unit) (fun v => (sl 32 [] [])) (fun v => slices_EqualFunc_api_Effect_api_Effect_api_Effect_api_Effect_state_sameEffect_J2 = some r) ?_ ?_
   · refine Rg [.a, .a, .a] (sl 32 [(1, vL encSEffect a1), (2, .c (.fn 109)), (15, vL encSEffect a0), (16, vI (a0.length : Int)), (17, vI (0 : Int))] []) (aN) ?_
     refine Holds.block ?_
     obtain ⟨oB5, hiB5, h⟩ := bS h
     refine It (fun (v : Int) => (sl 32 [(1, vL encSEffect a1), (2, .c (.fn 109)), (15, vL encSEffect a0), (16, vI (a0.length : Int)), (17, vI v)] [])) hiB5 (wT) ?_
     rintro vt17_4 zB5 hzB5 hoB5
     replace hzB5 : slices_EqualFunc_api_Effect_api_Effect_api_Effect_api_Effect_state_sameEffect_B5 a0 a1 vt17_4 = some zB5 := hzB5
     unfold slices_EqualFunc_api_Effect_api_Effect_api_Effect_api_Effect_state_sameEffect_B5 at hzB5
     refine Rg [.a] (sl 32 [(1, vL encSEffect a1), (2, .c (.fn 109)), (15, vL encSEffect a0), (16, vI (a0.length : Int)), (17, vI vt17_4), (18, vB (decide (vt17_4 < (a0.length : Int))))] []) (aN) ?_
     refine Holds.seq ?_
     refine iB hzB5 (fun b6 hzB5 => ?_) (fun b6 hzB5 => ?_)
     · refine Holds.skip ?_
       refine Tn ?_
       refine Holds.seq ?_
       refine Holds.block ?_
       obtain ⟨e7, he7, hzB5⟩ := bS hzB5
       refine Rg [.a, .a, (.v (vA encSEffect e7)), .a, .a, .a] (sl 32 [(1, vL encSEffect a1), (2, .c (.fn 109)), (7, vI vt17_4), (8, vP [8] (0)), (15, vL encSEffect a0), (16, vI (a0.length : Int)), (17, vI vt17_4)] [bx [8] (encSEffect e7)]) (aC (idx_b he7) <| aC (eld he7 lenSEffect 0 64 true (vA encSEffect e7)) <| aC (Eq.refl (vA encSEffect e7)) <| aN) ?_
       obtain ⟨e8, he8, hzB5⟩ := bS hzB5
       refine Rg [.a, .a, .a, (.v (vA encSEffect e8)), .a, .a] (sl 32 [(1, vL encSEffect a1), (2, .c (.fn 109)), (8, vP [8] (0)), (9, vP [9] (0)), (15, vL encSEffect a0), (16, vI (a0.length : Int)), (17, vI vt17_4)] [bx [9] (encSEffect e8), bx [8] (encSEffect e7)]) (aC (idx_b he8) <| aC (eld he8 lenSEffect 0 64 true (vA encSEffect e8)) <| aC (Eq.refl (vA encSEffect e8)) <| aN) ?_
       refine Holds.seq ?_
       refine Holds.region ?_
       refine Rp 3 [.a, .a, .a] (sl 32 [(1, vL encSEffect a1), (2, .c (.fn 109)), (8, vP [8] (0)), (9, vP [9] (0)), (15, vL encSEffect a0), (16, vI (a0.length : Int)), (17, vI vt17_4), (26, .c (.fn 109)), (27, vA encSEffect e7), (28, vA encSEffect e8)] [bx [9] (encSEffect e8), bx [8] (encSEffect e7)]) (aN) ?_
       refine Run.inl rfl rfl (Esc.inline (s := True ∧ (True ∧ True)) (vs := [vA encSEffect e7, vA encSEffect e8]) (cs := []) 29 rfl rfl rfl (by kernel_rfl) ⟨trivial, ⟨trivial, trivial⟩⟩ (by kernel_rfl) (by kernel_rfl) Tryz.func109 rfl Tryz.ntmps109 (rs := [.tmp 4]) rfl ?_)
       intro w08 av8 old8 gv8
       refine At (sg 66 [(0, vA encSEffect e7), (1, vA encSEffect e8)] [bx [9] (encSEffect e8), bx [8] (encSEffect e7)] 32 [(1, vL encSEffect a1), (2, .c (.fn 109)), (8, vP [8] (0)), (9, vP [9] (0)), (15, vL encSEffect a0), (16, vI (a0.length : Int)), (17, vI vt17_4), (26, .c (.fn 109)), (27, vA encSEffect e7), (28, vA encSEffect e8)] [29]) ?_
       refine Rg [.a, .a, .a] (sg 66 [(2, vP [2, 29] (0)), (3, vP [3, 29] (0))] [bx [3, 29] (encSEffect e8), bx [2, 29] (encSEffect e7), bx [9] (encSEffect e8), bx [8] (encSEffect e7)] 32 [(1, vL encSEffect a1), (2, .c (.fn 109)), (8, vP [8] (0)), (9, vP [9] (0)), (15, vL encSEffect a0), (16, vI (a0.length : Int)), (17, vI vt17_4), (26, .c (.fn 109)), (27, vA encSEffect e7), (28, vA encSEffect e8)] [29]) (aN) ?_
       obtain ⟨b9, hb9, hzB5⟩ := bS hzB5
       obtain ⟨b10, hb10, hzB5⟩ := bS hzB5
       obtain ⟨b11, hb11, hzB5⟩ := bS hzB5
       obtain ⟨b12, hb12, hzB5⟩ := bS hzB5
       obtain ⟨b13, hb13, hzB5⟩ := bS hzB5
       obtain ⟨b14, hb14, hzB5⟩ := bS hzB5
       obtain ⟨b15, hb15, hzB5⟩ := bS hzB5
       obtain ⟨r16, hr16, hzB5⟩ := bS hzB5
       obtain ⟨b17, hb17, hzB5⟩ := bS hzB5
       refine Rg [.a, .a, .a, .a, .a, .a, .a, .a, .a, .a, (.v (vB (e7.Ref == e8.Ref))), (.v (vB b9)), .a, .a, .a, .a, .a, (.v (vB (e7.Amount == e8.Amount))), (.v (vB b10)), .a, .a, .a, .a, .a, .a, (.v (vB b11)), .a, .a, .a, .a, .a, .a, (.v (vB b12)), .a, .a, .a, .a, .a, .a, (.v (vB b13)), .a, .a, .a, .a, .a, (.v (vB (e7.Filter == e8.Filter))), (.v (vB b14)), .a, .a, .a, .a, .a, (.v (vB (e7.Pool == e8.Pool))), (.v (vB b15)), .a, .a, .a, .a, .a, (.c (vB r16)), (.v (vB b17)), .a] (sg 66 [(4, vB b17)] [bx [9] (encSEffect e8), bx [8] (encSEffect e7)] 32 [(1, vL encSEffect a1), (2, .c (.fn 109)), (8, vP [8] (0)), (9, vP [9] (0)), (15, vL encSEffect a0), (16, vI (a0.length : Int)), (17, vI vt17_4), (26, .c (.fn 109)), (27, vA encSEffect e7), (28, vA encSEffect e8)] [29]) (aG ((e7.Op == e8.Op) == true) <| aG ((e7.Op == e8.Op) == true) <| aC (fun hg : ((e7.Op == e8.Op) == true) = true => aC (gi ((e7.Op == e8.Op) == true)) <| aC (gi ((e7.Op == e8.Op) == true)) <| aC (congrArg (fun z => V.c (.bool (z))) (eqT136 e7.Ref e8.Ref)) <| aN) <| aT (e7.Op == e8.Op) <| aB hb9 <| aG (b9 == true) <| aG (b9 == true) <| aC (fun hg : (b9 == true) = true => aC (gi (b9 == true)) <| aC (gi (b9 == true)) <| aC (congrArg (fun z => V.c (.bool (z))) (eqT138 e7.Amount e8.Amount)) <| aN) <| aT b9 <| aB hb10 <| aG (b10 == true) <| aG (b10 == true) <| aH (b10 == true) <| aT b10 <| aB hb11 <| aG (b11 == true) <| aG (b11 == true) <| aH (b11 == true) <| aT b11 <| aB hb12 <| aG (b12 == true) <| aG (b12 == true) <| aH (b12 == true) <| aT b12 <| aB hb13 <| aG (b13 == true) <| aG (b13 == true) <| aC (fun hg : (b13 == true) = true => aC (gi (b13 == true)) <| aC (gi (b13 == true)) <| aC (congrArg (fun z => V.c (.bool (z))) (eqT62 e7.Filter e8.Filter)) <| aN) <| aT b13 <| aB hb14 <| aG (b14 == true) <| aG (b14 == true) <| aC (fun hg : (b14 == true) = true => aC (gi (b14 == true)) <| aC (gi (b14 == true)) <| aC (congrArg (fun z => V.c (.bool (z))) (eqT47 e7.Pool e8.Pool)) <| aN) <| aT b14 <| aB hb15 <| aG (b15 == true) <| aG (b15 == true) <| aC (c2 hr16 state_each_api_Mod_state_equal_api_Mod_ok) <| aT b15 <| aB hb17 <| aN) ?_
       refine Holds.ret ?_
       refine inQ.ret (v := vB b17) (by kernel_rfl) ?_
       refine Rw [.a] (sl 32 [(1, vL encSEffect a1), (2, .c (.fn 109)), (8, vP [8] (0)), (9, vP [9] (0)), (15, vL encSEffect a0), (16, vI (a0.length : Int)), (17, vI vt17_4), (26, .c (.fn 109)), (27, vA encSEffect e7), (28, vA encSEffect e8), (29, vB b17), (30, vB (!b17))] [bx [9] (encSEffect e8), bx [8] (encSEffect e7)]) (aN) ?_
       refine Tn ?_
       refine iB hzB5 (fun b18 hzB5 => ?_) (fun b18 hzB5 => ?_)
       · refine Rg [.a] (sl 32 [(6, vB false)] []) (aN) ?_
         refine Holds.ret ?_
         refine blockQ.ret ?_
         refine Tr ?_
         have hoB5_ := hoB5 _ (sI hzB5).symm
         subst hoB5_
         replace h := sumL h
         refine Tr ?_
         refine blockQ.ret ?_
         refine Tr ?_
         exact bQ (vB false) (congrArg vB (sI h))
       · refine Holds.skip ?_
         refine blockQ.normal ?_
         refine Tn ?_
         refine Re [.a, .a] (sl 32 [(1, vL encSEffect a1), (2, .c (.fn 109)), (8, vP [8] (0)), (9, vP [9] (0)), (15, vL encSEffect a0), (16, vI (a0.length : Int)), (17, vI (wrap64 (vt17_4 + (1 : Int)))), (26, .c (.fn 109)), (27, vA encSEffect e7), (28, vA encSEffect e8), (29, vB b17), (30, vB (!b17)), (31, vI (wrap64 (vt17_4 + (1 : Int))))] [bx [9] (encSEffect e8), bx [8] (encSEffect e7)]) (aN) ?_
         refine Tn ⟨(wrap64 (vt17_4 + (1 : Int))), (sI hzB5).symm, wT⟩
     · refine Holds.exit ?_
       refine thenQ.exit ?_
       have hoB5_ := hoB5 _ (sI hzB5).symm
       subst hoB5_
       replace h := sumR h
       refine thenQ.exit ?_
       refine blockQ.out ?_
       refine Tn ⟨(), h, wT⟩
   · rintro _ hJ2
     replace hJ2 : slices_EqualFunc_api_Effect_api_Effect_api_Effect_api_Effect_state_sameEffect_J2 = some r := hJ2
     unfold slices_EqualFunc_api_Effect_api_Effect_api_Effect_api_Effect_state_sameEffect_J2 at hJ2
     refine Rg [.a] (sl 32 [(6, vB true)] []) (aN) ?_
     refine Holds.ret ?_
     exact bQ (vB true) (congrArg vB (sI hJ2))
def slices_EqualFunc_api_Cont_api_Cont_api_Cont_api_Cont_state_sameCont_J2  : Option (Bool) :=
 some true
def slices_EqualFunc_api_Cont_api_Cont_api_Cont_api_Cont_state_sameCont_B5 (a0 : List (SCont)) (a1 : List (SCont)) (vt17_4 : Int) : Option ((Int) ⊕ (Unit ⊕ Unit)) :=
 (if (decide (vt17_4 < (a0.length : Int))) = true then
  (idx a0 vt17_4).bind fun e7 =>
  (idx a1 vt17_4).bind fun e8 =>
  (some (if (e7.Stamp == e8.Stamp) = true then e7.Control == e8.Control else false)).bind fun b9 =>
  (some (if b9 = true then e7.Source == e8.Source else false)).bind fun b10 =>
  (some (if b10 = true then e7.Until == e8.Until else false)).bind fun b11 =>
  (gd (b11 == true) (slices_Equal_int_int e7.Objects e8.Objects)).bind fun r12 =>
  (some (if b11 = true then r12 else false)).bind fun b13 =>
  (gd (b13 == true) (state_each_api_Mod_state_equal_api_Mod e7.Mods e8.Mods)).bind fun r14 =>
  (some (if b13 = true then r14 else false)).bind fun b15 =>
  (if (!b15) = true then
   some (.inr (.inl ()))
  else
   some (.inl (wrap64 (vt17_4 + (1 : Int)))))
 else
  some (.inr (.inr ())))
/-- slices.EqualFunc[[]cardgame/api.Cont,[]cardgame/api.Cont,cardgame/api.Cont,cardgame/api.Cont] -/
def slices_EqualFunc_api_Cont_api_Cont_api_Cont_api_Cont_state_sameCont (a0 : List (SCont)) (a1 : List (SCont)) : Option (Bool) :=
 (if ((a0.length : Int) != (a1.length : Int)) = true then
  some false
 else
  (iter (fun (v : Int) => slices_EqualFunc_api_Cont_api_Cont_api_Cont_api_Cont_state_sameCont_B5 a0 a1 v) FU (0 : Int)).bind (Sum.elim (fun o0 => some false) (fun o1 => slices_EqualFunc_api_Cont_api_Cont_api_Cont_api_Cont_state_sameCont_J2)))
def slices_EqualFunc_api_Cont_api_Cont_api_Cont_api_Cont_state_sameCont_C (a0 : List (SCont)) (a1 : List (SCont)) (r : Bool) : Prop := PCall Tryz.prog I0 82 [vL encSCont a0, vL encSCont a1, .c (.fn 50)] (· = vB r)
theorem slices_EqualFunc_api_Cont_api_Cont_api_Cont_api_Cont_state_sameCont_ok {a0 : List (SCont)} {a1 : List (SCont)} {r : Bool} (h : slices_EqualFunc_api_Cont_api_Cont_api_Cont_api_Cont_state_sameCont a0 a1 = some r) : slices_EqualFunc_api_Cont_api_Cont_api_Cont_api_Cont_state_sameCont_C a0 a1 r := by
 refine PCall.body I0_stable (by kernel_rfl) Tryz.func82 rfl Tryz.ntmps82 (rs := [.tmp 6]) rfl rfl ?_
 intro w0 av old gv
 unfold slices_EqualFunc_api_Cont_api_Cont_api_Cont_api_Cont_state_sameCont at h
 refine Rg [.a] (sl 32 [(0, vL encSCont a0), (1, vL encSCont a1), (2, .c (.fn 50))] []) (aN) ?_
 refine Holds.seq ?_
 refine Rg [.a, .a, .a, .a, .a] (sl 32 [(0, vL encSCont a0), (1, vL encSCont a1), (2, .c (.fn 50)), (14, vB ((a0.length : Int) != (a1.length : Int)))] []) (aN) ?_
 refine iB h (fun b1 h => ?_) (fun b1 h => ?_)
 · refine Rg [.a] (sl 32 [(6, vB false)] []) (aN) ?_
   refine Holds.ret ?_
   refine Tr ?_
   exact bQ (vB false) (congrArg vB (sI h))
 · refine Holds.skip ?_
   refine Tn ?_
   refine Sj (X := Unit) (fun v => (sl 32 [] [])) (fun v => slices_EqualFunc_api_Cont_api_Cont_api_Cont_api_Cont_state_sameCont_J2 = some r) ?_ ?_
   · refine Rg [.a, .a, .a] (sl 32 [(1, vL encSCont a1), (2, .c (.fn 50)), (15, vL encSCont a0), (16, vI (a0.length : Int)), (17, vI (0 : Int))] []) (aN) ?_
     refine Holds.block ?_
     obtain ⟨oB5, hiB5, h⟩ := bS h
     refine It (fun (v : Int) => (sl 32 [(1, vL encSCont a1), (2, .c (.fn 50)), (15, vL encSCont a0), (16, vI (a0.length : Int)), (17, vI v)] [])) hiB5 (wT) ?_
     rintro vt17_4 zB5 hzB5 hoB5
     replace hzB5 : slices_EqualFunc_api_Cont_api_Cont_api_Cont_api_Cont_state_sameCont_B5 a0 a1 vt17_4 = some zB5 := hzB5
     unfold slices_EqualFunc_api_Cont_api_Cont_api_Cont_api_Cont_state_sameCont_B5 at hzB5
     refine Rg [.a] (sl 32 [(1, vL encSCont a1), (2, .c (.fn 50)), (15, vL encSCont a0), (16, vI (a0.length : Int)), (17, vI vt17_4), (18, vB (decide (vt17_4 < (a0.length : Int))))] []) (aN) ?_
     refine Holds.seq ?_
     refine iB hzB5 (fun b6 hzB5 => ?_) (fun b6 hzB5 => ?_)
     · refine Holds.skip ?_
       refine Tn ?_
       refine Holds.seq ?_
       refine Holds.block ?_
       obtain ⟨e7, he7, hzB5⟩ := bS hzB5
       refine Rg [.a, .a, (.v (vA encSCont e7)), .a, .a, .a] (sl 32 [(1, vL encSCont a1), (2, .c (.fn 50)), (7, vI vt17_4), (8, vP [8] (0)), (15, vL encSCont a0), (16, vI (a0.length : Int)), (17, vI vt17_4)] [bx [8] (encSCont e7)]) (aC (idx_b he7) <| aC (eld he7 lenSCont 0 6 true (vA encSCont e7)) <| aC (Eq.refl (vA encSCont e7)) <| aN) ?_
       obtain ⟨e8, he8, hzB5⟩ := bS hzB5
       refine Rg [.a, .a, .a, (.v (vA encSCont e8)), .a, .a] (sl 32 [(1, vL encSCont a1), (2, .c (.fn 50)), (8, vP [8] (0)), (9, vP [9] (0)), (15, vL encSCont a0), (16, vI (a0.length : Int)), (17, vI vt17_4)] [bx [9] (encSCont e8), bx [8] (encSCont e7)]) (aC (idx_b he8) <| aC (eld he8 lenSCont 0 6 true (vA encSCont e8)) <| aC (Eq.refl (vA encSCont e8)) <| aN) ?_
       refine Holds.seq ?_
       refine Holds.region ?_
       refine Rp 3 [.a, .a, .a] (sl 32 [(1, vL encSCont a1), (2, .c (.fn 50)), (8, vP [8] (0)), (9, vP [9] (0)), (15, vL encSCont a0), (16, vI (a0.length : Int)), (17, vI vt17_4), (26, .c (.fn 50)), (27, vA encSCont e7), (28, vA encSCont e8)] [bx [9] (encSCont e8), bx [8] (encSCont e7)]) (aN) ?_
       refine Run.inl rfl rfl (Esc.inline (s := True ∧ (True ∧ True)) (vs := [vA encSCont e7, vA encSCont e8]) (cs := []) 29 rfl rfl rfl (by kernel_rfl) ⟨trivial, ⟨trivial, trivial⟩⟩ (by kernel_rfl) (by kernel_rfl) Tryz.func50 rfl Tryz.ntmps50 (rs := [.tmp 4]) rfl ?_)
       intro w08 av8 old8 gv8
       refine At (sg 45 [(0, vA encSCont e7), (1, vA encSCont e8)] [bx [9] (encSCont e8), bx [8] (encSCont e7)] 32 [(1, vL encSCont a1), (2, .c (.fn 50)), (8, vP [8] (0)), (9, vP [9] (0)), (15, vL encSCont a0), (16, vI (a0.length : Int)), (17, vI vt17_4), (26, .c (.fn 50)), (27, vA encSCont e7), (28, vA encSCont e8)] [29]) ?_
       refine Rg [.a, .a, .a] (sg 45 [(2, vP [2, 29] (0)), (3, vP [3, 29] (0))] [bx [3, 29] (encSCont e8), bx [2, 29] (encSCont e7), bx [9] (encSCont e8), bx [8] (encSCont e7)] 32 [(1, vL encSCont a1), (2, .c (.fn 50)), (8, vP [8] (0)), (9, vP [9] (0)), (15, vL encSCont a0), (16, vI (a0.length : Int)), (17, vI vt17_4), (26, .c (.fn 50)), (27, vA encSCont e7), (28, vA encSCont e8)] [29]) (aN) ?_
       obtain ⟨b9, hb9, hzB5⟩ := bS hzB5
       obtain ⟨b10, hb10, hzB5⟩ := bS hzB5
       obtain ⟨b11, hb11, hzB5⟩ := bS hzB5
       obtain ⟨r12, hr12, hzB5⟩ := bS hzB5
       obtain ⟨b13, hb13, hzB5⟩ := bS hzB5
       obtain ⟨r14, hr14, hzB5⟩ := bS hzB5
       obtain ⟨b15, hb15, hzB5⟩ := bS hzB5
       refine Rg [.a, .a, .a, .a, .a, .a, .a, .a, .a, .a, .a, (.v (vB b9)), .a, .a, .a, .a, .a, .a, (.v (vB b10)), .a, .a, .a, .a, .a, .a, (.v (vB b11)), .a, .a, .a, .a, .a, (.c (vB r12)), (.v (vB b13)), .a, .a, .a, .a, .a, (.c (vB r14)), (.v (vB b15)), .a] (sg 45 [(4, vB b15)] [bx [9] (encSCont e8), bx [8] (encSCont e7)] 32 [(1, vL encSCont a1), (2, .c (.fn 50)), (8, vP [8] (0)), (9, vP [9] (0)), (15, vL encSCont a0), (16, vI (a0.length : Int)), (17, vI vt17_4), (26, .c (.fn 50)), (27, vA encSCont e7), (28, vA encSCont e8)] [29]) (aG ((e7.Stamp == e8.Stamp) == true) <| aG ((e7.Stamp == e8.Stamp) == true) <| aH ((e7.Stamp == e8.Stamp) == true) <| aT (e7.Stamp == e8.Stamp) <| aB hb9 <| aG (b9 == true) <| aG (b9 == true) <| aH (b9 == true) <| aT b9 <| aB hb10 <| aG (b10 == true) <| aG (b10 == true) <| aH (b10 == true) <| aT b10 <| aB hb11 <| aG (b11 == true) <| aG (b11 == true) <| aC (c2 hr12 slices_Equal_int_int_ok) <| aT b11 <| aB hb13 <| aG (b13 == true) <| aG (b13 == true) <| aC (c2 hr14 state_each_api_Mod_state_equal_api_Mod_ok) <| aT b13 <| aB hb15 <| aN) ?_
       refine Holds.ret ?_
       refine inQ.ret (v := vB b15) (by kernel_rfl) ?_
       refine Rw [.a] (sl 32 [(1, vL encSCont a1), (2, .c (.fn 50)), (8, vP [8] (0)), (9, vP [9] (0)), (15, vL encSCont a0), (16, vI (a0.length : Int)), (17, vI vt17_4), (26, .c (.fn 50)), (27, vA encSCont e7), (28, vA encSCont e8), (29, vB b15), (30, vB (!b15))] [bx [9] (encSCont e8), bx [8] (encSCont e7)]) (aN) ?_
       refine Tn ?_
       refine iB hzB5 (fun b16 hzB5 => ?_) (fun b16 hzB5 => ?_)
       · refine Rg [.a] (sl 32 [(6, vB false)] []) (aN) ?_
         refine Holds.ret ?_
         refine blockQ.ret ?_
         refine Tr ?_
         have hoB5_ := hoB5 _ (sI hzB5).symm
         subst hoB5_
         replace h := sumL h
         refine Tr ?_
         refine blockQ.ret ?_
         refine Tr ?_
         exact bQ (vB false) (congrArg vB (sI h))
       · refine Holds.skip ?_
         refine blockQ.normal ?_
         refine Tn ?_
         refine Re [.a, .a] (sl 32 [(1, vL encSCont a1), (2, .c (.fn 50)), (8, vP [8] (0)), (9, vP [9] (0)), (15, vL encSCont a0), (16, vI (a0.length : Int)), (17, vI (wrap64 (vt17_4 + (1 : Int)))), (26, .c (.fn 50)), (27, vA encSCont e7), (28, vA encSCont e8), (29, vB b15), (30, vB (!b15)), (31, vI (wrap64 (vt17_4 + (1 : Int))))] [bx [9] (encSCont e8), bx [8] (encSCont e7)]) (aN) ?_
         refine Tn ⟨(wrap64 (vt17_4 + (1 : Int))), (sI hzB5).symm, wT⟩
     · refine Holds.exit ?_
       refine thenQ.exit ?_
       have hoB5_ := hoB5 _ (sI hzB5).symm
       subst hoB5_
       replace h := sumR h
       refine thenQ.exit ?_
       refine blockQ.out ?_
       refine Tn ⟨(), h, wT⟩
   · rintro _ hJ2
     replace hJ2 : slices_EqualFunc_api_Cont_api_Cont_api_Cont_api_Cont_state_sameCont_J2 = some r := hJ2
     unfold slices_EqualFunc_api_Cont_api_Cont_api_Cont_api_Cont_state_sameCont_J2 at hJ2
     refine Rg [.a] (sl 32 [(6, vB true)] []) (aN) ?_
     refine Holds.ret ?_
     exact bQ (vB true) (congrArg vB (sI hJ2))
def state_Others_J5  (l5_3 : List (Int)) (l6_4 : List (Int)) : Option ((List (Int))) :=
 (app 8 l6_4 l5_3).bind fun l6 =>
 some l6
def state_Others_J20 (vt21_11 : Int) (l5_18 : List (Int)) (l6_19 : List (Int)) : Option ((Int × (List (Int)) × (List (Int))) ⊕ (((List (Int)) × (List (Int))))) :=
 some (.inl ((wrap64 (vt21_11 + (1 : Int))), l5_18, l6_19))
def state_Others_B16 (p_t1_1 : Int) (r7 : (List (Int))) (vt21_11 : Int) (l5_12 : List (Int)) (l6_13 : List (Int)) : Option ((Int × (List (Int)) × (List (Int))) ⊕ (((List (Int)) × (List (Int))))) :=
 (if (decide (vt21_11 < (r7.length : Int))) = true then
  (idx r7 vt21_11).bind fun e21 =>
  (cmp_Compare_int e21 p_t1_1).bind fun r22 =>
  (if (r22 == (-1 : Int)) = true then
   (app 8 l5_12 ([e21] : List (Int))).bind fun l24 =>
   state_Others_J20 vt21_11 l24 l6_13
  else
   (if (r22 == (1 : Int)) = true then
    (app 8 l6_13 ([e21] : List (Int))).bind fun l26 =>
    state_Others_J20 vt21_11 l5_12 l26
   else
    state_Others_J20 vt21_11 l5_12 l6_13))
 else
  some (.inr (l5_12, l6_13)))
def state_Others_J2 (a0 : SState) (p_t1_1 : Int) : Option ((List (Int))) :=
 (state_Living a0).bind fun r7 =>
 (iter (fun (v : Int × (List (Int)) × (List (Int))) => state_Others_B16 p_t1_1 r7 v.1 v.2.1 v.2.2) FU ((0 : Int), ([] : List (Int)), ([] : List (Int)))).bind (fun o0 => state_Others_J5 o0.1 o0.2)
/-- cardgame/state.Others -/
def state_Others (a0 : SState) (a1 : Int) : Option ((List (Int))) :=
 (some (if (decide (a1 < (0 : Int))) = true then true else decide ((a0.Players.length : Int) ≤ a1))).bind fun b27 =>
 (if b27 = true then
  state_Others_J2 a0 (-1 : Int)
 else
  state_Others_J2 a0 a1)
def state_Others_C (a0 : SState) (a1 : Int) (r : (List (Int))) : Prop := PCall Tryz.prog I0 21 [vA encSState a0, vI a1] (· = vL (eI .i64) r)
theorem state_Others_ok {a0 : SState} {a1 : Int} {r : (List (Int))} (h : state_Others a0 a1 = some r) : state_Others_C a0 a1 r := by
 refine PCall.body I0_stable (by kernel_rfl) Tryz.func21 rfl Tryz.ntmps21 (rs := [.tmp 4]) rfl rfl ?_
 intro w0 av old gv
 unfold state_Others at h
 refine Rg [.a, .a] (sl 44 [(1, vI a1), (2, vP [2] (0))] [bx [2] (encSState a0)]) (aN) ?_
 refine Sj (X := Int) (fun v => (sl 44 [(1, vI v), (2, vP [2] (0))] [bx [2] (encSState a0)])) (fun v => state_Others_J2 a0 v = some r) ?_ ?_
 · obtain ⟨b27, hb27, h⟩ := bS h
   refine Rg [.a, .a, .a, .a, .a, .a, .a, .a, (.v (vB b27))] (sl 44 [(1, vI a1), (2, vP [2] (0)), (17, vB b27)] [bx [2] (encSState a0)]) (aG ((decide (a1 < (0 : Int))) == false) <| aG ((decide (a1 < (0 : Int))) == false) <| aH ((decide (a1 < (0 : Int))) == false) <| aF (decide (a1 < (0 : Int))) <| aB hb27 <| aN) ?_
   refine iB h (fun b28 h => ?_) (fun b28 h => ?_)
   · refine Re [.a] (sl 44 [(1, vI (-1 : Int)), (2, vP [2] (0)), (17, vB b27)] [bx [2] (encSState a0)]) (aN) ?_
     refine Tn ⟨(-1 : Int), h, wT⟩
   · refine Holds.skip ?_
     refine Tn ⟨a1, h, wT⟩
 · rintro p_t1_1 hJ2
   replace hJ2 : state_Others_J2 a0 p_t1_1 = some r := hJ2
   unfold state_Others_J2 at hJ2
   refine Rg [.a, .a] (sl 44 [(1, vI p_t1_1), (2, vP [2] (0)), (5, vO [5]), (6, vO [6])] [rw_ [6] 3 1 (eI .i64) ([] : List (Int)), rw_ [5] 3 1 (eI .i64) ([] : List (Int)), bx [2] (encSState a0)]) (aN) ?_
   refine Sj (X := (List (Int)) × (List (Int))) (fun v => (sl 44 [(5, vO [5]), (6, vO [6])] [rw_ [6] 3 1 (eI .i64) v.2, rw_ [5] 3 1 (eI .i64) v.1])) (fun v => state_Others_J5 v.1 v.2 = some r) ?_ ?_
   · obtain ⟨r7, hr7, hJ2⟩ := bS hJ2
     refine Rg [.a, (.c (vL (eI .i64) r7)), .a, .a] (sl 44 [(1, vI p_t1_1), (5, vO [5]), (6, vO [6]), (19, vL (eI .i64) r7), (20, vI (r7.length : Int)), (21, vI (0 : Int))] [rw_ [6] 3 1 (eI .i64) ([] : List (Int)), rw_ [5] 3 1 (eI .i64) ([] : List (Int))]) (aC (state_Living_ok hr7) <| aN) ?_
     refine Holds.block ?_
     obtain ⟨oB16, hiB16, hJ2⟩ := bS hJ2
     refine It (fun (v : Int × (List (Int)) × (List (Int))) => (sl 44 [(1, vI p_t1_1), (5, vO [5]), (6, vO [6]), (19, vL (eI .i64) r7), (20, vI (r7.length : Int)), (21, vI v.1)] [rw_ [6] 3 1 (eI .i64) v.2.2, rw_ [5] 3 1 (eI .i64) v.2.1])) hiB16 (wT) ?_
     rintro ⟨vt21_11, l5_12, l6_13⟩ zB16 hzB16 hoB16
     replace hzB16 : state_Others_B16 p_t1_1 r7 vt21_11 l5_12 l6_13 = some zB16 := hzB16
     unfold state_Others_B16 at hzB16
     refine Rg [.a] (sl 44 [(1, vI p_t1_1), (5, vO [5]), (6, vO [6]), (19, vL (eI .i64) r7), (20, vI (r7.length : Int)), (21, vI vt21_11), (22, vB (decide (vt21_11 < (r7.length : Int))))] [rw_ [6] 3 1 (eI .i64) l6_13, rw_ [5] 3 1 (eI .i64) l5_12]) (aN) ?_
     refine Holds.seq ?_
     refine iB hzB16 (fun b17 hzB16 => ?_) (fun b17 hzB16 => ?_)
     · refine Holds.skip ?_
       refine Tn ?_
       refine Sj (X := (List (Int)) × (List (Int))) (fun v => (sl 44 [(1, vI p_t1_1), (5, vO [5]), (6, vO [6]), (19, vL (eI .i64) r7), (20, vI (r7.length : Int)), (21, vI vt21_11)] [rw_ [5] 3 1 (eI .i64) v.1, rw_ [6] 3 1 (eI .i64) v.2])) (fun v => state_Others_J20 vt21_11 v.1 v.2 = some zB16) ?_ ?_
       · refine Holds.block ?_
         obtain ⟨e21, he21, hzB16⟩ := bS hzB16
         refine Rg [.a, (.v (vI e21)), .a] (sl 44 [(1, vI p_t1_1), (5, vO [5]), (6, vO [6]), (8, vI e21), (19, vL (eI .i64) r7), (20, vI (r7.length : Int)), (21, vI vt21_11)] [rw_ [6] 3 1 (eI .i64) l6_13, rw_ [5] 3 1 (eI .i64) l5_12]) (aC (idx_b he21) <| aC (eld he21 (lenI .i64) 0 1 false (vI e21)) <| aC (Eq.refl (vI e21)) <| aN) ?_
         obtain ⟨r22, hr22, hzB16⟩ := bS hzB16
         refine Rg [.a, .a, (.c (vI r22))] (sl 44 [(1, vI p_t1_1), (5, vO [5]), (6, vO [6]), (8, vI e21), (19, vL (eI .i64) r7), (20, vI (r7.length : Int)), (21, vI vt21_11), (27, vI r22)] [rw_ [6] 3 1 (eI .i64) l6_13, rw_ [5] 3 1 (eI .i64) l5_12]) (aC (cmp_Compare_int_ok hr22) <| aN) ?_
         refine Holds.block ?_
         refine Rg [.a, .a] (sl 44 [(1, vI p_t1_1), (5, vO [5]), (6, vO [6]), (8, vI e21), (19, vL (eI .i64) r7), (20, vI (r7.length : Int)), (21, vI vt21_11), (27, vI r22), (28, vB (r22 == (-1 : Int)))] [rw_ [6] 3 1 (eI .i64) l6_13, rw_ [5] 3 1 (eI .i64) l5_12]) (aN) ?_
         refine iB hzB16 (fun b23 hzB16 => ?_) (fun b23 hzB16 => ?_)
         · obtain ⟨l24, hl24, hzB16⟩ := bS hzB16
           refine Re [.a, .a, .a, (.e l24.length (l24.flatMap (eI .i64))), .a] (sl 44 [(1, vI p_t1_1), (5, vO [5]), (6, vO [6]), (8, vI e21), (19, vL (eI .i64) r7), (20, vI (r7.length : Int)), (21, vI vt21_11), (27, vI r22), (28, vB (r22 == (-1 : Int))), (31, vI e21), (32, vO [32]), (33, vO [5])] [rw_ [5] 3 1 (eI .i64) l24, rw_ [32] 3 1 (eI .i64) ([e21] : List (Int)), rw_ [6] 3 1 (eI .i64) l6_13]) (aC (ap1 hl24 (eI .i64)) <| aC (app_b hl24) <| aN) ?_
           refine blockQ.normal ?_
           refine blockQ.normal ?_
           refine Tn ⟨(l24, l6_13), hzB16, wT⟩
         · refine Rg [.a, .a] (sl 44 [(1, vI p_t1_1), (5, vO [5]), (6, vO [6]), (8, vI e21), (19, vL (eI .i64) r7), (20, vI (r7.length : Int)), (21, vI vt21_11), (34, vB (r22 == (1 : Int)))] [rw_ [6] 3 1 (eI .i64) l6_13, rw_ [5] 3 1 (eI .i64) l5_12]) (aN) ?_
           refine iB hzB16 (fun b25 hzB16 => ?_) (fun b25 hzB16 => ?_)
           · obtain ⟨l26, hl26, hzB16⟩ := bS hzB16
             refine Re [.a, .a, .a, (.e l26.length (l26.flatMap (eI .i64))), .a] (sl 44 [(1, vI p_t1_1), (5, vO [5]), (6, vO [6]), (8, vI e21), (19, vL (eI .i64) r7), (20, vI (r7.length : Int)), (21, vI vt21_11), (34, vB (r22 == (1 : Int))), (37, vI e21), (38, vO [38]), (39, vO [6])] [rw_ [6] 3 1 (eI .i64) l26, rw_ [38] 3 1 (eI .i64) ([e21] : List (Int)), rw_ [5] 3 1 (eI .i64) l5_12]) (aC (ap1 hl26 (eI .i64)) <| aC (app_b hl26) <| aN) ?_
             refine blockQ.normal ?_
             refine blockQ.normal ?_
             refine Tn ⟨(l5_12, l26), hzB16, wU⟩
           · refine Holds.skip ?_
             refine blockQ.normal ?_
             refine blockQ.normal ?_
             refine Tn ⟨(l5_12, l6_13), hzB16, wU⟩
       · rintro ⟨l5_18, l6_19⟩ hJ20
         replace hJ20 : state_Others_J20 vt21_11 l5_18 l6_19 = some zB16 := hJ20
         unfold state_Others_J20 at hJ20
         refine Re [.a, .a] (sl 44 [(1, vI p_t1_1), (5, vO [5]), (6, vO [6]), (19, vL (eI .i64) r7), (20, vI (r7.length : Int)), (21, vI (wrap64 (vt21_11 + (1 : Int)))), (40, vI (wrap64 (vt21_11 + (1 : Int))))] [rw_ [5] 3 1 (eI .i64) l5_18, rw_ [6] 3 1 (eI .i64) l6_19]) (aN) ?_
         refine Tn ⟨((wrap64 (vt21_11 + (1 : Int))), l5_18, l6_19), (sI hJ20).symm, wU⟩
     · refine Holds.exit ?_
       refine thenQ.exit ?_
       have hoB16_ := hoB16 _ (sI hzB16).symm
       subst hoB16_
       refine thenQ.exit ?_
       refine blockQ.out ?_
       refine Tn ⟨(l5_12, l6_13), hJ2, wT⟩
   · rintro ⟨l5_3, l6_4⟩ hJ5
     replace hJ5 : state_Others_J5 l5_3 l6_4 = some r := hJ5
     unfold state_Others_J5 at hJ5
     obtain ⟨l6, hl6, hJ5⟩ := bS hJ5
     refine Rg [.a, .a, (.e l6.length (l6.flatMap (eI .i64))), .a] (sl 44 [(4, vO [6])] [rw_ [6] 3 1 (eI .i64) l6]) (aC (ap1 hl6 (eI .i64)) <| aC (app_b hl6) <| aN) ?_
     refine Holds.ret ?_
     exact bE (vO [6]) (vL (eI .i64) l6) (congrArg (vL (eI .i64)) (sI hJ5))
def r17_SameList_J2  : Option (Bool) :=
 some true
def r17_SameList_B5 (a0 : List (SEffect)) (a1 : List (SEffect)) (i_t5_4 : Int) : Option ((Int) ⊕ (Unit ⊕ Unit)) :=
 (if (decide (i_t5_4 < (a0.length : Int))) = true then
  (idx a0 i_t5_4).bind fun e7 =>
  (idx a1 i_t5_4).bind fun e8 =>
  (r17_Same e7 e8).bind fun r9 =>
  (if (!r9) = true then
   some (.inr (.inl ()))
  else
   some (.inl (wrap64 (i_t5_4 + (1 : Int)))))
 else
  some (.inr (.inr ())))
/-- cardgame/cardgameref17.SameList -/
def r17_SameList (a0 : List (SEffect)) (a1 : List (SEffect)) : Option (Bool) :=
 (if ((a0.length : Int) != (a1.length : Int)) = true then
  some false
 else
  (iter (fun (v : Int) => r17_SameList_B5 a0 a1 v) FU (0 : Int)).bind (Sum.elim (fun o0 => some false) (fun o1 => r17_SameList_J2)))
def r17_SameList_C (a0 : List (SEffect)) (a1 : List (SEffect)) (r : Bool) : Prop := PCall Tryz.prog I0 141 [vL encSEffect a0, vL encSEffect a1] (· = vB r)
theorem r17_SameList_ok {a0 : List (SEffect)} {a1 : List (SEffect)} {r : Bool} (h : r17_SameList a0 a1 = some r) : r17_SameList_C a0 a1 r := by
 refine PCall.body I0_stable (by kernel_rfl) Tryz.func141 rfl Tryz.ntmps141 (rs := [.tmp 4]) rfl rfl ?_
 intro w0 av old gv
 unfold r17_SameList at h
 refine Rg [.a] (sl 27 [(0, vL encSEffect a0), (1, vL encSEffect a1)] []) (aN) ?_
 refine Holds.seq ?_
 refine Rg [.a, .a, .a, .a, .a] (sl 27 [(0, vL encSEffect a0), (1, vL encSEffect a1), (10, vB ((a0.length : Int) != (a1.length : Int)))] []) (aN) ?_
 refine iB h (fun b1 h => ?_) (fun b1 h => ?_)
 · refine Rg [.a] (sl 27 [(4, vB false)] []) (aN) ?_
   refine Holds.ret ?_
   refine Tr ?_
   exact bQ (vB false) (congrArg vB (sI h))
 · refine Holds.skip ?_
   refine Tn ?_
   refine Sj (X := Unit) (fun v => (sl 27 [] [])) (fun v => r17_SameList_J2 = some r) ?_ ?_
   · refine Rg [.a] (sl 27 [(0, vL encSEffect a0), (1, vL encSEffect a1), (5, vI (0 : Int))] []) (aN) ?_
     refine Holds.block ?_
     obtain ⟨oB5, hiB5, h⟩ := bS h
     refine It (fun (v : Int) => (sl 27 [(0, vL encSEffect a0), (1, vL encSEffect a1), (5, vI v)] [])) hiB5 (wT) ?_
     rintro i_t5_4 zB5 hzB5 hoB5
     replace hzB5 : r17_SameList_B5 a0 a1 i_t5_4 = some zB5 := hzB5
     unfold r17_SameList_B5 at hzB5
     refine Holds.seq ?_
     refine Rg [.a, .a, .a, .a] (sl 27 [(0, vL encSEffect a0), (1, vL encSEffect a1), (5, vI i_t5_4), (14, vB (decide (i_t5_4 < (a0.length : Int))))] []) (aN) ?_
     refine iB hzB5 (fun b6 hzB5 => ?_) (fun b6 hzB5 => ?_)
     · refine Holds.skip ?_
       refine Tn ?_
       refine Holds.seq ?_
       refine Holds.block ?_
       obtain ⟨e7, he7, hzB5⟩ := bS hzB5
       obtain ⟨e8, he8, hzB5⟩ := bS hzB5
       obtain ⟨r9, hr9, hzB5⟩ := bS hzB5
       refine Rq followsP [.a, .a, .a, (.v (vA encSEffect e7)), .a, .a, .a, (.v (vA encSEffect e8)), (.c (vB r9)), .a] (sl 27 [(0, vL encSEffect a0), (1, vL encSEffect a1), (5, vI i_t5_4), (26, vB (!r9))] []) (aC (idx_b he7) <| aC (eld he7 lenSEffect 0 64 true (vA encSEffect e7)) <| aC (Eq.refl (vA encSEffect e7)) <| aC (idx_b he8) <| aC (eld he8 lenSEffect 0 64 true (vA encSEffect e8)) <| aC (Eq.refl (vA encSEffect e8)) <| aC (r17_Same_ok hr9) <| aN) ?_
       refine iB hzB5 (fun b10 hzB5 => ?_) (fun b10 hzB5 => ?_)
       · refine Rg [.a] (sl 27 [(4, vB false)] []) (aN) ?_
         refine Holds.ret ?_
         refine blockQ.ret ?_
         refine Tr ?_
         have hoB5_ := hoB5 _ (sI hzB5).symm
         subst hoB5_
         replace h := sumL h
         refine Tr ?_
         refine blockQ.ret ?_
         refine Tr ?_
         exact bQ (vB false) (congrArg vB (sI h))
       · refine Holds.skip ?_
         refine blockQ.normal ?_
         refine Tn ?_
         refine Re [.a, .a, .a] (sl 27 [(0, vL encSEffect a0), (1, vL encSEffect a1), (5, vI (wrap64 (i_t5_4 + (1 : Int)))), (15, vI i_t5_4), (16, vI (wrap64 (i_t5_4 + (1 : Int)))), (26, vB (!r9))] []) (aN) ?_
         refine Tn ⟨(wrap64 (i_t5_4 + (1 : Int))), (sI hzB5).symm, wT⟩
     · refine Holds.exit ?_
       refine thenQ.exit ?_
       have hoB5_ := hoB5 _ (sI hzB5).symm
       subst hoB5_
       replace h := sumR h
       refine thenQ.exit ?_
       refine blockQ.out ?_
       refine Tn ⟨(), h, wT⟩
   · rintro _ hJ2
     replace hJ2 : r17_SameList_J2 = some r := hJ2
     unfold r17_SameList_J2 at hJ2
     refine Rg [.a] (sl 27 [(4, vB true)] []) (aN) ?_
     refine Holds.ret ?_
     exact bQ (vB true) (congrArg vB (sI hJ2))
/-- cardgame/cardgameref26.object -/
def r26_object (a0 : SState) (a1 : Int) : Option (SObject × Bool) :=
 (r25_Find a0 a1).bind fun r1 =>
 some (r1.1, r1.2)
def r26_object_C (a0 : SState) (a1 : Int) (r : SObject × Bool) : Prop := PCall Tryz.prog I0 120 [vA encSState a0, vI a1] (· = .tup [vA encSObject r.1, vB r.2])
theorem r26_object_ok {a0 : SState} {a1 : Int} {r : SObject × Bool} (h : r26_object a0 a1 = some r) : r26_object_C a0 a1 r := by
 refine PCall.body I0_stable (by kernel_rfl) Tryz.func120 rfl Tryz.ntmps120 (rs := [.cell 4 56, .tmp 5]) rfl rfl ?_
 intro w0 av old gv
 unfold r26_object at h
 refine Rg [.a, .a, .a] (sl 11 [(1, vI a1), (2, vP [2] (0)), (4, vP [4] (0))] [bx [4] [.int .i64 (0 : Int), .int .i64 (0 : Int), .int .i64 (0 : Int), .int .i64 (0 : Int), .int .i64 (0 : Int), .bool false, .bool false, .bool false, .bool false, .int .i64 (0 : Int), .int .i64 (((⟨(0 : Int), (0 : Int), (0 : Int)⟩ : A3 (Int))).x0), .int .i64 (((⟨(0 : Int), (0 : Int), (0 : Int)⟩ : A3 (Int))).x1), .int .i64 (((⟨(0 : Int), (0 : Int), (0 : Int)⟩ : A3 (Int))).x2), .int .i64 (0 : Int), .int .i64 (0 : Int), .int .i64 (0 : Int), .bool false, .int .i64 (0 : Int), .int .i64 (0 : Int)], bx [2] (encSState a0)]) (aN) ?_
 obtain ⟨r1, hr1, h⟩ := bS h
 refine Rg [.a, .a, (.c (.tup [vA encSObject r1.1, vB r1.2])), .a, .a, .a, .a] (sl 11 [(4, vP [4] (0)), (5, vB r1.2)] [bx [4] (encSObject r1.1)]) (aC (r25_Find_ok hr1) <| aC (show True ∧ 0 < [V.undef, V.undef].length from ⟨trivial, (by decide)⟩) <| aC (show True ∧ 1 < [V.undef, V.undef].length from ⟨trivial, (by decide)⟩) <| aN) ?_
 refine Holds.ret ?_
 exact bE (.tup [vA encSObject r1.1, vB r1.2]) (.tup [.agg (encSObject r1.1), vB r1.2]) (congrArg (fun (q : SObject × Bool) => (.tup [vA encSObject q.1, vB q.2] : V)) (sI h))
end Go.PL
