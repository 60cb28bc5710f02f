/- Functions of the program, as partial functions in Lean, with proofs. -/
import Derived.Test.YtipchejgnmnffaaGreatDoorPlStB
import Derived.Test.YtipchejgnmnffaaGreatDoorPlStF0
import Derived.Test.YtipchejgnmnffaaGreatDoorPlStF10
import Derived.Test.YtipchejgnmnffaaGreatDoorPlStF3
import Derived.Test.YtipchejgnmnffaaGreatDoorPlStF4
namespace Go.PL
open Go Go.RowKit Go.Proofs
set_option maxRecDepth 100000
set_option linter.all false
set_option maxHeartbeats 1000000
attribute [local irreducible] Holds thenQ blockQ
def slices_EqualFunc_api_Item_api_Item_api_Item_api_Item_state_sameItem_J2  : Option (Bool) :=
 some true
def slices_EqualFunc_api_Item_api_Item_api_Item_api_Item_state_sameItem_B5 (a0 : List (SItem)) (a1 : List (SItem)) (vt17_4 : Int) : Option ((Int) ⊕ (Unit ⊕ Unit)) :=
 (if (decide (vt17_4 < (a0.length : Int))) = true then
  (idx a0 vt17_4).bind fun e7 =>
  (idx a1 vt17_4).bind fun e8 =>
  (some (if (e7.Id == e8.Id) = true then e7.Kind == e8.Kind else false)).bind fun b9 =>
  (some (if b9 = true then e7.Source == e8.Source else false)).bind fun b10 =>
  (some (if b10 = true then e7.Control == e8.Control else false)).bind fun b11 =>
  (some (if b11 = true then e7.X == e8.X else false)).bind fun b12 =>
  (some (if b12 = true then e7.Copy == e8.Copy else false)).bind fun b13 =>
  (gd (b13 == true) (state_sameAbility e7.Ability e8.Ability)).bind fun r14 =>
  (some (if b13 = true then r14 else false)).bind fun b15 =>
  (gd (b15 == true) (state_each_api_Target_state_equal_api_Target e7.Targets e8.Targets)).bind fun r16 =>
  (some (if b15 = true then r16 else false)).bind fun b17 =>
  (some (if b17 = true then e7.Event == e8.Event else false)).bind fun b18 =>
  (if (!b18) = true then
   some (.inr (.inl ()))
  else
   some (.inl (wrap64 (vt17_4 + (1 : Int)))))
 else
  some (.inr (.inr ())))
/-- slices.EqualFunc[[]cardgame/api.Item,[]cardgame/api.Item,cardgame/api.Item,cardgame/api.Item] -/
def slices_EqualFunc_api_Item_api_Item_api_Item_api_Item_state_sameItem (a0 : List (SItem)) (a1 : List (SItem)) : Option (Bool) :=
 (if ((a0.length : Int) != (a1.length : Int)) = true then
  some false
 else
  (iter (fun (v : Int) => slices_EqualFunc_api_Item_api_Item_api_Item_api_Item_state_sameItem_B5 a0 a1 v) FU (0 : Int)).bind (Sum.elim (fun o0 => some false) (fun o1 => slices_EqualFunc_api_Item_api_Item_api_Item_api_Item_state_sameItem_J2)))
def slices_EqualFunc_api_Item_api_Item_api_Item_api_Item_state_sameItem_C (a0 : List (SItem)) (a1 : List (SItem)) (r : Bool) : Prop := PCall Tryz.prog I0 78 [vL encSItem a0, vL encSItem a1, .c (.fn 46)] (· = vB r)
theorem slices_EqualFunc_api_Item_api_Item_api_Item_api_Item_state_sameItem_ok {a0 : List (SItem)} {a1 : List (SItem)} {r : Bool} (h : slices_EqualFunc_api_Item_api_Item_api_Item_api_Item_state_sameItem a0 a1 = some r) : slices_EqualFunc_api_Item_api_Item_api_Item_api_Item_state_sameItem_C a0 a1 r := by
 refine PCall.body I0_stable (by kernel_rfl) Tryz.func78 rfl Tryz.ntmps78 (rs := [.tmp 6]) rfl rfl ?_
 intro w0 av old gv
 unfold slices_EqualFunc_api_Item_api_Item_api_Item_api_Item_state_sameItem at h
 refine Rg [.a] (sl 32 [(0, vL encSItem a0), (1, vL encSItem a1), (2, .c (.fn 46))] []) (aN) ?_
 refine Holds.seq ?_
 refine Rg [.a, .a, .a, .a, .a] (sl 32 [(0, vL encSItem a0), (1, vL encSItem a1), (2, .c (.fn 46)), (14, vB ((a0.length : Int) != (a1.length : Int)))] []) (aN) ?_
 refine iB h (fun b1 h => ?_) (fun b1 h => ?_)
 · refine Rg [.a] (sl 32 [(6, vB false)] []) (aN) ?_
   refine Holds.ret ?_
   refine Tr ?_
   exact bQ (vB false) (congrArg vB (sI h))
 · refine Holds.skip ?_
   refine Tn ?_
   refine Sj (X := Unit) (fun v => (sl 32 [] [])) (fun v => slices_EqualFunc_api_Item_api_Item_api_Item_api_Item_state_sameItem_J2 = some r) ?_ ?_
   · refine Rg [.a, .a, .a] (sl 32 [(1, vL encSItem a1), (2, .c (.fn 46)), (15, vL encSItem a0), (16, vI (a0.length : Int)), (17, vI (0 : Int))] []) (aN) ?_
     refine Holds.block ?_
     obtain ⟨oB5, hiB5, h⟩ := bS h
     refine It (fun (v : Int) => (sl 32 [(1, vL encSItem a1), (2, .c (.fn 46)), (15, vL encSItem a0), (16, vI (a0.length : Int)), (17, vI v)] [])) hiB5 (wT) ?_
     rintro vt17_4 zB5 hzB5 hoB5
     replace hzB5 : slices_EqualFunc_api_Item_api_Item_api_Item_api_Item_state_sameItem_B5 a0 a1 vt17_4 = some zB5 := hzB5
     unfold slices_EqualFunc_api_Item_api_Item_api_Item_api_Item_state_sameItem_B5 at hzB5
     refine Rg [.a] (sl 32 [(1, vL encSItem a1), (2, .c (.fn 46)), (15, vL encSItem a0), (16, vI (a0.length : Int)), (17, vI vt17_4), (18, vB (decide (vt17_4 < (a0.length : Int))))] []) (aN) ?_
     refine Holds.seq ?_
     refine iB hzB5 (fun b6 hzB5 => ?_) (fun b6 hzB5 => ?_)
     · refine Holds.skip ?_
       refine Tn ?_
       refine Holds.seq ?_
       refine Holds.block ?_
       obtain ⟨e7, he7, hzB5⟩ := bS hzB5
       refine Rg [.a, .a, (.v (vA encSItem e7)), .a, .a, .a] (sl 32 [(1, vL encSItem a1), (2, .c (.fn 46)), (7, vI vt17_4), (8, vP [8] (0)), (15, vL encSItem a0), (16, vI (a0.length : Int)), (17, vI vt17_4)] [bx [8] (encSItem e7)]) (aC (idx_b he7) <| aC (eld he7 lenSItem 0 94 true (vA encSItem e7)) <| aC (Eq.refl (vA encSItem e7)) <| aN) ?_
       obtain ⟨e8, he8, hzB5⟩ := bS hzB5
       refine Rg [.a, .a, .a, (.v (vA encSItem e8)), .a, .a] (sl 32 [(1, vL encSItem a1), (2, .c (.fn 46)), (8, vP [8] (0)), (9, vP [9] (0)), (15, vL encSItem a0), (16, vI (a0.length : Int)), (17, vI vt17_4)] [bx [9] (encSItem e8), bx [8] (encSItem e7)]) (aC (idx_b he8) <| aC (eld he8 lenSItem 0 94 true (vA encSItem e8)) <| aC (Eq.refl (vA encSItem e8)) <| aN) ?_
       refine Holds.seq ?_
       refine Holds.region ?_
       refine Rp 3 [.a, .a, .a] (sl 32 [(1, vL encSItem a1), (2, .c (.fn 46)), (8, vP [8] (0)), (9, vP [9] (0)), (15, vL encSItem a0), (16, vI (a0.length : Int)), (17, vI vt17_4), (26, .c (.fn 46)), (27, vA encSItem e7), (28, vA encSItem e8)] [bx [9] (encSItem e8), bx [8] (encSItem e7)]) (aN) ?_
       refine Run.inl rfl rfl (Esc.inline (s := True ∧ (True ∧ True)) (vs := [vA encSItem e7, vA encSItem e8]) (cs := []) 29 rfl rfl rfl (by kernel_rfl) ⟨trivial, ⟨trivial, trivial⟩⟩ (by kernel_rfl) (by kernel_rfl) Tryz.func46 rfl Tryz.ntmps46 (rs := [.tmp 4]) rfl ?_)
       intro w08 av8 old8 gv8
       refine At (sg 66 [(0, vA encSItem e7), (1, vA encSItem e8)] [bx [9] (encSItem e8), bx [8] (encSItem e7)] 32 [(1, vL encSItem a1), (2, .c (.fn 46)), (8, vP [8] (0)), (9, vP [9] (0)), (15, vL encSItem a0), (16, vI (a0.length : Int)), (17, vI vt17_4), (26, .c (.fn 46)), (27, vA encSItem e7), (28, vA encSItem e8)] [29]) ?_
       refine Rg [.a, .a, .a] (sg 66 [(2, vP [2, 29] (0)), (3, vP [3, 29] (0))] [bx [3, 29] (encSItem e8), bx [2, 29] (encSItem e7), bx [9] (encSItem e8), bx [8] (encSItem e7)] 32 [(1, vL encSItem a1), (2, .c (.fn 46)), (8, vP [8] (0)), (9, vP [9] (0)), (15, vL encSItem a0), (16, vI (a0.length : Int)), (17, vI vt17_4), (26, .c (.fn 46)), (27, vA encSItem e7), (28, vA encSItem e8)] [29]) (aN) ?_
       obtain ⟨b9, hb9, hzB5⟩ := bS hzB5
       obtain ⟨b10, hb10, hzB5⟩ := bS hzB5
       obtain ⟨b11, hb11, hzB5⟩ := bS hzB5
       obtain ⟨b12, hb12, hzB5⟩ := bS hzB5
       obtain ⟨b13, hb13, hzB5⟩ := bS hzB5
       obtain ⟨r14, hr14, hzB5⟩ := bS hzB5
       obtain ⟨b15, hb15, hzB5⟩ := bS hzB5
       obtain ⟨r16, hr16, hzB5⟩ := bS hzB5
       obtain ⟨b17, hb17, hzB5⟩ := bS hzB5
       obtain ⟨b18, hb18, hzB5⟩ := bS hzB5
       refine Rg [.a, .a, .a, .a, .a, .a, .a, .a, .a, .a, .a, (.v (vB b9)), .a, .a, .a, .a, .a, .a, (.v (vB b10)), .a, .a, .a, .a, .a, .a, (.v (vB b11)), .a, .a, .a, .a, .a, .a, (.v (vB b12)), .a, .a, .a, .a, .a, .a, (.v (vB b13)), .a, .a, .a, .a, .a, (.c (vB r14)), (.v (vB b15)), .a, .a, .a, .a, .a, (.c (vB r16)), (.v (vB b17)), .a, .a, .a, .a, .a, (.v (vB (e7.Event == e8.Event))), (.v (vB b18)), .a] (sg 66 [(4, vB b18)] [bx [9] (encSItem e8), bx [8] (encSItem e7)] 32 [(1, vL encSItem a1), (2, .c (.fn 46)), (8, vP [8] (0)), (9, vP [9] (0)), (15, vL encSItem a0), (16, vI (a0.length : Int)), (17, vI vt17_4), (26, .c (.fn 46)), (27, vA encSItem e7), (28, vA encSItem e8)] [29]) (aG ((e7.Id == e8.Id) == true) <| aG ((e7.Id == e8.Id) == true) <| aH ((e7.Id == e8.Id) == true) <| aT (e7.Id == e8.Id) <| aB hb9 <| aG (b9 == true) <| aG (b9 == true) <| aH (b9 == true) <| aT b9 <| aB hb10 <| aG (b10 == true) <| aG (b10 == true) <| aH (b10 == true) <| aT b10 <| aB hb11 <| aG (b11 == true) <| aG (b11 == true) <| aH (b11 == true) <| aT b11 <| aB hb12 <| aG (b12 == true) <| aG (b12 == true) <| aC (fun hg : (b12 == true) = true => aC (gi (b12 == true)) <| aC (gi (b12 == true)) <| aC isb4 <| aN) <| aT b12 <| aB hb13 <| aG (b13 == true) <| aG (b13 == true) <| aC (c2 hr14 state_sameAbility_ok) <| aT b13 <| aB hb15 <| aG (b15 == true) <| aG (b15 == true) <| aC (c2 hr16 state_each_api_Target_state_equal_api_Target_ok) <| aT b15 <| aB hb17 <| aG (b17 == true) <| aG (b17 == true) <| aC (fun hg : (b17 == true) = true => aC (gi (b17 == true)) <| aC (gi (b17 == true)) <| aC (congrArg (fun z => V.c (.bool (z))) (eqT79 e7.Event e8.Event)) <| aN) <| aT b17 <| aB hb18 <| aN) ?_
       refine Holds.ret ?_
       refine inQ.ret (v := vB b18) (by kernel_rfl) ?_
       refine Rw [.a] (sl 32 [(1, vL encSItem a1), (2, .c (.fn 46)), (8, vP [8] (0)), (9, vP [9] (0)), (15, vL encSItem a0), (16, vI (a0.length : Int)), (17, vI vt17_4), (26, .c (.fn 46)), (27, vA encSItem e7), (28, vA encSItem e8), (29, vB b18), (30, vB (!b18))] [bx [9] (encSItem e8), bx [8] (encSItem e7)]) (aN) ?_
       refine Tn ?_
       refine iB hzB5 (fun b19 hzB5 => ?_) (fun b19 hzB5 => ?_)
       · refine Rg [.a] (sl 32 [(6, vB false)] []) (aN) ?_
         refine Holds.ret ?_
         refine blockQ.ret ?_
         refine Tr ?_
         have hoB5_ := hoB5 _ (sI hzB5).symm
         subst hoB5_
         replace h := sumL h
         refine Tr ?_
         refine blockQ.ret ?_
         refine Tr ?_
         exact bQ (vB false) (congrArg vB (sI h))
       · refine Holds.skip ?_
         refine blockQ.normal ?_
         refine Tn ?_
         refine Re [.a, .a] (sl 32 [(1, vL encSItem a1), (2, .c (.fn 46)), (8, vP [8] (0)), (9, vP [9] (0)), (15, vL encSItem a0), (16, vI (a0.length : Int)), (17, vI (wrap64 (vt17_4 + (1 : Int)))), (26, .c (.fn 46)), (27, vA encSItem e7), (28, vA encSItem e8), (29, vB b18), (30, vB (!b18)), (31, vI (wrap64 (vt17_4 + (1 : Int))))] [bx [9] (encSItem e8), bx [8] (encSItem e7)]) (aN) ?_
         refine Tn ⟨(wrap64 (vt17_4 + (1 : Int))), (sI hzB5).symm, wT⟩
     · refine Holds.exit ?_
       refine thenQ.exit ?_
       have hoB5_ := hoB5 _ (sI hzB5).symm
       subst hoB5_
       replace h := sumR h
       refine thenQ.exit ?_
       refine blockQ.out ?_
       refine Tn ⟨(), h, wT⟩
   · rintro _ hJ2
     replace hJ2 : slices_EqualFunc_api_Item_api_Item_api_Item_api_Item_state_sameItem_J2 = some r := hJ2
     unfold slices_EqualFunc_api_Item_api_Item_api_Item_api_Item_state_sameItem_J2 at hJ2
     refine Rg [.a] (sl 32 [(6, vB true)] []) (aN) ?_
     refine Holds.ret ?_
     exact bQ (vB true) (congrArg vB (sI hJ2))
def slices_EqualFunc_api_Waiting_api_Waiting_api_Waiting_api_Waiting_state_sameWaiting_J2  : Option (Bool) :=
 some true
def slices_EqualFunc_api_Waiting_api_Waiting_api_Waiting_api_Waiting_state_sameWaiting_B5 (a0 : List (SWaiting)) (a1 : List (SWaiting)) (vt17_4 : Int) : Option ((Int) ⊕ (Unit ⊕ Unit)) :=
 (if (decide (vt17_4 < (a0.length : Int))) = true then
  (idx a0 vt17_4).bind fun e7 =>
  (idx a1 vt17_4).bind fun e8 =>
  (some (if (e7.Source == e8.Source) = true then e7.Control == e8.Control else false)).bind fun b9 =>
  (gd (b9 == true) (state_sameAbility e7.Ability e8.Ability)).bind fun r10 =>
  (some (if b9 = true then r10 else false)).bind fun b11 =>
  (some (if b11 = true then e7.Event == e8.Event else false)).bind fun b12 =>
  (if (!b12) = true then
   some (.inr (.inl ()))
  else
   some (.inl (wrap64 (vt17_4 + (1 : Int)))))
 else
  some (.inr (.inr ())))
/-- slices.EqualFunc[[]cardgame/api.Waiting,[]cardgame/api.Waiting,cardgame/api.Waiting,cardgame/api.Waiting] -/
def slices_EqualFunc_api_Waiting_api_Waiting_api_Waiting_api_Waiting_state_sameWaiting (a0 : List (SWaiting)) (a1 : List (SWaiting)) : Option (Bool) :=
 (if ((a0.length : Int) != (a1.length : Int)) = true then
  some false
 else
  (iter (fun (v : Int) => slices_EqualFunc_api_Waiting_api_Waiting_api_Waiting_api_Waiting_state_sameWaiting_B5 a0 a1 v) FU (0 : Int)).bind (Sum.elim (fun o0 => some false) (fun o1 => slices_EqualFunc_api_Waiting_api_Waiting_api_Waiting_api_Waiting_state_sameWaiting_J2)))
def slices_EqualFunc_api_Waiting_api_Waiting_api_Waiting_api_Waiting_state_sameWaiting_C (a0 : List (SWaiting)) (a1 : List (SWaiting)) (r : Bool) : Prop := PCall Tryz.prog I0 81 [vL encSWaiting a0, vL encSWaiting a1, .c (.fn 48)] (· = vB r)
theorem slices_EqualFunc_api_Waiting_api_Waiting_api_Waiting_api_Waiting_state_sameWaiting_ok {a0 : List (SWaiting)} {a1 : List (SWaiting)} {r : Bool} (h : slices_EqualFunc_api_Waiting_api_Waiting_api_Waiting_api_Waiting_state_sameWaiting a0 a1 = some r) : slices_EqualFunc_api_Waiting_api_Waiting_api_Waiting_api_Waiting_state_sameWaiting_C a0 a1 r := by
 refine PCall.body I0_stable (by kernel_rfl) Tryz.func81 rfl Tryz.ntmps81 (rs := [.tmp 6]) rfl rfl ?_
 intro w0 av old gv
 unfold slices_EqualFunc_api_Waiting_api_Waiting_api_Waiting_api_Waiting_state_sameWaiting at h
 refine Rg [.a] (sl 32 [(0, vL encSWaiting a0), (1, vL encSWaiting a1), (2, .c (.fn 48))] []) (aN) ?_
 refine Holds.seq ?_
 refine Rg [.a, .a, .a, .a, .a] (sl 32 [(0, vL encSWaiting a0), (1, vL encSWaiting a1), (2, .c (.fn 48)), (14, vB ((a0.length : Int) != (a1.length : Int)))] []) (aN) ?_
 refine iB h (fun b1 h => ?_) (fun b1 h => ?_)
 · refine Rg [.a] (sl 32 [(6, vB false)] []) (aN) ?_
   refine Holds.ret ?_
   refine Tr ?_
   exact bQ (vB false) (congrArg vB (sI h))
 · refine Holds.skip ?_
   refine Tn ?_
   refine Sj (X := Unit) (fun v => (sl 32 [] [])) (fun v => slices_EqualFunc_api_Waiting_api_Waiting_api_Waiting_api_Waiting_state_sameWaiting_J2 = some r) ?_ ?_
   · refine Rg [.a, .a, .a] (sl 32 [(1, vL encSWaiting a1), (2, .c (.fn 48)), (15, vL encSWaiting a0), (16, vI (a0.length : Int)), (17, vI (0 : Int))] []) (aN) ?_
     refine Holds.block ?_
     obtain ⟨oB5, hiB5, h⟩ := bS h
     refine It (fun (v : Int) => (sl 32 [(1, vL encSWaiting a1), (2, .c (.fn 48)), (15, vL encSWaiting a0), (16, vI (a0.length : Int)), (17, vI v)] [])) hiB5 (wT) ?_
     rintro vt17_4 zB5 hzB5 hoB5
     replace hzB5 : slices_EqualFunc_api_Waiting_api_Waiting_api_Waiting_api_Waiting_state_sameWaiting_B5 a0 a1 vt17_4 = some zB5 := hzB5
     unfold slices_EqualFunc_api_Waiting_api_Waiting_api_Waiting_api_Waiting_state_sameWaiting_B5 at hzB5
     refine Rg [.a] (sl 32 [(1, vL encSWaiting a1), (2, .c (.fn 48)), (15, vL encSWaiting a0), (16, vI (a0.length : Int)), (17, vI vt17_4), (18, vB (decide (vt17_4 < (a0.length : Int))))] []) (aN) ?_
     refine Holds.seq ?_
     refine iB hzB5 (fun b6 hzB5 => ?_) (fun b6 hzB5 => ?_)
     · refine Holds.skip ?_
       refine Tn ?_
       refine Holds.seq ?_
       refine Holds.block ?_
       obtain ⟨e7, he7, hzB5⟩ := bS hzB5
       refine Rg [.a, .a, (.v (vA encSWaiting e7)), .a, .a, .a] (sl 32 [(1, vL encSWaiting a1), (2, .c (.fn 48)), (7, vI vt17_4), (8, vP [8] (0)), (15, vL encSWaiting a0), (16, vI (a0.length : Int)), (17, vI vt17_4)] [bx [8] (encSWaiting e7)]) (aC (idx_b he7) <| aC (eld he7 lenSWaiting 0 89 true (vA encSWaiting e7)) <| aC (Eq.refl (vA encSWaiting e7)) <| aN) ?_
       obtain ⟨e8, he8, hzB5⟩ := bS hzB5
       refine Rg [.a, .a, .a, (.v (vA encSWaiting e8)), .a, .a] (sl 32 [(1, vL encSWaiting a1), (2, .c (.fn 48)), (8, vP [8] (0)), (9, vP [9] (0)), (15, vL encSWaiting a0), (16, vI (a0.length : Int)), (17, vI vt17_4)] [bx [9] (encSWaiting e8), bx [8] (encSWaiting e7)]) (aC (idx_b he8) <| aC (eld he8 lenSWaiting 0 89 true (vA encSWaiting e8)) <| aC (Eq.refl (vA encSWaiting e8)) <| aN) ?_
       refine Holds.seq ?_
       refine Holds.region ?_
       refine Rp 3 [.a, .a, .a] (sl 32 [(1, vL encSWaiting a1), (2, .c (.fn 48)), (8, vP [8] (0)), (9, vP [9] (0)), (15, vL encSWaiting a0), (16, vI (a0.length : Int)), (17, vI vt17_4), (26, .c (.fn 48)), (27, vA encSWaiting e7), (28, vA encSWaiting e8)] [bx [9] (encSWaiting e8), bx [8] (encSWaiting e7)]) (aN) ?_
       refine Run.inl rfl rfl (Esc.inline (s := True ∧ (True ∧ True)) (vs := [vA encSWaiting e7, vA encSWaiting e8]) (cs := []) 29 rfl rfl rfl (by kernel_rfl) ⟨trivial, ⟨trivial, trivial⟩⟩ (by kernel_rfl) (by kernel_rfl) Tryz.func48 rfl Tryz.ntmps48 (rs := [.tmp 4]) rfl ?_)
       intro w08 av8 old8 gv8
       refine At (sg 31 [(0, vA encSWaiting e7), (1, vA encSWaiting e8)] [bx [9] (encSWaiting e8), bx [8] (encSWaiting e7)] 32 [(1, vL encSWaiting a1), (2, .c (.fn 48)), (8, vP [8] (0)), (9, vP [9] (0)), (15, vL encSWaiting a0), (16, vI (a0.length : Int)), (17, vI vt17_4), (26, .c (.fn 48)), (27, vA encSWaiting e7), (28, vA encSWaiting e8)] [29]) ?_
       refine Rg [.a, .a, .a] (sg 31 [(2, vP [2, 29] (0)), (3, vP [3, 29] (0))] [bx [3, 29] (encSWaiting e8), bx [2, 29] (encSWaiting e7), bx [9] (encSWaiting e8), bx [8] (encSWaiting e7)] 32 [(1, vL encSWaiting a1), (2, .c (.fn 48)), (8, vP [8] (0)), (9, vP [9] (0)), (15, vL encSWaiting a0), (16, vI (a0.length : Int)), (17, vI vt17_4), (26, .c (.fn 48)), (27, vA encSWaiting e7), (28, vA encSWaiting e8)] [29]) (aN) ?_
       obtain ⟨b9, hb9, hzB5⟩ := bS hzB5
       obtain ⟨r10, hr10, hzB5⟩ := bS hzB5
       obtain ⟨b11, hb11, hzB5⟩ := bS hzB5
       obtain ⟨b12, hb12, hzB5⟩ := bS hzB5
       refine Rg [.a, .a, .a, .a, .a, .a, .a, .a, .a, .a, .a, (.v (vB b9)), .a, .a, .a, .a, .a, (.c (vB r10)), (.v (vB b11)), .a, .a, .a, .a, .a, (.v (vB (e7.Event == e8.Event))), (.v (vB b12)), .a] (sg 31 [(4, vB b12)] [bx [9] (encSWaiting e8), bx [8] (encSWaiting e7)] 32 [(1, vL encSWaiting a1), (2, .c (.fn 48)), (8, vP [8] (0)), (9, vP [9] (0)), (15, vL encSWaiting a0), (16, vI (a0.length : Int)), (17, vI vt17_4), (26, .c (.fn 48)), (27, vA encSWaiting e7), (28, vA encSWaiting e8)] [29]) (aG ((e7.Source == e8.Source) == true) <| aG ((e7.Source == e8.Source) == true) <| aH ((e7.Source == e8.Source) == true) <| aT (e7.Source == e8.Source) <| aB hb9 <| aG (b9 == true) <| aG (b9 == true) <| aC (c2 hr10 state_sameAbility_ok) <| aT b9 <| aB hb11 <| aG (b11 == true) <| aG (b11 == true) <| aC (fun hg : (b11 == true) = true => aC (gi (b11 == true)) <| aC (gi (b11 == true)) <| aC (congrArg (fun z => V.c (.bool (z))) (eqT79 e7.Event e8.Event)) <| aN) <| aT b11 <| aB hb12 <| aN) ?_
       refine Holds.ret ?_
       refine inQ.ret (v := vB b12) (by kernel_rfl) ?_
       refine Rw [.a] (sl 32 [(1, vL encSWaiting a1), (2, .c (.fn 48)), (8, vP [8] (0)), (9, vP [9] (0)), (15, vL encSWaiting a0), (16, vI (a0.length : Int)), (17, vI vt17_4), (26, .c (.fn 48)), (27, vA encSWaiting e7), (28, vA encSWaiting e8), (29, vB b12), (30, vB (!b12))] [bx [9] (encSWaiting e8), bx [8] (encSWaiting e7)]) (aN) ?_
       refine Tn ?_
       refine iB hzB5 (fun b13 hzB5 => ?_) (fun b13 hzB5 => ?_)
       · refine Rg [.a] (sl 32 [(6, vB false)] []) (aN) ?_
         refine Holds.ret ?_
         refine blockQ.ret ?_
         refine Tr ?_
         have hoB5_ := hoB5 _ (sI hzB5).symm
         subst hoB5_
         replace h := sumL h
         refine Tr ?_
         refine blockQ.ret ?_
         refine Tr ?_
         exact bQ (vB false) (congrArg vB (sI h))
       · refine Holds.skip ?_
         refine blockQ.normal ?_
         refine Tn ?_
         refine Re [.a, .a] (sl 32 [(1, vL encSWaiting a1), (2, .c (.fn 48)), (8, vP [8] (0)), (9, vP [9] (0)), (15, vL encSWaiting a0), (16, vI (a0.length : Int)), (17, vI (wrap64 (vt17_4 + (1 : Int)))), (26, .c (.fn 48)), (27, vA encSWaiting e7), (28, vA encSWaiting e8), (29, vB b12), (30, vB (!b12)), (31, vI (wrap64 (vt17_4 + (1 : Int))))] [bx [9] (encSWaiting e8), bx [8] (encSWaiting e7)]) (aN) ?_
         refine Tn ⟨(wrap64 (vt17_4 + (1 : Int))), (sI hzB5).symm, wT⟩
     · refine Holds.exit ?_
       refine thenQ.exit ?_
       have hoB5_ := hoB5 _ (sI hzB5).symm
       subst hoB5_
       replace h := sumR h
       refine thenQ.exit ?_
       refine blockQ.out ?_
       refine Tn ⟨(), h, wT⟩
   · rintro _ hJ2
     replace hJ2 : slices_EqualFunc_api_Waiting_api_Waiting_api_Waiting_api_Waiting_state_sameWaiting_J2 = some r := hJ2
     unfold slices_EqualFunc_api_Waiting_api_Waiting_api_Waiting_api_Waiting_state_sameWaiting_J2 at hJ2
     refine Rg [.a] (sl 32 [(6, vB true)] []) (aN) ?_
     refine Holds.ret ?_
     exact bQ (vB true) (congrArg vB (sI hJ2))
def r26_lists_J10  : Option (Bool) :=
 some true
def r26_lists_B13 (a0 : SState) (a1 : SState) (vt9_12 : Int) : Option ((Int) ⊕ (Unit ⊕ Unit)) :=
 (if (decide (vt9_12 < (a0.Conts.length : Int))) = true then
  (idx a0.Conts vt9_12).bind fun e15 =>
  (idx a1.Conts vt9_12).bind fun e16 =>
  (r26_SameCont e15 e16).bind fun r17 =>
  (if (!r17) = true then
   some (.inr (.inl ()))
  else
   some (.inl (wrap64 (vt9_12 + (1 : Int)))))
 else
  some (.inr (.inr ())))
def r26_lists_J9 (a0 : SState) (a1 : SState) : Option (Bool) :=
 (iter (fun (v : Int) => r26_lists_B13 a0 a1 v) FU (0 : Int)).bind (Sum.elim (fun o0 => some false) (fun o1 => r26_lists_J10))
def r26_lists_B21 (a0 : SState) (a1 : SState) (vt8_20 : Int) : Option ((Int) ⊕ (Unit ⊕ Unit)) :=
 (if (decide (vt8_20 < (a0.Waiting.length : Int))) = true then
  (idx a0.Waiting vt8_20).bind fun e23 =>
  (idx a1.Waiting vt8_20).bind fun e24 =>
  (r26_SameWaiting e23 e24).bind fun r25 =>
  (if (!r25) = true then
   some (.inr (.inl ()))
  else
   some (.inl (wrap64 (vt8_20 + (1 : Int)))))
 else
  some (.inr (.inr ())))
def r26_lists_J8 (a0 : SState) (a1 : SState) : Option (Bool) :=
 (iter (fun (v : Int) => r26_lists_B21 a0 a1 v) FU (0 : Int)).bind (Sum.elim (fun o0 => some false) (fun o1 => r26_lists_J9 a0 a1))
def r26_lists_B29 (a0 : SState) (a1 : SState) (vt7_28 : Int) : Option ((Int) ⊕ (Unit ⊕ Unit)) :=
 (if (decide (vt7_28 < (a0.Stack.length : Int))) = true then
  (idx a0.Stack vt7_28).bind fun e31 =>
  (idx a1.Stack vt7_28).bind fun e32 =>
  (r26_SameItem e31 e32).bind fun r33 =>
  (if (!r33) = true then
   some (.inr (.inl ()))
  else
   some (.inl (wrap64 (vt7_28 + (1 : Int)))))
 else
  some (.inr (.inr ())))
def r26_lists_J7 (a0 : SState) (a1 : SState) : Option (Bool) :=
 (iter (fun (v : Int) => r26_lists_B29 a0 a1 v) FU (0 : Int)).bind (Sum.elim (fun o0 => some false) (fun o1 => r26_lists_J8 a0 a1))
def r26_lists_B37 (a0 : SState) (a1 : SState) (vt6_36 : Int) : Option ((Int) ⊕ (Unit ⊕ Unit)) :=
 (if (decide (vt6_36 < (a0.Objects.length : Int))) = true then
  (idx a0.Objects vt6_36).bind fun e39 =>
  (idx a1.Objects vt6_36).bind fun e40 =>
  (if (!(e39 == e40)) = true then
   some (.inr (.inl ()))
  else
   some (.inl (wrap64 (vt6_36 + (1 : Int)))))
 else
  some (.inr (.inr ())))
def r26_lists_J6 (a0 : SState) (a1 : SState) : Option (Bool) :=
 (iter (fun (v : Int) => r26_lists_B37 a0 a1 v) FU (0 : Int)).bind (Sum.elim (fun o0 => some false) (fun o1 => r26_lists_J7 a0 a1))
def r26_lists_B44 (a0 : SState) (a1 : SState) (vt5_43 : Int) : Option ((Int) ⊕ (Unit ⊕ Unit)) :=
 (if (decide (vt5_43 < (a0.Players.length : Int))) = true then
  (idx a0.Players vt5_43).bind fun e46 =>
  (idx a1.Players vt5_43).bind fun e47 =>
  (r26_SamePlayer e46 e47).bind fun r48 =>
  (if (!r48) = true then
   some (.inr (.inl ()))
  else
   some (.inl (wrap64 (vt5_43 + (1 : Int)))))
 else
  some (.inr (.inr ())))
/-- cardgame/cardgameref26.lists -/
def r26_lists (a0 : SState) (a1 : SState) : Option (Bool) :=
 (some (if ((a0.Players.length : Int) != (a1.Players.length : Int)) = true then true else (a0.Objects.length : Int) != (a1.Objects.length : Int))).bind fun b1 =>
 (some (if b1 = true then true else (a0.Stack.length : Int) != (a1.Stack.length : Int))).bind fun b2 =>
 (some (if b2 = true then true else (a0.Waiting.length : Int) != (a1.Waiting.length : Int))).bind fun b3 =>
 (some (if b3 = true then true else (a0.Conts.length : Int) != (a1.Conts.length : Int))).bind fun b4 =>
 (if b4 = true then
  some false
 else
  (iter (fun (v : Int) => r26_lists_B44 a0 a1 v) FU (0 : Int)).bind (Sum.elim (fun o0 => some false) (fun o1 => r26_lists_J6 a0 a1)))
def r26_lists_C (a0 : SState) (a1 : SState) (r : Bool) : Prop := PCall Tryz.prog I0 27 [vA encSState a0, vA encSState a1] (· = vB r)
theorem r26_lists_ok {a0 : SState} {a1 : SState} {r : Bool} (h : r26_lists a0 a1 = some r) : r26_lists_C a0 a1 r := by
 refine PCall.body I0_stable (by kernel_rfl) Tryz.func27 rfl Tryz.ntmps27 (rs := [.tmp 4]) rfl rfl ?_
 intro w0 av old gv
 unfold r26_lists at h
 refine Rg [.a, .a, .a] (sl 147 [(2, vP [2] (0)), (3, vP [3] (0))] [bx [3] (encSState a1), bx [2] (encSState a0)]) (aN) ?_
 refine Holds.seq ?_
 obtain ⟨b1, hb1, h⟩ := bS h
 obtain ⟨b2, hb2, h⟩ := bS h
 obtain ⟨b3, hb3, h⟩ := bS h
 obtain ⟨b4, hb4, h⟩ := bS h
 refine Rg [.a, .a, .a, .a, .a, .a, .a, .a, .a, .a, .a, .a, .a, .a, .a, (.v (vB b1)), .a, .a, .a, .a, .a, .a, .a, .a, (.v (vB b2)), .a, .a, .a, .a, .a, .a, .a, .a, (.v (vB b3)), .a, .a, .a, .a, .a, .a, .a, .a, (.v (vB b4))] (sl 147 [(2, vP [2] (0)), (3, vP [3] (0)), (52, vB b4)] [bx [3] (encSState a1), bx [2] (encSState a0)]) (aG (((a0.Players.length : Int) != (a1.Players.length : Int)) == false) <| aG (((a0.Players.length : Int) != (a1.Players.length : Int)) == false) <| aG (((a0.Players.length : Int) != (a1.Players.length : Int)) == false) <| aG (((a0.Players.length : Int) != (a1.Players.length : Int)) == false) <| aH (((a0.Players.length : Int) != (a1.Players.length : Int)) == false) <| aF ((a0.Players.length : Int) != (a1.Players.length : Int)) <| aB hb1 <| aG (b1 == false) <| aG (b1 == false) <| aG (b1 == false) <| aG (b1 == false) <| aH (b1 == false) <| aF b1 <| aB hb2 <| aG (b2 == false) <| aG (b2 == false) <| aG (b2 == false) <| aG (b2 == false) <| aH (b2 == false) <| aF b2 <| aB hb3 <| aG (b3 == false) <| aG (b3 == false) <| aG (b3 == false) <| aG (b3 == false) <| aH (b3 == false) <| aF b3 <| aB hb4 <| aN) ?_
 refine iB h (fun b5 h => ?_) (fun b5 h => ?_)
 · refine Rg [.a] (sl 147 [(4, vB false)] []) (aN) ?_
   refine Holds.ret ?_
   refine Tr ?_
   exact bQ (vB false) (congrArg vB (sI h))
 · refine Holds.skip ?_
   refine Tn ?_
   refine Sj (X := Unit) (fun v => (sl 147 [(2, vP [2] (0)), (3, vP [3] (0))] [bx [3] (encSState a1), bx [2] (encSState a0)])) (fun v => r26_lists_J6 a0 a1 = some r) ?_ ?_
   · refine Rg [.a] (sl 147 [(2, vP [2] (0)), (3, vP [3] (0)), (5, vI (0 : Int))] [bx [3] (encSState a1), bx [2] (encSState a0)]) (aN) ?_
     refine Holds.block ?_
     obtain ⟨oB44, hiB44, h⟩ := bS h
     refine It (fun (v : Int) => (sl 147 [(2, vP [2] (0)), (3, vP [3] (0)), (5, vI v)] [bx [3] (encSState a1), bx [2] (encSState a0)])) hiB44 (wT) ?_
     rintro vt5_43 zB44 hzB44 hoB44
     replace hzB44 : r26_lists_B44 a0 a1 vt5_43 = some zB44 := hzB44
     unfold r26_lists_B44 at hzB44
     refine Holds.seq ?_
     refine Rg [.a, .a, .a, .a, .a] (sl 147 [(2, vP [2] (0)), (3, vP [3] (0)), (5, vI vt5_43), (57, vB (decide (vt5_43 < (a0.Players.length : Int))))] [bx [3] (encSState a1), bx [2] (encSState a0)]) (aN) ?_
     refine iB hzB44 (fun b45 hzB44 => ?_) (fun b45 hzB44 => ?_)
     · refine Holds.skip ?_
       refine Tn ?_
       refine Holds.seq ?_
       refine Holds.block ?_
       obtain ⟨e46, he46, hzB44⟩ := bS hzB44
       obtain ⟨e47, he47, hzB44⟩ := bS hzB44
       obtain ⟨r48, hr48, hzB44⟩ := bS hzB44
       refine Rq followsP [.a, .a, .a, .a, (.v (vA encSPlayer e46)), .a, .a, .a, .a, (.v (vA encSPlayer e47)), (.c (vB r48)), .a] (sl 147 [(2, vP [2] (0)), (3, vP [3] (0)), (5, vI vt5_43), (71, vB (!r48))] [bx [3] (encSState a1), bx [2] (encSState a0)]) (aC (idx_b he46) <| aC (eld he46 lenSPlayer 0 14 true (vA encSPlayer e46)) <| aC (Eq.refl (vA encSPlayer e46)) <| aC (idx_b he47) <| aC (eld he47 lenSPlayer 0 14 true (vA encSPlayer e47)) <| aC (Eq.refl (vA encSPlayer e47)) <| aC (r26_SamePlayer_ok hr48) <| aN) ?_
       refine iB hzB44 (fun b49 hzB44 => ?_) (fun b49 hzB44 => ?_)
       · refine Rg [.a] (sl 147 [(4, vB false)] []) (aN) ?_
         refine Holds.ret ?_
         refine blockQ.ret ?_
         refine Tr ?_
         have hoB44_ := hoB44 _ (sI hzB44).symm
         subst hoB44_
         replace h := sumL h
         refine Tr ?_
         refine blockQ.ret ?_
         refine Tr ?_
         exact bQ (vB false) (congrArg vB (sI h))
       · refine Holds.skip ?_
         refine blockQ.normal ?_
         refine Tn ?_
         refine Re [.a, .a, .a] (sl 147 [(2, vP [2] (0)), (3, vP [3] (0)), (5, vI (wrap64 (vt5_43 + (1 : Int)))), (58, vI vt5_43), (59, vI (wrap64 (vt5_43 + (1 : Int)))), (71, vB (!r48))] [bx [3] (encSState a1), bx [2] (encSState a0)]) (aN) ?_
         refine Tn ⟨(wrap64 (vt5_43 + (1 : Int))), (sI hzB44).symm, wT⟩
     · refine Holds.exit ?_
       refine thenQ.exit ?_
       have hoB44_ := hoB44 _ (sI hzB44).symm
       subst hoB44_
       replace h := sumR h
       refine thenQ.exit ?_
       refine blockQ.out ?_
       refine Tn ⟨(), h, wT⟩
   · rintro _ hJ6
     replace hJ6 : r26_lists_J6 a0 a1 = some r := hJ6
     unfold r26_lists_J6 at hJ6
     refine Sj (X := Unit) (fun v => (sl 147 [(2, vP [2] (0)), (3, vP [3] (0))] [bx [3] (encSState a1), bx [2] (encSState a0)])) (fun v => r26_lists_J7 a0 a1 = some r) ?_ ?_
     · refine Rg [.a] (sl 147 [(2, vP [2] (0)), (3, vP [3] (0)), (6, vI (0 : Int))] [bx [3] (encSState a1), bx [2] (encSState a0)]) (aN) ?_
       refine Holds.block ?_
       obtain ⟨oB37, hiB37, hJ6⟩ := bS hJ6
       refine It (fun (v : Int) => (sl 147 [(2, vP [2] (0)), (3, vP [3] (0)), (6, vI v)] [bx [3] (encSState a1), bx [2] (encSState a0)])) hiB37 (wT) ?_
       rintro vt6_36 zB37 hzB37 hoB37
       replace hzB37 : r26_lists_B37 a0 a1 vt6_36 = some zB37 := hzB37
       unfold r26_lists_B37 at hzB37
       refine Holds.seq ?_
       refine Rg [.a, .a, .a, .a, .a] (sl 147 [(2, vP [2] (0)), (3, vP [3] (0)), (6, vI vt6_36), (76, vB (decide (vt6_36 < (a0.Objects.length : Int))))] [bx [3] (encSState a1), bx [2] (encSState a0)]) (aN) ?_
       refine iB hzB37 (fun b38 hzB37 => ?_) (fun b38 hzB37 => ?_)
       · refine Holds.skip ?_
         refine Tn ?_
         refine Holds.seq ?_
         refine Holds.block ?_
         obtain ⟨e39, he39, hzB37⟩ := bS hzB37
         obtain ⟨e40, he40, hzB37⟩ := bS hzB37
         refine Rq followsP [.a, .a, .a, .a, (.v (vA encSObject e39)), .a, .a, .a, .a, (.v (vA encSObject e40)), (.v (vB (!(e39 == e40))))] (sl 147 [(2, vP [2] (0)), (3, vP [3] (0)), (6, vI vt6_36), (89, vB (!(e39 == e40)))] [bx [3] (encSState a1), bx [2] (encSState a0)]) (aC (idx_b he39) <| aC (eld he39 lenSObject 0 19 true (vA encSObject e39)) <| aC (Eq.refl (vA encSObject e39)) <| aC (idx_b he40) <| aC (eld he40 lenSObject 0 19 true (vA encSObject e40)) <| aC (Eq.refl (vA encSObject e40)) <| aC (congrArg (fun z => V.c (.bool (!z))) (eqT56 e39 e40)) <| aN) ?_
         refine iB hzB37 (fun b41 hzB37 => ?_) (fun b41 hzB37 => ?_)
         · refine Rg [.a] (sl 147 [(4, vB false)] []) (aN) ?_
           refine Holds.ret ?_
           refine blockQ.ret ?_
           refine Tr ?_
           have hoB37_ := hoB37 _ (sI hzB37).symm
           subst hoB37_
           replace hJ6 := sumL hJ6
           refine Tr ?_
           refine blockQ.ret ?_
           refine Tr ?_
           exact bQ (vB false) (congrArg vB (sI hJ6))
         · refine Holds.skip ?_
           refine blockQ.normal ?_
           refine Tn ?_
           refine Re [.a, .a, .a] (sl 147 [(2, vP [2] (0)), (3, vP [3] (0)), (6, vI (wrap64 (vt6_36 + (1 : Int)))), (77, vI vt6_36), (78, vI (wrap64 (vt6_36 + (1 : Int)))), (89, vB (!(e39 == e40)))] [bx [3] (encSState a1), bx [2] (encSState a0)]) (aN) ?_
           refine Tn ⟨(wrap64 (vt6_36 + (1 : Int))), (sI hzB37).symm, wT⟩
       · refine Holds.exit ?_
         refine thenQ.exit ?_
         have hoB37_ := hoB37 _ (sI hzB37).symm
         subst hoB37_
         replace hJ6 := sumR hJ6
         refine thenQ.exit ?_
         refine blockQ.out ?_
         refine Tn ⟨(), hJ6, wT⟩
     · rintro _ hJ7
       replace hJ7 : r26_lists_J7 a0 a1 = some r := hJ7
       unfold r26_lists_J7 at hJ7
       refine Sj (X := Unit) (fun v => (sl 147 [(2, vP [2] (0)), (3, vP [3] (0))] [bx [3] (encSState a1), bx [2] (encSState a0)])) (fun v => r26_lists_J8 a0 a1 = some r) ?_ ?_
       · refine Rg [.a] (sl 147 [(2, vP [2] (0)), (3, vP [3] (0)), (7, vI (0 : Int))] [bx [3] (encSState a1), bx [2] (encSState a0)]) (aN) ?_
         refine Holds.block ?_
         obtain ⟨oB29, hiB29, hJ7⟩ := bS hJ7
         refine It (fun (v : Int) => (sl 147 [(2, vP [2] (0)), (3, vP [3] (0)), (7, vI v)] [bx [3] (encSState a1), bx [2] (encSState a0)])) hiB29 (wT) ?_
         rintro vt7_28 zB29 hzB29 hoB29
         replace hzB29 : r26_lists_B29 a0 a1 vt7_28 = some zB29 := hzB29
         unfold r26_lists_B29 at hzB29
         refine Holds.seq ?_
         refine Rg [.a, .a, .a, .a, .a] (sl 147 [(2, vP [2] (0)), (3, vP [3] (0)), (7, vI vt7_28), (94, vB (decide (vt7_28 < (a0.Stack.length : Int))))] [bx [3] (encSState a1), bx [2] (encSState a0)]) (aN) ?_
         refine iB hzB29 (fun b30 hzB29 => ?_) (fun b30 hzB29 => ?_)
         · refine Holds.skip ?_
           refine Tn ?_
           refine Holds.seq ?_
           refine Holds.block ?_
           obtain ⟨e31, he31, hzB29⟩ := bS hzB29
           obtain ⟨e32, he32, hzB29⟩ := bS hzB29
           obtain ⟨r33, hr33, hzB29⟩ := bS hzB29
           refine Rq followsP [.a, .a, .a, .a, (.v (vA encSItem e31)), .a, .a, .a, .a, (.v (vA encSItem e32)), (.c (vB r33)), .a] (sl 147 [(2, vP [2] (0)), (3, vP [3] (0)), (7, vI vt7_28), (108, vB (!r33))] [bx [3] (encSState a1), bx [2] (encSState a0)]) (aC (idx_b he31) <| aC (eld he31 lenSItem 0 94 true (vA encSItem e31)) <| aC (Eq.refl (vA encSItem e31)) <| aC (idx_b he32) <| aC (eld he32 lenSItem 0 94 true (vA encSItem e32)) <| aC (Eq.refl (vA encSItem e32)) <| aC (r26_SameItem_ok hr33) <| aN) ?_
           refine iB hzB29 (fun b34 hzB29 => ?_) (fun b34 hzB29 => ?_)
           · refine Rg [.a] (sl 147 [(4, vB false)] []) (aN) ?_
             refine Holds.ret ?_
             refine blockQ.ret ?_
             refine Tr ?_
             have hoB29_ := hoB29 _ (sI hzB29).symm
             subst hoB29_
             replace hJ7 := sumL hJ7
             refine Tr ?_
             refine blockQ.ret ?_
             refine Tr ?_
             exact bQ (vB false) (congrArg vB (sI hJ7))
           · refine Holds.skip ?_
             refine blockQ.normal ?_
             refine Tn ?_
             refine Re [.a, .a, .a] (sl 147 [(2, vP [2] (0)), (3, vP [3] (0)), (7, vI (wrap64 (vt7_28 + (1 : Int)))), (95, vI vt7_28), (96, vI (wrap64 (vt7_28 + (1 : Int)))), (108, vB (!r33))] [bx [3] (encSState a1), bx [2] (encSState a0)]) (aN) ?_
             refine Tn ⟨(wrap64 (vt7_28 + (1 : Int))), (sI hzB29).symm, wT⟩
         · refine Holds.exit ?_
           refine thenQ.exit ?_
           have hoB29_ := hoB29 _ (sI hzB29).symm
           subst hoB29_
           replace hJ7 := sumR hJ7
           refine thenQ.exit ?_
           refine blockQ.out ?_
           refine Tn ⟨(), hJ7, wT⟩
       · rintro _ hJ8
         replace hJ8 : r26_lists_J8 a0 a1 = some r := hJ8
         unfold r26_lists_J8 at hJ8
         refine Sj (X := Unit) (fun v => (sl 147 [(2, vP [2] (0)), (3, vP [3] (0))] [bx [3] (encSState a1), bx [2] (encSState a0)])) (fun v => r26_lists_J9 a0 a1 = some r) ?_ ?_
         · refine Rg [.a] (sl 147 [(2, vP [2] (0)), (3, vP [3] (0)), (8, vI (0 : Int))] [bx [3] (encSState a1), bx [2] (encSState a0)]) (aN) ?_
           refine Holds.block ?_
           obtain ⟨oB21, hiB21, hJ8⟩ := bS hJ8
           refine It (fun (v : Int) => (sl 147 [(2, vP [2] (0)), (3, vP [3] (0)), (8, vI v)] [bx [3] (encSState a1), bx [2] (encSState a0)])) hiB21 (wT) ?_
           rintro vt8_20 zB21 hzB21 hoB21
           replace hzB21 : r26_lists_B21 a0 a1 vt8_20 = some zB21 := hzB21
           unfold r26_lists_B21 at hzB21
           refine Holds.seq ?_
           refine Rg [.a, .a, .a, .a, .a] (sl 147 [(2, vP [2] (0)), (3, vP [3] (0)), (8, vI vt8_20), (113, vB (decide (vt8_20 < (a0.Waiting.length : Int))))] [bx [3] (encSState a1), bx [2] (encSState a0)]) (aN) ?_
           refine iB hzB21 (fun b22 hzB21 => ?_) (fun b22 hzB21 => ?_)
           · refine Holds.skip ?_
             refine Tn ?_
             refine Holds.seq ?_
             refine Holds.block ?_
             obtain ⟨e23, he23, hzB21⟩ := bS hzB21
             obtain ⟨e24, he24, hzB21⟩ := bS hzB21
             obtain ⟨r25, hr25, hzB21⟩ := bS hzB21
             refine Rq followsP [.a, .a, .a, .a, (.v (vA encSWaiting e23)), .a, .a, .a, .a, (.v (vA encSWaiting e24)), (.c (vB r25)), .a] (sl 147 [(2, vP [2] (0)), (3, vP [3] (0)), (8, vI vt8_20), (127, vB (!r25))] [bx [3] (encSState a1), bx [2] (encSState a0)]) (aC (idx_b he23) <| aC (eld he23 lenSWaiting 0 89 true (vA encSWaiting e23)) <| aC (Eq.refl (vA encSWaiting e23)) <| aC (idx_b he24) <| aC (eld he24 lenSWaiting 0 89 true (vA encSWaiting e24)) <| aC (Eq.refl (vA encSWaiting e24)) <| aC (r26_SameWaiting_ok hr25) <| aN) ?_
             refine iB hzB21 (fun b26 hzB21 => ?_) (fun b26 hzB21 => ?_)
             · refine Rg [.a] (sl 147 [(4, vB false)] []) (aN) ?_
               refine Holds.ret ?_
               refine blockQ.ret ?_
               refine Tr ?_
               have hoB21_ := hoB21 _ (sI hzB21).symm
               subst hoB21_
               replace hJ8 := sumL hJ8
               refine Tr ?_
               refine blockQ.ret ?_
               refine Tr ?_
               exact bQ (vB false) (congrArg vB (sI hJ8))
             · refine Holds.skip ?_
               refine blockQ.normal ?_
               refine Tn ?_
               refine Re [.a, .a, .a] (sl 147 [(2, vP [2] (0)), (3, vP [3] (0)), (8, vI (wrap64 (vt8_20 + (1 : Int)))), (114, vI vt8_20), (115, vI (wrap64 (vt8_20 + (1 : Int)))), (127, vB (!r25))] [bx [3] (encSState a1), bx [2] (encSState a0)]) (aN) ?_
               refine Tn ⟨(wrap64 (vt8_20 + (1 : Int))), (sI hzB21).symm, wT⟩
           · refine Holds.exit ?_
             refine thenQ.exit ?_
             have hoB21_ := hoB21 _ (sI hzB21).symm
             subst hoB21_
             replace hJ8 := sumR hJ8
             refine thenQ.exit ?_
             refine blockQ.out ?_
             refine Tn ⟨(), hJ8, wT⟩
         · rintro _ hJ9
           replace hJ9 : r26_lists_J9 a0 a1 = some r := hJ9
           unfold r26_lists_J9 at hJ9
           refine Sj (X := Unit) (fun v => (sl 147 [] [])) (fun v => r26_lists_J10 = some r) ?_ ?_
           · refine Rg [.a] (sl 147 [(2, vP [2] (0)), (3, vP [3] (0)), (9, vI (0 : Int))] [bx [3] (encSState a1), bx [2] (encSState a0)]) (aN) ?_
             refine Holds.block ?_
             obtain ⟨oB13, hiB13, hJ9⟩ := bS hJ9
             refine It (fun (v : Int) => (sl 147 [(2, vP [2] (0)), (3, vP [3] (0)), (9, vI v)] [bx [3] (encSState a1), bx [2] (encSState a0)])) hiB13 (wT) ?_
             rintro vt9_12 zB13 hzB13 hoB13
             replace hzB13 : r26_lists_B13 a0 a1 vt9_12 = some zB13 := hzB13
             unfold r26_lists_B13 at hzB13
             refine Holds.seq ?_
             refine Rg [.a, .a, .a, .a, .a] (sl 147 [(2, vP [2] (0)), (3, vP [3] (0)), (9, vI vt9_12), (132, vB (decide (vt9_12 < (a0.Conts.length : Int))))] [bx [3] (encSState a1), bx [2] (encSState a0)]) (aN) ?_
             refine iB hzB13 (fun b14 hzB13 => ?_) (fun b14 hzB13 => ?_)
             · refine Holds.skip ?_
               refine Tn ?_
               refine Holds.seq ?_
               refine Holds.block ?_
               obtain ⟨e15, he15, hzB13⟩ := bS hzB13
               obtain ⟨e16, he16, hzB13⟩ := bS hzB13
               obtain ⟨r17, hr17, hzB13⟩ := bS hzB13
               refine Rq followsP [.a, .a, .a, .a, (.v (vA encSCont e15)), .a, .a, .a, .a, (.v (vA encSCont e16)), (.c (vB r17)), .a] (sl 147 [(2, vP [2] (0)), (3, vP [3] (0)), (9, vI vt9_12), (146, vB (!r17))] [bx [3] (encSState a1), bx [2] (encSState a0)]) (aC (idx_b he15) <| aC (eld he15 lenSCont 0 6 true (vA encSCont e15)) <| aC (Eq.refl (vA encSCont e15)) <| aC (idx_b he16) <| aC (eld he16 lenSCont 0 6 true (vA encSCont e16)) <| aC (Eq.refl (vA encSCont e16)) <| aC (r26_SameCont_ok hr17) <| aN) ?_
               refine iB hzB13 (fun b18 hzB13 => ?_) (fun b18 hzB13 => ?_)
               · refine Rg [.a] (sl 147 [(4, vB false)] []) (aN) ?_
                 refine Holds.ret ?_
                 refine blockQ.ret ?_
                 refine Tr ?_
                 have hoB13_ := hoB13 _ (sI hzB13).symm
                 subst hoB13_
                 replace hJ9 := sumL hJ9
                 refine Tr ?_
                 refine blockQ.ret ?_
                 refine Tr ?_
                 exact bQ (vB false) (congrArg vB (sI hJ9))
               · refine Holds.skip ?_
                 refine blockQ.normal ?_
                 refine Tn ?_
                 refine Re [.a, .a, .a] (sl 147 [(2, vP [2] (0)), (3, vP [3] (0)), (9, vI (wrap64 (vt9_12 + (1 : Int)))), (133, vI vt9_12), (134, vI (wrap64 (vt9_12 + (1 : Int)))), (146, vB (!r17))] [bx [3] (encSState a1), bx [2] (encSState a0)]) (aN) ?_
                 refine Tn ⟨(wrap64 (vt9_12 + (1 : Int))), (sI hzB13).symm, wT⟩
             · refine Holds.exit ?_
               refine thenQ.exit ?_
               have hoB13_ := hoB13 _ (sI hzB13).symm
               subst hoB13_
               replace hJ9 := sumR hJ9
               refine thenQ.exit ?_
               refine blockQ.out ?_
               refine Tn ⟨(), hJ9, wT⟩
           · rintro _ hJ10
             replace hJ10 : r26_lists_J10 = some r := hJ10
             unfold r26_lists_J10 at hJ10
             refine Rg [.a] (sl 147 [(4, vB true)] []) (aN) ?_
             refine Holds.ret ?_
             exact bQ (vB true) (congrArg vB (sI hJ10))
def r26_Is_J21 (a0 : List (SCard)) (a1 : SState) : Option (Bool) :=
 (gd ((a1.Over == (1 : Int)) == true) (r26_player a1 a1.Winner)).bind fun r22 =>
 (some (if (a1.Over == (1 : Int)) = true then !r22 else false)).bind fun b23 =>
 (some (if (a1.Over != (1 : Int)) = true then a1.Winner != (-1 : Int) else false)).bind fun b24 =>
 (some (if b23 = true then true else b24)).bind fun b25 =>
 (if b25 = true then
  some false
 else
  (r26_objects a0 a1).bind fun r27 =>
  (gd (r27 == true) (r26_stack a1)).bind fun r28 =>
  (some (if r27 = true then r28 else false)).bind fun b29 =>
  some b29)
def r26_Is_B32 (a1 : SState) (i_t5_31 : Int) : Option ((Int) ⊕ (Unit ⊕ Unit)) :=
 (if (decide (i_t5_31 < (a1.Extra.length : Int))) = true then
  (idx a1.Extra i_t5_31).bind fun e34 =>
  (r26_player a1 e34).bind fun r35 =>
  (if (!r35) = true then
   some (.inr (.inl ()))
  else
   some (.inl (wrap64 (i_t5_31 + (1 : Int)))))
 else
  some (.inr (.inr ())))
/-- cardgame/cardgameref26.Is -/
def r26_Is (a0 : List (SCard)) (a1 : SState) : Option (Bool) :=
 (r26_in a1.NextId (1 : Int) (1000000 : Int)).bind fun r1 =>
 (gd ((!r1) == false) (r26_in a1.NextStamp (1 : Int) (1000000 : Int))).bind fun r2 =>
 (some (if (!r1) = true then true else !r2)).bind fun b3 =>
 (gd (b3 == false) (r26_in a1.Turn (0 : Int) (500 : Int))).bind fun r4 =>
 (some (if b3 = true then true else !r4)).bind fun b5 =>
 (gd (b5 == false) (r26_in a1.Step (0 : Int) (10 : Int))).bind fun r6 =>
 (some (if b5 = true then true else !r6)).bind fun b7 =>
 (some (if b7 = true then true else decide ((2048 : Int) < (a1.Objects.length : Int)))).bind fun b8 =>
 (if b8 = true then
  some false
 else
  (r26_players a1).bind fun r10 =>
  (gd ((!r10) == false) (r26_player a1 a1.Active)).bind fun r11 =>
  (some (if (!r10) = true then true else !r11)).bind fun b12 =>
  (gd (b12 == false) (r26_player a1 a1.Priority)).bind fun r13 =>
  (some (if b12 = true then true else !r13)).bind fun b14 =>
  (gd (b14 == false) (r26_in a1.Passes (0 : Int) (a1.Players.length : Int))).bind fun r15 =>
  (some (if b14 = true then true else !r15)).bind fun b16 =>
  (some (if b16 = true then true else decide ((500 : Int) < (a1.Extra.length : Int)))).bind fun b17 =>
  (gd (b17 == false) (r26_in a1.Over (0 : Int) (2 : Int))).bind fun r18 =>
  (some (if b17 = true then true else !r18)).bind fun b19 =>
  (if b19 = true then
   some false
  else
   (iter (fun (v : Int) => r26_Is_B32 a1 v) FU (0 : Int)).bind (Sum.elim (fun o0 => some false) (fun o1 => r26_Is_J21 a0 a1))))
def r26_Is_C (a0 : List (SCard)) (a1 : SState) (r : Bool) : Prop := PCall Tryz.prog I0 13 [vL encSCard a0, vA encSState a1] (· = vB r)
theorem r26_Is_ok {a0 : List (SCard)} {a1 : SState} {r : Bool} (h : r26_Is a0 a1 = some r) : r26_Is_C a0 a1 r := by
 refine PCall.body I0_stable (by kernel_rfl) Tryz.func13 rfl Tryz.ntmps13 (rs := [.tmp 4]) rfl rfl ?_
 intro w0 av old gv
 unfold r26_Is at h
 refine Rg [.a, .a] (sl 114 [(0, vL encSCard a0), (3, vP [3] (0))] [bx [3] (encSState a1)]) (aN) ?_
 refine Holds.seq ?_
 obtain ⟨r1, hr1, h⟩ := bS h
 obtain ⟨r2, hr2, h⟩ := bS h
 obtain ⟨b3, hb3, h⟩ := bS h
 obtain ⟨r4, hr4, h⟩ := bS h
 obtain ⟨b5, hb5, h⟩ := bS h
 obtain ⟨r6, hr6, h⟩ := bS h
 obtain ⟨b7, hb7, h⟩ := bS h
 obtain ⟨b8, hb8, h⟩ := bS h
 refine Rg [.a, .a, (.c (vB r1)), .a, .a, .a, .a, (.c (vB r2)), .a, (.v (vB b3)), .a, .a, .a, (.c (vB r4)), .a, (.v (vB b5)), .a, .a, .a, (.c (vB r6)), .a, (.v (vB b7)), .a, .a, .a, .a, .a, (.v (vB b8))] (sl 114 [(0, vL encSCard a0), (3, vP [3] (0)), (33, vB b8)] [bx [3] (encSState a1)]) (aC (r26_in_ok hr1) <| aG ((!r1) == false) <| aC (c1 hr2 r26_in_ok) <| aG ((!r1) == false) <| aF (!r1) <| aB hb3 <| aG (b3 == false) <| aC (c1 hr4 r26_in_ok) <| aG (b3 == false) <| aF b3 <| aB hb5 <| aG (b5 == false) <| aC (c1 hr6 r26_in_ok) <| aG (b5 == false) <| aF b5 <| aB hb7 <| aG (b7 == false) <| aG (b7 == false) <| aG (b7 == false) <| aF b7 <| aB hb8 <| aN) ?_
 refine iB h (fun b9 h => ?_) (fun b9 h => ?_)
 · refine Rg [.a] (sl 114 [(4, vB false)] []) (aN) ?_
   refine Holds.ret ?_
   refine Tr ?_
   exact bQ (vB false) (congrArg vB (sI h))
 · refine Holds.skip ?_
   refine Tn ?_
   refine Holds.seq ?_
   obtain ⟨r10, hr10, h⟩ := bS h
   obtain ⟨r11, hr11, h⟩ := bS h
   obtain ⟨b12, hb12, h⟩ := bS h
   obtain ⟨r13, hr13, h⟩ := bS h
   obtain ⟨b14, hb14, h⟩ := bS h
   obtain ⟨r15, hr15, h⟩ := bS h
   obtain ⟨b16, hb16, h⟩ := bS h
   obtain ⟨b17, hb17, h⟩ := bS h
   obtain ⟨r18, hr18, h⟩ := bS h
   obtain ⟨b19, hb19, h⟩ := bS h
   refine Rg [.a, (.c (vB r10)), .a, .a, .a, .a, .a, (.c (vB r11)), .a, (.v (vB b12)), .a, .a, .a, .a, (.c (vB r13)), .a, (.v (vB b14)), .a, .a, .a, .a, .a, .a, (.c (vB r15)), .a, (.v (vB b16)), .a, .a, .a, .a, .a, (.v (vB b17)), .a, .a, .a, (.c (vB r18)), .a, (.v (vB b19))] (sl 114 [(0, vL encSCard a0), (3, vP [3] (0)), (71, vB b19)] [bx [3] (encSState a1)]) (aC (r26_players_ok hr10) <| aG ((!r10) == false) <| aC (c2 hr11 r26_player_ok) <| aG ((!r10) == false) <| aF (!r10) <| aB hb12 <| aG (b12 == false) <| aC (c2 hr13 r26_player_ok) <| aG (b12 == false) <| aF b12 <| aB hb14 <| aG (b14 == false) <| aG (b14 == false) <| aG (b14 == false) <| aC (c2 hr15 r26_in_ok) <| aG (b14 == false) <| aF b14 <| aB hb16 <| aG (b16 == false) <| aG (b16 == false) <| aG (b16 == false) <| aF b16 <| aB hb17 <| aG (b17 == false) <| aC (c1 hr18 r26_in_ok) <| aG (b17 == false) <| aF b17 <| aB hb19 <| aN) ?_
   refine iB h (fun b20 h => ?_) (fun b20 h => ?_)
   · refine Rg [.a] (sl 114 [(4, vB false)] []) (aN) ?_
     refine Holds.ret ?_
     refine Tr ?_
     exact bQ (vB false) (congrArg vB (sI h))
   · refine Holds.skip ?_
     refine Tn ?_
     refine Sj (X := Unit) (fun v => (sl 114 [(0, vL encSCard a0), (3, vP [3] (0))] [bx [3] (encSState a1)])) (fun v => r26_Is_J21 a0 a1 = some r) ?_ ?_
     · refine Rg [.a] (sl 114 [(0, vL encSCard a0), (3, vP [3] (0)), (5, vI (0 : Int))] [bx [3] (encSState a1)]) (aN) ?_
       refine Holds.block ?_
       obtain ⟨oB32, hiB32, h⟩ := bS h
       refine It (fun (v : Int) => (sl 114 [(0, vL encSCard a0), (3, vP [3] (0)), (5, vI v)] [bx [3] (encSState a1)])) hiB32 (wT) ?_
       rintro i_t5_31 zB32 hzB32 hoB32
       replace hzB32 : r26_Is_B32 a1 i_t5_31 = some zB32 := hzB32
       unfold r26_Is_B32 at hzB32
       refine Holds.seq ?_
       refine Rg [.a, .a, .a, .a, .a] (sl 114 [(0, vL encSCard a0), (3, vP [3] (0)), (5, vI i_t5_31), (76, vB (decide (i_t5_31 < (a1.Extra.length : Int))))] [bx [3] (encSState a1)]) (aN) ?_
       refine iB hzB32 (fun b33 hzB32 => ?_) (fun b33 hzB32 => ?_)
       · refine Holds.skip ?_
         refine Tn ?_
         refine Holds.seq ?_
         refine Holds.block ?_
         obtain ⟨e34, he34, hzB32⟩ := bS hzB32
         obtain ⟨r35, hr35, hzB32⟩ := bS hzB32
         refine Rq followsP [.a, .a, .a, .a, .a, (.v (vI e34)), (.c (vB r35)), .a] (sl 114 [(0, vL encSCard a0), (3, vP [3] (0)), (5, vI i_t5_31), (86, vB (!r35))] [bx [3] (encSState a1)]) (aC (idx_b he34) <| aC (eld he34 (lenI .i64) 0 1 false (vI e34)) <| aC (Eq.refl (vI e34)) <| aC (r26_player_ok hr35) <| aN) ?_
         refine iB hzB32 (fun b36 hzB32 => ?_) (fun b36 hzB32 => ?_)
         · refine Rg [.a] (sl 114 [(4, vB false)] []) (aN) ?_
           refine Holds.ret ?_
           refine blockQ.ret ?_
           refine Tr ?_
           have hoB32_ := hoB32 _ (sI hzB32).symm
           subst hoB32_
           replace h := sumL h
           refine Tr ?_
           refine blockQ.ret ?_
           refine Tr ?_
           exact bQ (vB false) (congrArg vB (sI h))
         · refine Holds.skip ?_
           refine blockQ.normal ?_
           refine Tn ?_
           refine Re [.a, .a, .a] (sl 114 [(0, vL encSCard a0), (3, vP [3] (0)), (5, vI (wrap64 (i_t5_31 + (1 : Int)))), (77, vI i_t5_31), (78, vI (wrap64 (i_t5_31 + (1 : Int)))), (86, vB (!r35))] [bx [3] (encSState a1)]) (aN) ?_
           refine Tn ⟨(wrap64 (i_t5_31 + (1 : Int))), (sI hzB32).symm, wT⟩
       · refine Holds.exit ?_
         refine thenQ.exit ?_
         have hoB32_ := hoB32 _ (sI hzB32).symm
         subst hoB32_
         replace h := sumR h
         refine thenQ.exit ?_
         refine blockQ.out ?_
         refine Tn ⟨(), h, wT⟩
     · rintro _ hJ21
       replace hJ21 : r26_Is_J21 a0 a1 = some r := hJ21
       unfold r26_Is_J21 at hJ21
       refine Holds.seq ?_
       obtain ⟨r22, hr22, hJ21⟩ := bS hJ21
       obtain ⟨b23, hb23, hJ21⟩ := bS hJ21
       obtain ⟨b24, hb24, hJ21⟩ := bS hJ21
       obtain ⟨b25, hb25, hJ21⟩ := bS hJ21
       refine Rg [.a, .a, .a, .a, .a, .a, .a, (.c (vB r22)), .a, (.v (vB b23)), .a, .a, .a, .a, .a, .a, .a, .a, (.v (vB b24)), (.v (vB b25))] (sl 114 [(0, vL encSCard a0), (3, vP [3] (0)), (106, vB b25)] [bx [3] (encSState a1)]) (aG ((a1.Over == (1 : Int)) == true) <| aC (c2 hr22 r26_player_ok) <| aG ((a1.Over == (1 : Int)) == true) <| aT (a1.Over == (1 : Int)) <| aB hb23 <| aG (b23 == false) <| aG (b23 == false) <| aG (b23 == false) <| aG ((b23 == false) && ((a1.Over != (1 : Int)) == true)) <| aG ((b23 == false) && ((a1.Over != (1 : Int)) == true)) <| aC (fun hg : (b23 == false) = true => aC (gi (b23 == false)) <| aC (fun q : (a1.Over != (1 : Int)) = true => (gA hg (gT q))) <| aB hb24 <| aN) <| aF b23 <| aB hb25 <| aN) ?_
       refine iB hJ21 (fun b26 hJ21 => ?_) (fun b26 hJ21 => ?_)
       · refine Rg [.a] (sl 114 [(4, vB false)] []) (aN) ?_
         refine Holds.ret ?_
         refine Tr ?_
         exact bQ (vB false) (congrArg vB (sI hJ21))
       · refine Holds.skip ?_
         refine Tn ?_
         obtain ⟨r27, hr27, hJ21⟩ := bS hJ21
         obtain ⟨r28, hr28, hJ21⟩ := bS hJ21
         obtain ⟨b29, hb29, hJ21⟩ := bS hJ21
         refine Rg [.a, .a, (.c (vB r27)), .a, .a, (.c (vB r28)), (.v (vB b29)), .a] (sl 114 [(4, vB b29)] []) (aC (r26_objects_ok hr27) <| aC (c1 hr28 r26_stack_ok) <| aT r27 <| aB hb29 <| aN) ?_
         refine Holds.ret ?_
         exact bQ (vB b29) (congrArg vB (sI hJ21))
end Go.PL
