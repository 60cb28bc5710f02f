/- Functions of the program, as partial functions in Lean, with proofs. -/
import Derived.Test.YtipchejgnmnffaaGreatDoorPlStB
import Derived.Test.YtipchejgnmnffaaGreatDoorPlStF0
import Derived.Test.YtipchejgnmnffaaGreatDoorPlStF10
import Derived.Test.YtipchejgnmnffaaGreatDoorPlStF3
import Derived.Test.YtipchejgnmnffaaGreatDoorPlStF4
namespace Go.PL
open Go Go.RowKit Go.Proofs
set_option maxRecDepth 100000
set_option linter.all false
set_option maxHeartbeats 1000000
attribute [local irreducible] Holds thenQ blockQ
def slices_EqualFunc_api_Item_api_Item_api_Item_api_Item_state_sameItem_J2  : Option (Bool) :=
 some true
def slices_EqualFunc_api_Item_api_Item_api_Item_api_Item_state_sameItem_B5 (a0 : List (SItem)) (a1 : List (SItem)) (vt17_4 : Int) : Option ((Int) ⊕ (Unit ⊕ Unit)) :=
 (if (decide (vt17_4 < (a0.length : Int))) = true then
  (idx a0 vt17_4).bind fun e7 =>
  (idx a1 vt17_4).bind fun e8 =>
  (some (if (e7.Id == e8.Id) = true then e7.Kind == e8.Kind else false)).bind fun b9 =>
  (some (if b9 = true then e7.Source == e8.Source else false)).bind fun b10 =>
  (some (if b10 = true then e7.Control == e8.Control else false)).bind fun b11 =>
  (some (if b11 = true then e7.X == e8.X else false)).bind fun b12 =>
  (some (if b12 = true then e7.Copy == e8.Copy else false)).bind fun b13 =>
  (gd (b13 == true) (state_sameAbility e7.Ability e8.Ability)).bind fun r14 =>
  (some (if b13 = true then r14 else false)).bind fun b15 =>
  (gd (b15 == true) (state_each_api_Target_state_equal_api_Target e7.Targets e8.Targets)).bind fun r16 =>
  (some (if b15 = true then r16 else false)).bind fun b17 =>
  (some (if b17 = true then e7.Event == e8.Event else false)).bind fun b18 =>
  (if (!b18) = true then
   some (.inr (.inl ()))
  else
   some (.inl (wrap64 (vt17_4 + (1 : Int)))))
 else
  some (.inr (.inr ())))
/-- slices.EqualFunc[[]cardgame/api.Item,[]cardgame/api.Item,cardgame/api.Item,cardgame/api.Item] -/
def slices_EqualFunc_api_Item_api_Item_api_Item_api_Item_state_sameItem (a0 : List (SItem)) (a1 : List (SItem)) : Option (Bool) :=
 (if ((a0.length : Int) != (a1.length : Int)) = true then
  some false
 else
  (iter (fun (v : Int) => slices_EqualFunc_api_Item_api_Item_api_Item_api_Item_state_sameItem_B5 a0 a1 v) FU (0 : Int)).bind (Sum.elim (fun o0 => some false) (fun o1 => slices_EqualFunc_api_Item_api_Item_api_Item_api_Item_state_sameItem_J2)))
def slices_EqualFunc_api_Item_api_Item_api_Item_api_Item_state_sameItem_C (a0 : List (SItem)) (a1 : List (SItem)) (r : Bool) : Prop := PCall Tryz.prog I0 78 [vL encSItem a0, vL encSItem a1, .c (.fn 46)] (· = vB r)
theorem slices_EqualFunc_api_Item_api_Item_api_Item_api_Item_state_sameItem_ok {a0 : List (SItem)} {a1 : List (SItem)} {r : Bool} (h : slices_EqualFunc_api_Item_api_Item_api_Item_api_Item_state_sameItem a0 a1 = some r) : slices_EqualFunc_api_Item_api_Item_api_Item_api_Item_state_sameItem_C a0 a1 r := by
 refine PCall.body I0_stable (by kernel_rfl) Tryz.func78 rfl Tryz.ntmps78 (rs := [.tmp 6]) rfl rfl ?_
 intro w0 av old gv
 unfold slices_EqualFunc_api_Item_api_Item_api_Item_api_Item_state_sameItem at h
 refine Rg [.a] (sl 32 [(0, vL encSItem a0), (1, vL encSItem a1), (2, .c (.fn 46))] []) (aN) ?_
 refine Holds.seq ?_
 refine Rg [.a, .a, .a, .a, .a] (sl 32 [(0, vL encSItem a0), (1, vL encSItem a1), (2, .c (.fn 46)), (14, vB ((a0.length : Int) != (a1.length : Int)))] []) (aN) ?_
 refine iB h (fun b1 h => ?_) (fun b1 h => ?_)
 · refine Rg [.a] (sl 32 [(6, vB false)] []) (aN) ?_
   refine Holds.ret ?_
   refine Tr ?_
   exact bQ (vB false) (congrArg vB (sI h))
 · refine Holds.skip ?_
   refine Tn ?_
   refine Sj (X := Unit) (fun v => (sl 32 [] [])) (fun v => slices_EqualFunc_api_Item_api_Item_api_Item_api_Item_state_sameItem_J2 = some r) ?_ ?_
   · refine Rg [.a, .a, .a] (sl 32 [(1, vL encSItem a1), (2, .c (.fn 46)), (15, vL encSItem a0), (16, vI (a0.length : Int)), (17, vI (0 : Int))] []) (aN) ?_
     refine Holds.block ?_
     obtain ⟨oB5, hiB5, h⟩ := bS h
     refine It (fun (v : Int) => (sl 32 [(1, vL encSItem a1), (2, .c (.fn 46)), (15, vL encSItem a0), (16, vI (a0.length : Int)), (17, vI v)] [])) hiB5 (wT) ?_
     rintro vt17_4 zB5 hzB5 hoB5
     replace hzB5 : slices_EqualFunc_api_Item_api_Item_api_Item_api_Item_state_sameItem_B5 a0 a1 vt17_4 = some zB5 := hzB5
     unfold slices_EqualFunc_api_Item_api_Item_api_Item_api_Item_state_sameItem_B5 at hzB5
     refine Rg [.a] (sl 32 [(1, vL encSItem a1), (2, .c (.fn 46)), (15, vL encSItem a0), (16, vI (a0.length : Int)), (17, vI vt17_4), (18, vB (decide (vt17_4 < (a0.length : Int))))] []) (aN) ?_
     refine Holds.seq ?_
     refine iB hzB5 (fun b6 hzB5 => ?_) (fun b6 hzB5 => ?_)
     · refine Holds.skip ?_
       refine Tn ?_
       refine Holds.seq ?_
       refine Holds.block ?_
       obtain ⟨e7, he7, hzB5⟩ := bS hzB5
       refine Rg [.a, .a, (.v (vA encSItem e7)), .a, .a, .a] (sl 32 [(1, vL encSItem a1), (2, .c (.fn 46)), (7, vI vt17_4), (8, vP [8] (0)), (15, vL encSItem a0), (16, vI (a0.length : Int)), (17, vI vt17_4)] [bx [8] (encSItem e7)]) (aC (idx_b he7) <| aC (eld he7 lenSItem 0 94 true (vA encSItem e7)) <| aC (Eq.refl (vA encSItem e7)) <| aN) ?_
       obtain ⟨e8, he8, hzB5⟩ := bS hzB5
       refine Rg [.a, .a, .a, (.v (vA encSItem e8)), .a, .a] (sl 32 [(1, vL encSItem a1), (2, .c (.fn 46)), (8, vP [8] (0)), (9, vP [9] (0)), (15, vL encSItem a0), (16, vI (a0.length : Int)), (17, vI vt17_4)] [bx [9] (encSItem e8), bx [8] (encSItem e7)]) (aC (idx_b he8) <| aC (eld he8 lenSItem 0 94 true (vA encSItem e8)) <| aC (Eq.refl (vA encSItem e8)) <| aN) ?_
       refine Holds.seq ?_
       refine Holds.region ?_
       refine Rp 3 [.a, .a, .a] (sl 32 [(1, vL encSItem a1), (2, .c (.fn 46)), (8, vP [8] (0)), (9, vP [9] (0)), (15, vL encSItem a0), (16, vI (a0.length : Int)), (17, vI vt17_4), (26, .c (.fn 46)), (27, vA encSItem e7), (28, vA encSItem e8)] [bx [9] (encSItem e8), bx [8] (encSItem e7)]) (aN) ?_
       refine Run.inl rfl rfl (Esc.inline (s := True ∧ (True ∧ True)) (vs := [vA encSItem e7, vA encSItem e8]) (cs := []) 29 rfl rfl rfl (by kernel_rfl) ⟨trivial, ⟨trivial, trivial⟩⟩ (by kernel_rfl) (by kernel_rfl) Tryz.func46 rfl Tryz.ntmps46 (rs := [.tmp 4]) rfl ?_)
       intro w08 av8 old8 gv8
       refine At (sg 66 [(0, vA encSItem e7), (1, vA encSItem e8)] [bx [9] (encSItem e8), bx [8] (encSItem e7)] 32 [(1, vL encSItem a1), (2, .c (.fn 46)), (8, vP [8] (0)), (9, vP [9] (0)), (15, vL encSItem a0), (16, vI (a0.length : Int)), (17, vI vt17_4), (26, .c (.fn 46)), (27, vA encSItem e7), (28, vA encSItem e8)] [29]) ?_
       refine Rg [.a, .a, .a] (sg 66 [(2, vP [2, 29] (0)), (3, vP [3, 29] (0))] [bx [3, 29] (encSItem e8), bx [2, 29] (encSItem e7), bx [9] (encSItem e8), bx [8] (encSItem e7)] 32 [(1, vL encSItem a1), (2, .c (.fn 46)), (8, vP [8] (0)), (9, vP [9] (0)), (15, vL encSItem a0), (16, vI (a0.length : Int)), (17, vI vt17_4), (26, .c (.fn 46)), (27, vA encSItem e7), (28, vA encSItem e8)] [29]) (aN) ?_
       obtain ⟨b9, hb9, hzB5⟩ := bS hzB5
       obtain ⟨b10, hb10, hzB5⟩ := bS hzB5
       obtain ⟨b11, hb11, hzB5⟩ := bS hzB5
       obtain ⟨b12, hb12, hzB5⟩ := bS hzB5
       obtain ⟨b13, hb13, hzB5⟩ := bS hzB5
       obtain ⟨r14, hr14, hzB5⟩ := bS hzB5
       obtain ⟨b15, hb15, hzB5⟩ := bS hzB5
       obtain ⟨r16, hr16, hzB5⟩ := bS hzB5
       obtain ⟨b17, hb17, hzB5⟩ := bS hzB5
       obtain ⟨b18, hb18, hzB5⟩ := bS hzB5
       refine Rg [.a, .a, .a, .a, .a, .a, .a, .a, .a, .a, .a, (.v (vB b9)), .a, .a, .a, .a, .a, .a, (.v (vB b10)), .a, .a, .a, .a, .a, .a, (.v (vB b11)), .a, .a, .a, .a, .a, .a, (.v (vB b12)), .a, .a, .a, .a, .a, .a, (.v (vB b13)), .a, .a, .a, .a, .a, (.c (vB r14)), (.v (vB b15)), .a, .a, .a, .a, .a, (.c (vB r16)), (.v (vB b17)), .a, .a, .a, .a, .a, (.v (vB (e7.Event == e8.Event))), (.v (vB b18)), .a] (sg 66 [(4, vB b18)] [bx [9] (encSItem e8), bx [8] (encSItem e7)] 32 [(1, vL encSItem a1), (2, .c (.fn 46)), (8, vP [8] (0)), (9, vP [9] (0)), (15, vL encSItem a0), (16, vI (a0.length : Int)), (17, vI vt17_4), (26, .c (.fn 46)), (27, vA encSItem e7), (28, vA encSItem e8)] [29]) (aG ((e7.Id == e8.Id) == true) <| aG ((e7.Id == e8.Id) == true) <| aH ((e7.Id == e8.Id) == true) <| aT (e7.Id == e8.Id) <| aB hb9 <| aG (b9 == true) <| aG (b9 == true) <| aH (b9 == true) <| aT b9 <| aB hb10 <| aG (b10 == true) <| aG (b10 == true) <| aH (b10 == true) <| aT b10 <| aB hb11 <| aG (b11 == true) <| aG (b11 == true) <| aH (b11 == true) <| aT b11 <| aB hb12 <| aG (b12 == true) <| aG (b12 == true) <| aC (fun hg : (b12 == true) = true => aC (gi (b12 == true)) <| aC (gi (b12 == true)) <| aC isb4 <| aN) <| aT b12 <| aB hb13 <| aG (b13 == true) <| aG (b13 == true) <| aC (c2 hr14 state_sameAbility_ok) <| aT b13 <| aB hb15 <| aG (b15 == true) <| aG (b15 == true) <| aC (c2 hr16 state_each_api_Target_state_equal_api_Target_ok) <| aT b15 <| aB hb17 <| aG (b17 == true) <| aG (b17 == true) <| aC (fun hg : (b17 == true) = true => aC (gi (b17 == true)) <| aC (gi (b17 == true)) <| aC (congrArg (fun z => V.c (.bool (z))) (eqT79 e7.Event e8.Event)) <| aN) <| aT b17 <| aB hb18 <| aN) ?_
       refine Holds.ret ?_
       refine inQ.ret (v := vB b18) (by kernel_rfl) ?_
       refine Rw [.a] (sl 32 [(1, vL encSItem a1), (2, .c (.fn 46)), (8, vP [8] (0)), (9, vP [9] (0)), (15, vL encSItem a0), (16, vI (a0.length : Int)), (17, vI vt17_4), (26, .c (.fn 46)), (27, vA encSItem e7), (28, vA encSItem e8), (29, vB b18), (30, vB (!b18))] [bx [9] (encSItem e8), bx [8] (encSItem e7)]) (aN) ?_
       refine Tn ?_
       refine iB hzB5 (fun b19 hzB5 => ?_) (fun b19 hzB5 => ?_)
       · refine Rg [.a] (sl 32 [(6, vB false)] []) (aN) ?_
         refine Holds.ret ?_
         refine blockQ.ret ?_
         refine Tr ?_
         have hoB5_ := hoB5 _ (sI hzB5).symm
         subst hoB5_
         replace h := sumL h
         refine Tr ?_
         refine blockQ.ret ?_
         refine Tr ?_
         exact bQ (vB false) (congrArg vB (sI h))
       · refine Holds.skip ?_
         refine blockQ.normal ?_
         refine Tn ?_
         refine Re [.a, .a] (sl 32 [(1, vL encSItem a1), (2, .c (.fn 46)), (8, vP [8] (0)), (9, vP [9] (0)), (15, vL encSItem a0), (16, vI (a0.length : Int)), (17, vI (wrap64 (vt17_4 + (1 : Int)))), (26, .c (.fn 46)), (27, vA encSItem e7), (28, vA encSItem e8), (29, vB b18), (30, vB (!b18)), (31, vI (wrap64 (vt17_4 + (1 : Int))))] [bx [9] (encSItem e8), bx [8] (encSItem e7)]) (aN) ?_
         refine Tn ⟨(wrap64 (vt17_4 + (1 : Int))), (sI hzB5).symm, wT⟩
     · refine Holds.exit ?_
       refine thenQ.exit ?_
       have hoB5_ := hoB5 _ (sI hzB5).symm
       subst hoB5_
       replace h := sumR h
       refine thenQ.exit ?_
       refine blockQ.out ?_
       refine Tn ⟨(), h, wT⟩
   · rintro _ hJ2
     replace hJ2 : slices_EqualFunc_api_Item_api_Item_api_Item_api_Item_state_sameItem_J2 = some r := hJ2
     unfold slices_EqualFunc_api_Item_api_Item_api_Item_api_Item_state_sameItem_J2 at hJ2
     refine Rg [.a] (sl 32 [(6, vB true)] []) (aN) ?_
     refine Holds.ret ?_
     exact bQ (vB true) (congrArg vB (sI hJ2))
def slices_EqualFunc_api_Waiting_api_Waiting_api_Waiting_api_Waiting_state_sameWaiting_J2  : Option (Bool) :=
 some true
def slices_EqualFunc_api_Waiting_api_Waiting_api_Waiting_api_Waiting_state_sameWaiting_B5 (a0 : List (SWaiting)) (a1 : List (SWaiting)) (vt17_4 : Int) : Option ((Int) ⊕ (Unit ⊕ Unit)) :=
 (if (decide (vt17_4 < (a0.length : Int))) = true then
  (idx a0 vt17_4).bind fun e7 =>
  (idx a1 vt17_4).bind fun e8 =>
  (some (if (e7.Source == e8.Source) = true then e7.Control == e8.Control else false)).bind fun b9 =>
  (gd (b9 == true) (state_sameAbility e7.Ability e8.Ability)).bind fun r10 =>
  (some (if b9 = true then r10 else false)).bind fun b11 =>
  (some (if b11 = true then e7.Event == e8.Event else false)).bind fun b12 =>
  (if (!b12) = true then
   some (.inr (.inl ()))
  else
   some (.inl (wrap64 (vt17_4 + (1 : Int)))))
 else
  some (.inr (.inr ())))
/-- slices.EqualFunc[[]cardgame/api.Waiting,[]cardgame/api.Waiting,cardgame/api.Waiting,cardgame/api.Waiting] -/
def slices_EqualFunc_api_Waiting_api_Waiting_api_Waiting_api_Waiting_state_sameWaiting (a0 : List (SWaiting)) (a1 : List (SWaiting)) : Option (Bool) :=
 (if ((a0.length : Int) != (a1.length : Int)) = true then
  some false
 else
  (iter (fun (v : Int) => slices_EqualFunc_api_Waiting_api_Waiting_api_Waiting_api_Waiting_state_sameWaiting_B5 a0 a1 v) FU (0 : Int)).bind (Sum.elim (fun o0 => some false) (fun o1 => slices_EqualFunc_api_Waiting_api_Waiting_api_Waiting_api_Waiting_state_sameWaiting_J2)))
def slices_EqualFunc_api_Waiting_api_Waiting_api_Waiting_api_Waiting_state_sameWaiting_C (a0 : List (SWaiting)) (a1 : List (SWaiting)) (r : Bool) : Prop := PCall Tryz.prog I0 81 [vL encSWaiting a0, vL encSWaiting a1, .c (.fn 48)] (· = vB r)
theorem slices_EqualFunc_api_Waiting_api_Waiting_api_Waiting_api_Waiting_state_sameWaiting_ok {a0 : List (SWaiting)} {a1 : List (SWaiting)} {r : Bool} (h : slices_EqualFunc_api_Waiting_api_Waiting_api_Waiting_api_Waiting_state_sameWaiting a0 a1 = some r) : slices_EqualFunc_api_Waiting_api_Waiting_api_Waiting_api_Waiting_state_sameWaiting_C a0 a1 r := by
 refine PCall.body I0_stable (by kernel_rfl) Tryz.func81 rfl Tryz.ntmps81 (rs := [.tmp 6]) rfl rfl ?_
 intro w0 av old gv
 unfold slices_EqualFunc_api_Waiting_api_Waiting_api_Waiting_api_Waiting_state_sameWaiting at h
 refine Rg [.a] (sl 32 [(0, vL encSWaiting a0), (1, vL encSWaiting a1), (2, .c (.fn 48))] []) (aN) ?_
 refine Holds.seq ?_
 refine Rg [.a, .a, .a, .a, .a] (sl 32 [(0, vL encSWaiting a0), (1, vL encSWaiting a1), (2, .c (.fn 48)), (14, vB ((a0.length : Int) != (a1.length : Int)))] []) (aN) ?_
 refine iB h (fun b1 h => ?_) (fun b1 h => ?_)
 · refine Rg [.a] (sl 32 [(6, vB false)] []) (aN) ?_
   refine Holds.ret ?_
   refine Tr ?_
   exact bQ (vB false) (congrArg vB (sI h))
 · refine Holds.skip ?_
   refine Tn ?_
   refine Sj (X := Unit) (fun v => (sl 32 [] [])) (fun v => slices_EqualFunc_api_Waiting_api_Waiting_api_Waiting_api_Waiting_state_sameWaiting_J2 = some r) ?_ ?_
   · refine Rg [.a, .a, .a] (sl 32 [(1, vL encSWaiting a1), (2, .c (.fn 48)), (15, vL encSWaiting a0), (16, vI (a0.length : Int)), (17, vI (0 : Int))] []) (aN) ?_
     refine Holds.block ?_
     obtain ⟨oB5, hiB5, h⟩ := bS h
     refine It (fun (v : Int) => (sl 32 [(1, vL encSWaiting a1), (2, .c (.fn 48)), (15, vL encSWaiting a0), (16, vI (a0.length : Int)), (17, vI v)] [])) hiB5 (wT) ?_
     rintro vt17_4 zB5 hzB5 hoB5
     replace hzB5 : slices_EqualFunc_api_Waiting_api_Waiting_api_Waiting_api_Waiting_state_sameWaiting_B5 a0 a1 vt17_4 = some zB5 := hzB5
     unfold slices_EqualFunc_api_Waiting_api_Waiting_api_Waiting_api_Waiting_state_sameWaiting_B5 at hzB5
     refine Rg [.a] (sl 32 [(1, vL encSWaiting a1), (2, .c (.fn 48)), (15, vL encSWaiting a0), (16, vI (a0.length : Int)), (17, vI vt17_4), (18, vB (decide (vt17_4 < (a0.length : Int))))] []) (aN) ?_
     refine Holds.seq ?_
     refine iB hzB5 (fun b6 hzB5 => ?_) (fun b6 hzB5 => ?_)
     · refine Holds.skip ?_
       refine Tn ?_
       refine Holds.seq ?_
       refine Holds.block ?_
       obtain ⟨e7, he7, hzB5⟩ := bS hzB5
       refine Rg [.a, .a, (.v (vA encSWaiting e7)), .a, .a, .a] (sl 32 [(1, vL encSWaiting a1), (2, .c (.fn 48)), (7, vI vt17_4), (8, vP [8] (0)), (15, vL encSWaiting a0), (16, vI (a0.length : Int)), (17, vI vt17_4)] [bx [8] (encSWaiting e7)]) (aC (idx_b he7) <| aC (eld he7 lenSWaiting 0 89 true (vA encSWaiting e7)) <| aC (Eq.refl (vA encSWaiting e7)) <| aN) ?_
       obtain ⟨e8, he8, hzB5⟩ := bS hzB5
       refine Rg [.a, .a, .a, (.v (vA encSWaiting e8)), .a, .a] (sl 32 [(1, vL encSWaiting a1), (2, .c (.fn 48)), (8, vP [8] (0)), (9, vP [9] (0)), (15, vL encSWaiting a0), (16, vI (a0.length : Int)), (17, vI vt17_4)] [bx [9] (encSWaiting e8), bx [8] (encSWaiting e7)]) (aC (idx_b he8) <| aC (eld he8 lenSWaiting 0 89 true (vA encSWaiting e8)) <| aC (Eq.refl (vA encSWaiting e8)) <| aN) ?_
       refine Holds.seq ?_
       refine Holds.region ?_
       refine Rp 3 [.a, .a, .a] (sl 32 [(1, vL encSWaiting a1), (2, .c (.fn 48)), (8, vP [8] (0)), (9, vP [9] (0)), (15, vL encSWaiting a0), (16, vI (a0.length : Int)), (17, vI vt17_4), (26, .c (.fn 48)), (27, vA encSWaiting e7), (28, vA encSWaiting e8)] [bx [9] (encSWaiting e8), bx [8] (encSWaiting e7)]) (aN) ?_
       refine Run.inl rfl rfl (Esc.inline (s := True ∧ (True ∧ True)) (vs := [vA encSWaiting e7, vA encSWaiting e8]) (cs := []) 29 rfl rfl rfl (by kernel_rfl) ⟨trivial, ⟨trivial, trivial⟩⟩ (by kernel_rfl) (by kernel_rfl) Tryz.func48 rfl Tryz.ntmps48 (rs := [.tmp 4]) rfl ?_)
       intro w08 av8 old8 gv8
       refine At (sg 31 [(0, vA encSWaiting e7), (1, vA encSWaiting e8)] [bx [9] (encSWaiting e8), bx [8] (encSWaiting e7)] 32 [(1, vL encSWaiting a1), (2, .c (.fn 48)), (8, vP [8] (0)), (9, vP [9] (0)), (15, vL encSWaiting a0), (16, vI (a0.length : Int)), (17, vI vt17_4), (26, .c (.fn 48)), (27, vA encSWaiting e7), (28, vA encSWaiting e8)] [29]) ?_
       refine Rg [.a, .a, .a] (sg 31 [(2, vP [2, 29] (0)), (3, vP [3, 29] (0))] [bx [3, 29] (encSWaiting e8), bx [2, 29] (encSWaiting e7), bx [9] (encSWaiting e8), bx [8] (encSWaiting e7)] 32 [(1, vL encSWaiting a1), (2, .c (.fn 48)), (8, vP [8] (0)), (9, vP [9] (0)), (15, vL encSWaiting a0), (16, vI (a0.length : Int)), (17, vI vt17_4), (26, .c (.fn 48)), (27, vA encSWaiting e7), (28, vA encSWaiting e8)] [29]) (aN) ?_
       obtain ⟨b9, hb9, hzB5⟩ := bS hzB5
       obtain ⟨r10, hr10, hzB5⟩ := bS hzB5
       obtain ⟨b11, hb11, hzB5⟩ := bS hzB5
       obtain ⟨b12, hb12, hzB5⟩ := bS hzB5
       refine Rg [.a, .a, .a, .a, .a, .a, .a, .a, .a, .a, .a, (.v (vB b9)), .a, .a, .a, .a, .a, (.c (vB r10)), (.v (vB b11)), .a, .a, .a, .a, .a, (.v (vB (e7.Event == e8.Event))), (.v (vB b12)), .a] (sg 31 [(4, vB b12)] [bx [9] (encSWaiting e8), bx [8] (encSWaiting e7)] 32 [(1, vL encSWaiting a1), (2, .c (.fn 48)), (8, vP [8] (0)), (9, vP [9] (0)), (15, vL encSWaiting a0), (16, vI (a0.length : Int)), (17, vI vt17_4), (26, .c (.fn 48)), (27, vA encSWaiting e7), (28, vA encSWaiting e8)] [29]) (aG ((e7.Source == e8.Source) == true) <| aG ((e7.Source == e8.Source) == true) <| aH ((e7.Source == e8.Source) == true) <| aT (e7.Source == e8.Source) <| aB hb9 <| aG (b9 == true) <| aG (b9 == true) <| aC (c2 hr10 state_sameAbility_ok) <| aT b9 <| aB hb11 <| aG (b11 == true) <| aG (b11 == true) <| aC (fun hg : (b11 == true) = true => aC (gi (b11 == true)) <| aC (gi (b11 == true)) <| aC (congrArg (fun z => V.c (.bool (z))) (eqT79 e7.Event e8.Event)) <| aN) <| aT b11 <| aB hb12 <| aN) ?_
       refine Holds.ret ?_
       refine inQ.ret (v := vB b12) (by kernel_rfl) ?_
       refine Rw [.a] (sl 32 [(1, vL encSWaiting a1), (2, .c (.fn 48)), (8, vP [8] (0)), (9, vP [9] (0)), (15, vL encSWaiting a0), (16, vI (a0.length : Int)), (17, vI vt17_4), (26, .c (.fn 48)), (27, vA encSWaiting e7), (28, vA encSWaiting e8), (29, vB b12), (30, vB (!b12))] [bx [9] (encSWaiting e8), bx [8] (encSWaiting e7)]) (aN) ?_
       refine Tn ?_
       refine iB hzB5 (fun b13 hzB5 => ?_) (fun b13 hzB5 => ?_)
       · refine Rg [.a] (sl 32 [(6, vB false)] []) (aN) ?_
         refine Holds.ret ?_
         refine blockQ.ret ?_
         refine Tr ?_
         have hoB5_ := hoB5 _ (sI hzB5).symm
         subst hoB5_
         replace h := sumL h
         refine Tr ?_
         refine blockQ.ret ?_
         refine Tr ?_
         exact bQ (vB false) (congrArg vB (sI h))
       · refine Holds.skip ?_
         refine blockQ.normal ?_
         refine Tn ?_
         refine Re [.a, .a] (sl 32 [(1, vL encSWaiting a1), (2, .c (.fn 48)), (8, vP [8] (0)), (9, vP [9] (0)), (15, vL encSWaiting a0), (16, vI (a0.length : Int)), (17, vI (wrap64 (vt17_4 + (1 : Int)))), (26, .c (.fn 48)), (27, vA encSWaiting e7), (28, vA encSWaiting e8), (29, vB b12), (30, vB (!b12)), (31, vI (wrap64 (vt17_4 + (1 : Int))))] [bx [9] (encSWaiting e8), bx [8] (encSWaiting e7)]) (aN) ?_
         refine Tn ⟨(wrap64 (vt17_4 + (1 : Int))), (sI hzB5).symm, wT⟩
     · refine Holds.exit ?_
       refine thenQ.exit ?_
       have hoB5_ := hoB5 _ (sI hzB5).symm
       subst hoB5_
       replace h := sumR h
       refine thenQ.exit ?_
       refine blockQ.out ?_
       refine Tn ⟨(), h, wT⟩
   · rintro _ hJ2
     replace hJ2 : slices_EqualFunc_api_Waiting_api_Waiting_api_Waiting_api_Waiting_state_sameWaiting_J2 = some r := hJ2
     unfold slices_EqualFunc_api_Waiting_api_Waiting_api_Waiting_api_Waiting_state_sameWaiting_J2 at hJ2
     refine Rg [.a] (sl 32 [(6, vB true)] []) (aN) ?_
     refine Holds.ret ?_
     exact bQ (vB true) (congrArg vB (sI hJ2))
end Go.PL
