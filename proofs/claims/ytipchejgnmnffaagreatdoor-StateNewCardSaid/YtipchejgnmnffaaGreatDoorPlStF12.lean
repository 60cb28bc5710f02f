/- Functions of the program, as partial functions in Lean, with proofs. -/
import Derived.Test.YtipchejgnmnffaaGreatDoorPlStB
import Derived.Test.YtipchejgnmnffaaGreatDoorPlStF1
import Derived.Test.YtipchejgnmnffaaGreatDoorPlStF11
namespace Go.PL
open Go Go.RowKit Go.Proofs
set_option maxRecDepth 100000
set_option linter.all false
set_option maxHeartbeats 1000000
attribute [local irreducible] Holds thenQ blockQ
/-- cardgame/state.each[cardgame/api.Item] -/
def state_each_api_Item_state_sameItem (a0 : List (SItem)) (a1 : List (SItem)) : Option (Bool) :=
 (slices_EqualFunc_api_Item_api_Item_api_Item_api_Item_state_sameItem a0 a1).bind fun r1 =>
 some r1
def state_each_api_Item_state_sameItem_C (a0 : List (SItem)) (a1 : List (SItem)) (r : Bool) : Prop := PCall Tryz.prog I0 45 [vL encSItem a0, vL encSItem a1, .c (.fn 46)] (· = vB r)
theorem state_each_api_Item_state_sameItem_ok {a0 : List (SItem)} {a1 : List (SItem)} {r : Bool} (h : state_each_api_Item_state_sameItem a0 a1 = some r) : state_each_api_Item_state_sameItem_C a0 a1 r := by
 refine PCall.body I0_stable (by kernel_rfl) Tryz.func45 rfl Tryz.ntmps45 (rs := [.tmp 6]) rfl rfl ?_
 intro w0 av old gv
 unfold state_each_api_Item_state_sameItem at h
 refine Rg [.a] (sl 11 [(0, vL encSItem a0), (1, vL encSItem a1), (2, .c (.fn 46))] []) (aN) ?_
 obtain ⟨r1, hr1, h⟩ := bS h
 refine Rg [.a, .a, .a, (.c (vB r1)), .a] (sl 11 [(6, vB r1)] []) (aC (slices_EqualFunc_api_Item_api_Item_api_Item_api_Item_state_sameItem_ok hr1) <| aN) ?_
 refine Holds.ret ?_
 exact bQ (vB r1) (congrArg vB (sI h))
/-- cardgame/state.each[cardgame/api.Waiting] -/
def state_each_api_Waiting_state_sameWaiting (a0 : List (SWaiting)) (a1 : List (SWaiting)) : Option (Bool) :=
 (slices_EqualFunc_api_Waiting_api_Waiting_api_Waiting_api_Waiting_state_sameWaiting a0 a1).bind fun r1 =>
 some r1
def state_each_api_Waiting_state_sameWaiting_C (a0 : List (SWaiting)) (a1 : List (SWaiting)) (r : Bool) : Prop := PCall Tryz.prog I0 47 [vL encSWaiting a0, vL encSWaiting a1, .c (.fn 48)] (· = vB r)
theorem state_each_api_Waiting_state_sameWaiting_ok {a0 : List (SWaiting)} {a1 : List (SWaiting)} {r : Bool} (h : state_each_api_Waiting_state_sameWaiting a0 a1 = some r) : state_each_api_Waiting_state_sameWaiting_C a0 a1 r := by
 refine PCall.body I0_stable (by kernel_rfl) Tryz.func47 rfl Tryz.ntmps47 (rs := [.tmp 6]) rfl rfl ?_
 intro w0 av old gv
 unfold state_each_api_Waiting_state_sameWaiting at h
 refine Rg [.a] (sl 11 [(0, vL encSWaiting a0), (1, vL encSWaiting a1), (2, .c (.fn 48))] []) (aN) ?_
 obtain ⟨r1, hr1, h⟩ := bS h
 refine Rg [.a, .a, .a, (.c (vB r1)), .a] (sl 11 [(6, vB r1)] []) (aC (slices_EqualFunc_api_Waiting_api_Waiting_api_Waiting_api_Waiting_state_sameWaiting_ok hr1) <| aN) ?_
 refine Holds.ret ?_
 exact bQ (vB r1) (congrArg vB (sI h))
/-- cardgame/cardgameref26.Same -/
def r26_Same (a0 : SState) (a1 : SState) : Option (Bool) :=
 (some (if (a0.Turn != a1.Turn) = true then true else a0.Active != a1.Active)).bind fun b1 =>
 (some (if b1 = true then true else a0.Step != a1.Step)).bind fun b2 =>
 (some (if b2 = true then true else a0.Begun != a1.Begun)).bind fun b3 =>
 (some (if b3 = true then true else a0.Priority != a1.Priority)).bind fun b4 =>
 (some (if b4 = true then true else a0.Passes != a1.Passes)).bind fun b5 =>
 (some (if b5 = true then true else a0.NextId != a1.NextId)).bind fun b6 =>
 (some (if b6 = true then true else a0.NextStamp != a1.NextStamp)).bind fun b7 =>
 (some (if b7 = true then true else a0.Seed != a1.Seed)).bind fun b8 =>
 (some (if b8 = true then true else a0.Over != a1.Over)).bind fun b9 =>
 (some (if b9 = true then true else a0.Winner != a1.Winner)).bind fun b10 =>
 (if b10 = true then
  some false
 else
  (r26_lists a0 a1).bind fun r12 =>
  (gd (r12 == true) (r03_Same a0.Battlefield a1.Battlefield)).bind fun r13 =>
  (some (if r12 = true then r13 else false)).bind fun b14 =>
  (gd (b14 == true) (r03_Same a0.Exile a1.Exile)).bind fun r15 =>
  (some (if b14 = true then r15 else false)).bind fun b16 =>
  (gd (b16 == true) (r03_Same a0.Extra a1.Extra)).bind fun r17 =>
  (some (if b16 = true then r17 else false)).bind fun b18 =>
  some b18)
def r26_Same_C (a0 : SState) (a1 : SState) (r : Bool) : Prop := PCall Tryz.prog I0 10 [vA encSState a0, vA encSState a1] (· = vB r)
theorem r26_Same_ok {a0 : SState} {a1 : SState} {r : Bool} (h : r26_Same a0 a1 = some r) : r26_Same_C a0 a1 r := by
 refine PCall.body I0_stable (by kernel_rfl) Tryz.func10 rfl Tryz.ntmps10 (rs := [.tmp 4]) rfl rfl ?_
 intro w0 av old gv
 unfold r26_Same at h
 refine Rg [.a, .a, .a] (sl 104 [(2, vP [2] (0)), (3, vP [3] (0))] [bx [3] (encSState a1), bx [2] (encSState a0)]) (aN) ?_
 refine Holds.seq ?_
 obtain ⟨b1, hb1, h⟩ := bS h
 obtain ⟨b2, hb2, h⟩ := bS h
 obtain ⟨b3, hb3, h⟩ := bS h
 obtain ⟨b4, hb4, h⟩ := bS h
 obtain ⟨b5, hb5, h⟩ := bS h
 obtain ⟨b6, hb6, h⟩ := bS h
 obtain ⟨b7, hb7, h⟩ := bS h
 obtain ⟨b8, hb8, h⟩ := bS h
 obtain ⟨b9, hb9, h⟩ := bS h
 obtain ⟨b10, hb10, h⟩ := bS h
 refine Rg [.a, .a, .a, .a, .a, .a, .a, .a, .a, .a, .a, (.v (vB b1)), .a, .a, .a, .a, .a, .a, (.v (vB b2)), .a, .a, .a, .a, .a, .a, (.v (vB b3)), .a, .a, .a, .a, .a, .a, (.v (vB b4)), .a, .a, .a, .a, .a, .a, (.v (vB b5)), .a, .a, .a, .a, .a, .a, (.v (vB b6)), .a, .a, .a, .a, .a, .a, (.v (vB b7)), .a, .a, .a, .a, .a, .a, (.v (vB b8)), .a, .a, .a, .a, .a, .a, (.v (vB b9)), .a, .a, .a, .a, .a, .a, (.v (vB b10))] (sl 104 [(2, vP [2] (0)), (3, vP [3] (0)), (79, vB b10)] [bx [3] (encSState a1), bx [2] (encSState a0)]) (aG ((a0.Turn != a1.Turn) == false) <| aG ((a0.Turn != a1.Turn) == false) <| aH ((a0.Turn != a1.Turn) == false) <| aF (a0.Turn != a1.Turn) <| aB hb1 <| aG (b1 == false) <| aG (b1 == false) <| aH (b1 == false) <| aF b1 <| aB hb2 <| aG (b2 == false) <| aG (b2 == false) <| aC (fun hg : (b2 == false) = true => aC (gi (b2 == false)) <| aC (gi (b2 == false)) <| aC isb4 <| aN) <| aF b2 <| aB hb3 <| aG (b3 == false) <| aG (b3 == false) <| aH (b3 == false) <| aF b3 <| aB hb4 <| aG (b4 == false) <| aG (b4 == false) <| aH (b4 == false) <| aF b4 <| aB hb5 <| aG (b5 == false) <| aG (b5 == false) <| aH (b5 == false) <| aF b5 <| aB hb6 <| aG (b6 == false) <| aG (b6 == false) <| aH (b6 == false) <| aF b6 <| aB hb7 <| aG (b7 == false) <| aG (b7 == false) <| aH (b7 == false) <| aF b7 <| aB hb8 <| aG (b8 == false) <| aG (b8 == false) <| aH (b8 == false) <| aF b8 <| aB hb9 <| aG (b9 == false) <| aG (b9 == false) <| aH (b9 == false) <| aF b9 <| aB hb10 <| aN) ?_
 refine iB h (fun b11 h => ?_) (fun b11 h => ?_)
 · refine Rg [.a] (sl 104 [(4, vB false)] []) (aN) ?_
   refine Holds.ret ?_
   refine Tr ?_
   exact bQ (vB false) (congrArg vB (sI h))
 · refine Holds.skip ?_
   refine Tn ?_
   obtain ⟨r12, hr12, h⟩ := bS h
   obtain ⟨r13, hr13, h⟩ := bS h
   obtain ⟨b14, hb14, h⟩ := bS h
   obtain ⟨r15, hr15, h⟩ := bS h
   obtain ⟨b16, hb16, h⟩ := bS h
   obtain ⟨r17, hr17, h⟩ := bS h
   obtain ⟨b18, hb18, h⟩ := bS h
   refine Rg [.a, .a, (.c (vB r12)), .a, .a, .a, .a, .a, (.c (vB r13)), (.v (vB b14)), .a, .a, .a, .a, .a, (.c (vB r15)), (.v (vB b16)), .a, .a, .a, .a, .a, (.c (vB r17)), (.v (vB b18)), .a] (sl 104 [(4, vB b18)] []) (aC (r26_lists_ok hr12) <| aG (r12 == true) <| aG (r12 == true) <| aC (c2 hr13 r03_Same_ok) <| aT r12 <| aB hb14 <| aG (b14 == true) <| aG (b14 == true) <| aC (c2 hr15 r03_Same_ok) <| aT b14 <| aB hb16 <| aG (b16 == true) <| aG (b16 == true) <| aC (c2 hr17 r03_Same_ok) <| aT b16 <| aB hb18 <| aN) ?_
   refine Holds.ret ?_
   exact bQ (vB b18) (congrArg vB (sI h))
end Go.PL
