/- Functions of the program, as partial functions in Lean, with proofs. -/
import Derived.Test.YtipchejgnmnffaaGreatDoorPlStB
import Derived.Test.YtipchejgnmnffaaGreatDoorPlStF1
import Derived.Test.YtipchejgnmnffaaGreatDoorPlStF11
namespace Go.PL
open Go Go.RowKit Go.Proofs
set_option maxRecDepth 100000
set_option linter.all false
set_option maxHeartbeats 1000000
attribute [local irreducible] Holds thenQ blockQ
/-- cardgame/state.each[cardgame/api.Item] -/
def state_each_api_Item_state_sameItem (a0 : List (SItem)) (a1 : List (SItem)) : Option (Bool) :=
 (slices_EqualFunc_api_Item_api_Item_api_Item_api_Item_state_sameItem a0 a1).bind fun r1 =>
 some r1
def state_each_api_Item_state_sameItem_C (a0 : List (SItem)) (a1 : List (SItem)) (r : Bool) : Prop := PCall Tryz.prog I0 45 [vL encSItem a0, vL encSItem a1, .c (.fn 46)] (· = vB r)
theorem state_each_api_Item_state_sameItem_ok {a0 : List (SItem)} {a1 : List (SItem)} {r : Bool} (h : state_each_api_Item_state_sameItem a0 a1 = some r) : state_each_api_Item_state_sameItem_C a0 a1 r := by
 refine PCall.body I0_stable (by kernel_rfl) Tryz.func45 rfl Tryz.ntmps45 (rs := [.tmp 6]) rfl rfl ?_
 intro w0 av old gv
 unfold state_each_api_Item_state_sameItem at h
 refine Rg [.a] (sl 11 [(0, vL encSItem a0), (1, vL encSItem a1), (2, .c (.fn 46))] []) (aN) ?_
 obtain ⟨r1, hr1, h⟩ := bS h
 refine Rg [.a, .a, .a, (.c (vB r1)), .a] (sl 11 [(6, vB r1)] []) (aC (slices_EqualFunc_api_Item_api_Item_api_Item_api_Item_state_sameItem_ok hr1) <| aN) ?_
 refine Holds.ret ?_
 exact bQ (vB r1) (congrArg vB (sI h))
/-- cardgame/state.each[cardgame/api.Waiting] -/
def state_each_api_Waiting_state_sameWaiting (a0 : List (SWaiting)) (a1 : List (SWaiting)) : Option (Bool) :=
 (slices_EqualFunc_api_Waiting_api_Waiting_api_Waiting_api_Waiting_state_sameWaiting a0 a1).bind fun r1 =>
 some r1
def state_each_api_Waiting_state_sameWaiting_C (a0 : List (SWaiting)) (a1 : List (SWaiting)) (r : Bool) : Prop := PCall Tryz.prog I0 47 [vL encSWaiting a0, vL encSWaiting a1, .c (.fn 48)] (· = vB r)
theorem state_each_api_Waiting_state_sameWaiting_ok {a0 : List (SWaiting)} {a1 : List (SWaiting)} {r : Bool} (h : state_each_api_Waiting_state_sameWaiting a0 a1 = some r) : state_each_api_Waiting_state_sameWaiting_C a0 a1 r := by
 refine PCall.body I0_stable (by kernel_rfl) Tryz.func47 rfl Tryz.ntmps47 (rs := [.tmp 6]) rfl rfl ?_
 intro w0 av old gv
 unfold state_each_api_Waiting_state_sameWaiting at h
 refine Rg [.a] (sl 11 [(0, vL encSWaiting a0), (1, vL encSWaiting a1), (2, .c (.fn 48))] []) (aN) ?_
 obtain ⟨r1, hr1, h⟩ := bS h
 refine Rg [.a, .a, .a, (.c (vB r1)), .a] (sl 11 [(6, vB r1)] []) (aC (slices_EqualFunc_api_Waiting_api_Waiting_api_Waiting_api_Waiting_state_sameWaiting_ok hr1) <| aN) ?_
 refine Holds.ret ?_
 exact bQ (vB r1) (congrArg vB (sI h))
end Go.PL
