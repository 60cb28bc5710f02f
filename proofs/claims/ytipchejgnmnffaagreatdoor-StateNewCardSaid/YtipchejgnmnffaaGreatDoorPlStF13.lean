/- Functions of the program, as partial functions in Lean, with proofs. -/
import Derived.Test.YtipchejgnmnffaaGreatDoorPlStB
import Derived.Test.YtipchejgnmnffaaGreatDoorPlStF1
import Derived.Test.YtipchejgnmnffaaGreatDoorPlStF12
import Derived.Test.YtipchejgnmnffaaGreatDoorPlStF4
import Derived.Test.YtipchejgnmnffaaGreatDoorPlStF7
import Derived.Test.YtipchejgnmnffaaGreatDoorPlStF9
namespace Go.PL
open Go Go.RowKit Go.Proofs
set_option maxRecDepth 100000
set_option linter.all false
set_option maxHeartbeats 1000000
attribute [local irreducible] Holds thenQ blockQ
/-- cardgame/state.Same -/
def state_Same (a0 : SState) (a1 : SState) : Option (Bool) :=
 (state_each_api_Player_state_samePlayer a0.Players a1.Players).bind fun r1 =>
 (gd ((!r1) == false) (state_each_api_Object_state_equal_api_Object a0.Objects a1.Objects)).bind fun r2 =>
 (some (if (!r1) = true then true else !r2)).bind fun b3 =>
 (gd (b3 == false) (slices_Equal_int_int a0.Battlefield a1.Battlefield)).bind fun r4 =>
 (some (if b3 = true then true else !r4)).bind fun b5 =>
 (gd (b5 == false) (slices_Equal_int_int a0.Exile a1.Exile)).bind fun r6 =>
 (some (if b5 = true then true else !r6)).bind fun b7 =>
 (gd (b7 == false) (slices_Equal_int_int a0.Extra a1.Extra)).bind fun r8 =>
 (some (if b7 = true then true else !r8)).bind fun b9 =>
 (if b9 = true then
  some false
 else
  (state_each_api_Item_state_sameItem a0.Stack a1.Stack).bind fun r11 =>
  (gd ((!r11) == false) (state_each_api_Waiting_state_sameWaiting a0.Waiting a1.Waiting)).bind fun r12 =>
  (some (if (!r11) = true then true else !r12)).bind fun b13 =>
  (gd (b13 == false) (state_each_api_Cont_state_sameCont a0.Conts a1.Conts)).bind fun r14 =>
  (some (if b13 = true then true else !r14)).bind fun b15 =>
  (if b15 = true then
   some false
  else
   (some (if (a0.Turn == a1.Turn) = true then a0.Active == a1.Active else false)).bind fun b17 =>
   (some (if b17 = true then a0.Step == a1.Step else false)).bind fun b18 =>
   (some (if b18 = true then a0.Begun == a1.Begun else false)).bind fun b19 =>
   (some (if b19 = true then a0.Priority == a1.Priority else false)).bind fun b20 =>
   (some (if b20 = true then a0.Passes == a1.Passes else false)).bind fun b21 =>
   (some (if b21 = true then a0.NextId == a1.NextId else false)).bind fun b22 =>
   (some (if b22 = true then a0.NextStamp == a1.NextStamp else false)).bind fun b23 =>
   (some (if b23 = true then a0.Seed == a1.Seed else false)).bind fun b24 =>
   (some (if b24 = true then a0.Over == a1.Over else false)).bind fun b25 =>
   (some (if b25 = true then a0.Winner == a1.Winner else false)).bind fun b26 =>
   some b26))
def state_Same_C (a0 : SState) (a1 : SState) (r : Bool) : Prop := PCall Tryz.prog I0 15 [vA encSState a0, vA encSState a1] (· = vB r)
theorem state_Same_ok {a0 : SState} {a1 : SState} {r : Bool} (h : state_Same a0 a1 = some r) : state_Same_C a0 a1 r := by
 refine PCall.body I0_stable (by kernel_rfl) Tryz.func15 rfl Tryz.ntmps15 (rs := [.tmp 4]) rfl rfl ?_
 intro w0 av old gv
 unfold state_Same at h
 refine Rg [.a, .a, .a] (sl 140 [(2, vP [2] (0)), (3, vP [3] (0))] [bx [3] (encSState a1), bx [2] (encSState a0)]) (aN) ?_
 refine Holds.seq ?_
 obtain ⟨r1, hr1, h⟩ := bS h
 obtain ⟨r2, hr2, h⟩ := bS h
 obtain ⟨b3, hb3, h⟩ := bS h
 obtain ⟨r4, hr4, h⟩ := bS h
 obtain ⟨b5, hb5, h⟩ := bS h
 obtain ⟨r6, hr6, h⟩ := bS h
 obtain ⟨b7, hb7, h⟩ := bS h
 obtain ⟨r8, hr8, h⟩ := bS h
 obtain ⟨b9, hb9, h⟩ := bS h
 refine Rg [.a, .a, .a, .a, (.c (vB r1)), .a, .a, .a, .a, .a, .a, (.c (vB r2)), .a, (.v (vB b3)), .a, .a, .a, .a, .a, (.c (vB r4)), .a, (.v (vB b5)), .a, .a, .a, .a, .a, (.c (vB r6)), .a, (.v (vB b7)), .a, .a, .a, .a, .a, (.c (vB r8)), .a, (.v (vB b9))] (sl 140 [(2, vP [2] (0)), (3, vP [3] (0)), (42, vB b9)] [bx [3] (encSState a1), bx [2] (encSState a0)]) (aC (state_each_api_Player_state_samePlayer_ok hr1) <| aG ((!r1) == false) <| aG ((!r1) == false) <| aC (c2 hr2 state_each_api_Object_state_equal_api_Object_ok) <| aG ((!r1) == false) <| aF (!r1) <| aB hb3 <| aG (b3 == false) <| aG (b3 == false) <| aC (c2 hr4 slices_Equal_int_int_ok) <| aG (b3 == false) <| aF b3 <| aB hb5 <| aG (b5 == false) <| aG (b5 == false) <| aC (c2 hr6 slices_Equal_int_int_ok) <| aG (b5 == false) <| aF b5 <| aB hb7 <| aG (b7 == false) <| aG (b7 == false) <| aC (c2 hr8 slices_Equal_int_int_ok) <| aG (b7 == false) <| aF b7 <| aB hb9 <| aN) ?_
 refine iB h (fun b10 h => ?_) (fun b10 h => ?_)
 · refine Rg [.a] (sl 140 [(4, vB false)] []) (aN) ?_
   refine Holds.ret ?_
   refine Tr ?_
   exact bQ (vB false) (congrArg vB (sI h))
 · refine Holds.skip ?_
   refine Tn ?_
   refine Holds.seq ?_
   obtain ⟨r11, hr11, h⟩ := bS h
   obtain ⟨r12, hr12, h⟩ := bS h
   obtain ⟨b13, hb13, h⟩ := bS h
   obtain ⟨r14, hr14, h⟩ := bS h
   obtain ⟨b15, hb15, h⟩ := bS h
   refine Rg [.a, .a, .a, .a, (.c (vB r11)), .a, .a, .a, .a, .a, .a, (.c (vB r12)), .a, (.v (vB b13)), .a, .a, .a, .a, .a, (.c (vB r14)), .a, (.v (vB b15))] (sl 140 [(2, vP [2] (0)), (3, vP [3] (0)), (64, vB b15)] [bx [3] (encSState a1), bx [2] (encSState a0)]) (aC (state_each_api_Item_state_sameItem_ok hr11) <| aG ((!r11) == false) <| aG ((!r11) == false) <| aC (c2 hr12 state_each_api_Waiting_state_sameWaiting_ok) <| aG ((!r11) == false) <| aF (!r11) <| aB hb13 <| aG (b13 == false) <| aG (b13 == false) <| aC (c2 hr14 state_each_api_Cont_state_sameCont_ok) <| aG (b13 == false) <| aF b13 <| aB hb15 <| aN) ?_
   refine iB h (fun b16 h => ?_) (fun b16 h => ?_)
   · refine Rg [.a] (sl 140 [(4, vB false)] []) (aN) ?_
     refine Holds.ret ?_
     refine Tr ?_
     exact bQ (vB false) (congrArg vB (sI h))
   · refine Holds.skip ?_
     refine Tn ?_
     obtain ⟨b17, hb17, h⟩ := bS h
     obtain ⟨b18, hb18, h⟩ := bS h
     obtain ⟨b19, hb19, h⟩ := bS h
     obtain ⟨b20, hb20, h⟩ := bS h
     obtain ⟨b21, hb21, h⟩ := bS h
     obtain ⟨b22, hb22, h⟩ := bS h
     obtain ⟨b23, hb23, h⟩ := bS h
     obtain ⟨b24, hb24, h⟩ := bS h
     obtain ⟨b25, hb25, h⟩ := bS h
     obtain ⟨b26, hb26, h⟩ := bS h
     refine Rg [.a, .a, .a, .a, .a, .a, .a, .a, .a, .a, .a, (.v (vB b17)), .a, .a, .a, .a, .a, .a, (.v (vB b18)), .a, .a, .a, .a, .a, .a, (.v (vB b19)), .a, .a, .a, .a, .a, .a, (.v (vB b20)), .a, .a, .a, .a, .a, .a, (.v (vB b21)), .a, .a, .a, .a, .a, .a, (.v (vB b22)), .a, .a, .a, .a, .a, .a, (.v (vB b23)), .a, .a, .a, .a, .a, .a, (.v (vB b24)), .a, .a, .a, .a, .a, .a, (.v (vB b25)), .a, .a, .a, .a, .a, .a, (.v (vB b26)), .a] (sl 140 [(4, vB b26)] []) (aG ((a0.Turn == a1.Turn) == true) <| aG ((a0.Turn == a1.Turn) == true) <| aH ((a0.Turn == a1.Turn) == true) <| aT (a0.Turn == a1.Turn) <| aB hb17 <| aG (b17 == true) <| aG (b17 == true) <| aH (b17 == true) <| aT b17 <| aB hb18 <| aG (b18 == true) <| aG (b18 == true) <| aC (fun hg : (b18 == true) = true => aC (gi (b18 == true)) <| aC (gi (b18 == true)) <| aC isb4 <| aN) <| aT b18 <| aB hb19 <| aG (b19 == true) <| aG (b19 == true) <| aH (b19 == true) <| aT b19 <| aB hb20 <| aG (b20 == true) <| aG (b20 == true) <| aH (b20 == true) <| aT b20 <| aB hb21 <| aG (b21 == true) <| aG (b21 == true) <| aH (b21 == true) <| aT b21 <| aB hb22 <| aG (b22 == true) <| aG (b22 == true) <| aH (b22 == true) <| aT b22 <| aB hb23 <| aG (b23 == true) <| aG (b23 == true) <| aH (b23 == true) <| aT b23 <| aB hb24 <| aG (b24 == true) <| aG (b24 == true) <| aH (b24 == true) <| aT b24 <| aB hb25 <| aG (b25 == true) <| aG (b25 == true) <| aH (b25 == true) <| aT b25 <| aB hb26 <| aN) ?_
     refine Holds.ret ?_
     exact bQ (vB b26) (congrArg vB (sI h))
end Go.PL
