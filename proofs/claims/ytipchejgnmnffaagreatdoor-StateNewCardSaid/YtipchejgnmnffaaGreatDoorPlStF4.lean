/- Functions of the program, as partial functions in Lean, with proofs. -/
import Derived.Test.YtipchejgnmnffaaGreatDoorPlStB
import Derived.Test.YtipchejgnmnffaaGreatDoorPlStF0
import Derived.Test.YtipchejgnmnffaaGreatDoorPlStF1
import Derived.Test.YtipchejgnmnffaaGreatDoorPlStF2
namespace Go.PL
open Go Go.RowKit Go.Proofs
set_option maxRecDepth 100000
set_option linter.all false
set_option maxHeartbeats 1000000
attribute [local irreducible] Holds thenQ blockQ
def state_players_J1 (a0 : SState) : Option (Bool) :=
 (state_in (a0.Players.length : Int) (2 : Int) (4 : Int)).bind fun r2 =>
 some r2
def state_players_B5 (a0 : SState) (vt8_4 : Int) : Option ((Int) ⊕ (Unit ⊕ Unit)) :=
 (if (decide (vt8_4 < (a0.Players.length : Int))) = true then
  (idx a0.Players vt8_4).bind fun e7 =>
  (state_in e7.Life (-1000000 : Int) (1000000 : Int)).bind fun r8 =>
  (gd ((!r8) == false) (state_in e7.Venom (0 : Int) (1000000 : Int))).bind fun r9 =>
  (some (if (!r8) = true then true else !r9)).bind fun b10 =>
  (gd (b10 == false) (state_in e7.Lands (0 : Int) (1000000 : Int))).bind fun r11 =>
  (some (if b10 = true then true else !r11)).bind fun b12 =>
  (gd (b12 == false) (mana_Whole e7.Pool)).bind fun r13 =>
  (some (if b12 = true then true else !r13)).bind fun b14 =>
  (if b14 = true then
   some (.inr (.inl ()))
  else
   some (.inl (wrap64 (vt8_4 + (1 : Int)))))
 else
  some (.inr (.inr ())))
/-- cardgame/state.players -/
def state_players (a0 : SState) : Option (Bool) :=
 (iter (fun (v : Int) => state_players_B5 a0 v) FU (0 : Int)).bind (Sum.elim (fun o0 => some false) (fun o1 => state_players_J1 a0))
def state_players_C (a0 : SState) (r : Bool) : Prop := PCall Tryz.prog I0 28 [vA encSState a0] (· = vB r)
theorem state_players_ok {a0 : SState} {r : Bool} (h : state_players a0 = some r) : state_players_C a0 r := by
 refine PCall.body I0_stable (by kernel_rfl) Tryz.func28 rfl Tryz.ntmps28 (rs := [.tmp 2]) rfl rfl ?_
 intro w0 av old gv
 unfold state_players at h
 refine Rg [.a, .a] (sl 39 [(1, vP [1] (0))] [bx [1] (encSState a0)]) (aN) ?_
 refine Sj (X := Unit) (fun v => (sl 39 [(1, vP [1] (0))] [bx [1] (encSState a0)])) (fun v => state_players_J1 a0 = some r) ?_ ?_
 · refine Rg [.a, .a, .a, .a] (sl 39 [(1, vP [1] (0)), (6, vL encSPlayer a0.Players), (7, vI (a0.Players.length : Int)), (8, vI (0 : Int))] [bx [1] (encSState a0)]) (aN) ?_
   refine Holds.block ?_
   obtain ⟨oB5, hiB5, h⟩ := bS h
   refine It (fun (v : Int) => (sl 39 [(1, vP [1] (0)), (6, vL encSPlayer a0.Players), (7, vI (a0.Players.length : Int)), (8, vI v)] [bx [1] (encSState a0)])) hiB5 (wT) ?_
   rintro vt8_4 zB5 hzB5 hoB5
   replace hzB5 : state_players_B5 a0 vt8_4 = some zB5 := hzB5
   unfold state_players_B5 at hzB5
   refine Rg [.a] (sl 39 [(1, vP [1] (0)), (6, vL encSPlayer a0.Players), (7, vI (a0.Players.length : Int)), (8, vI vt8_4), (9, vB (decide (vt8_4 < (a0.Players.length : Int))))] [bx [1] (encSState a0)]) (aN) ?_
   refine Holds.seq ?_
   refine iB hzB5 (fun b6 hzB5 => ?_) (fun b6 hzB5 => ?_)
   · refine Holds.skip ?_
     refine Tn ?_
     refine Holds.seq ?_
     refine Holds.block ?_
     obtain ⟨e7, he7, hzB5⟩ := bS hzB5
     refine Rg [.a, (.v (vA encSPlayer e7)), .a, .a] (sl 39 [(1, vP [1] (0)), (4, vP [4] (0)), (6, vL encSPlayer a0.Players), (7, vI (a0.Players.length : Int)), (8, vI vt8_4)] [bx [4] (encSPlayer e7), bx [1] (encSState a0)]) (aC (idx_b he7) <| aC (eld he7 lenSPlayer 0 14 true (vA encSPlayer e7)) <| aC (Eq.refl (vA encSPlayer e7)) <| aN) ?_
     obtain ⟨r8, hr8, hzB5⟩ := bS hzB5
     obtain ⟨r9, hr9, hzB5⟩ := bS hzB5
     obtain ⟨b10, hb10, hzB5⟩ := bS hzB5
     obtain ⟨r11, hr11, hzB5⟩ := bS hzB5
     obtain ⟨b12, hb12, hzB5⟩ := bS hzB5
     obtain ⟨r13, hr13, hzB5⟩ := bS hzB5
     obtain ⟨b14, hb14, hzB5⟩ := bS hzB5
     refine Rg [.a, .a, (.c (vB r8)), .a, .a, .a, .a, (.c (vB r9)), .a, (.v (vB b10)), .a, .a, .a, (.c (vB r11)), .a, (.v (vB b12)), .a, .a, .a, (.c (vB r13)), .a, (.v (vB b14))] (sl 39 [(1, vP [1] (0)), (6, vL encSPlayer a0.Players), (7, vI (a0.Players.length : Int)), (8, vI vt8_4), (33, vB b14)] [bx [1] (encSState a0)]) (aC (state_in_ok hr8) <| aG ((!r8) == false) <| aC (c1 hr9 state_in_ok) <| aG ((!r8) == false) <| aF (!r8) <| aB hb10 <| aG (b10 == false) <| aC (c1 hr11 state_in_ok) <| aG (b10 == false) <| aF b10 <| aB hb12 <| aG (b12 == false) <| aC (c1 hr13 mana_Whole_ok) <| aG (b12 == false) <| aF b12 <| aB hb14 <| aN) ?_
     refine iB hzB5 (fun b15 hzB5 => ?_) (fun b15 hzB5 => ?_)
     · refine Rg [.a] (sl 39 [(2, vB false)] []) (aN) ?_
       refine Holds.ret ?_
       refine blockQ.ret ?_
       refine Tr ?_
       have hoB5_ := hoB5 _ (sI hzB5).symm
       subst hoB5_
       replace h := sumL h
       refine Tr ?_
       refine blockQ.ret ?_
       refine Tr ?_
       exact bQ (vB false) (congrArg vB (sI h))
     · refine Holds.skip ?_
       refine blockQ.normal ?_
       refine Tn ?_
       refine Re [.a, .a] (sl 39 [(1, vP [1] (0)), (6, vL encSPlayer a0.Players), (7, vI (a0.Players.length : Int)), (8, vI (wrap64 (vt8_4 + (1 : Int)))), (33, vB b14), (34, vI (wrap64 (vt8_4 + (1 : Int))))] [bx [1] (encSState a0)]) (aN) ?_
       refine Tn ⟨(wrap64 (vt8_4 + (1 : Int))), (sI hzB5).symm, wT⟩
   · refine Holds.exit ?_
     refine thenQ.exit ?_
     have hoB5_ := hoB5 _ (sI hzB5).symm
     subst hoB5_
     replace h := sumR h
     refine thenQ.exit ?_
     refine blockQ.out ?_
     refine Tn ⟨(), h, wT⟩
 · rintro _ hJ1
   replace hJ1 : state_players_J1 a0 = some r := hJ1
   unfold state_players_J1 at hJ1
   obtain ⟨r2, hr2, hJ1⟩ := bS hJ1
   refine Rg [.a, .a, .a, (.c (vB r2)), .a] (sl 39 [(2, vB r2)] []) (aC (state_in_ok hr2) <| aN) ?_
   refine Holds.ret ?_
   exact bQ (vB r2) (congrArg vB (sI hJ1))
def state_numbers_J1 (a0 : SState) : Option (Bool) :=
 (state_in a0.Turn (0 : Int) (500 : Int)).bind fun r2 =>
 (gd ((!r2) == false) (state_in a0.Active (0 : Int) (wrap64 ((a0.Players.length : Int) - (1 : Int))))).bind fun r3 =>
 (some (if (!r2) = true then true else !r3)).bind fun b4 =>
 (gd (b4 == false) (state_in a0.Priority (0 : Int) (wrap64 ((a0.Players.length : Int) - (1 : Int))))).bind fun r5 =>
 (some (if b4 = true then true else !r5)).bind fun b6 =>
 (gd (b6 == false) (state_in a0.Step (0 : Int) (10 : Int))).bind fun r7 =>
 (some (if b6 = true then true else !r7)).bind fun b8 =>
 (gd (b8 == false) (state_in a0.Passes (0 : Int) (wrap64 ((wrap64 ((a0.Players.length : Int) - (1 : Int))) + (1 : Int))))).bind fun r9 =>
 (some (if b8 = true then true else !r9)).bind fun b10 =>
 (gd (b10 == false) (state_in a0.NextId (1 : Int) (1000000 : Int))).bind fun r11 =>
 (some (if b10 = true then true else !r11)).bind fun b12 =>
 (gd (b12 == false) (state_in a0.NextStamp (1 : Int) (1000000 : Int))).bind fun r13 =>
 (some (if b12 = true then true else !r13)).bind fun b14 =>
 (some (if b14 = true then true else decide ((500 : Int) < (a0.Extra.length : Int)))).bind fun b15 =>
 (if b15 = true then
  some false
 else
  (if (a0.Over == (1 : Int)) = true then
   (state_in a0.Winner (0 : Int) (wrap64 ((a0.Players.length : Int) - (1 : Int)))).bind fun r18 =>
   some r18
  else
   (state_in a0.Over (0 : Int) (2 : Int)).bind fun r19 =>
   (some (if r19 = true then a0.Winner == (-1 : Int) else false)).bind fun b20 =>
   some b20))
def state_numbers_B23 (a0 : SState) (vt13_22 : Int) : Option ((Int) ⊕ (Unit ⊕ Unit)) :=
 (if (decide (vt13_22 < (a0.Extra.length : Int))) = true then
  (idx a0.Extra vt13_22).bind fun e25 =>
  (state_in e25 (0 : Int) (wrap64 ((a0.Players.length : Int) - (1 : Int)))).bind fun r26 =>
  (if (!r26) = true then
   some (.inr (.inl ()))
  else
   some (.inl (wrap64 (vt13_22 + (1 : Int)))))
 else
  some (.inr (.inr ())))
/-- cardgame/state.numbers -/
def state_numbers (a0 : SState) : Option (Bool) :=
 (iter (fun (v : Int) => state_numbers_B23 a0 v) FU (0 : Int)).bind (Sum.elim (fun o0 => some false) (fun o1 => state_numbers_J1 a0))
def state_numbers_C (a0 : SState) (r : Bool) : Prop := PCall Tryz.prog I0 33 [vA encSState a0] (· = vB r)
theorem state_numbers_ok {a0 : SState} {r : Bool} (h : state_numbers a0 = some r) : state_numbers_C a0 r := by
 refine PCall.body I0_stable (by kernel_rfl) Tryz.func33 rfl Tryz.ntmps33 (rs := [.tmp 2]) rfl rfl ?_
 intro w0 av old gv
 unfold state_numbers at h
 refine Rg [.a, .a] (sl 87 [(1, vP [1] (0))] [bx [1] (encSState a0)]) (aN) ?_
 refine Rg [.a, .a, .a, .a, .a] (sl 87 [(1, vP [1] (0)), (3, vI (wrap64 ((a0.Players.length : Int) - (1 : Int))))] [bx [1] (encSState a0)]) (aN) ?_
 refine Sj (X := Unit) (fun v => (sl 87 [(1, vP [1] (0)), (3, vI (wrap64 ((a0.Players.length : Int) - (1 : Int))))] [bx [1] (encSState a0)])) (fun v => state_numbers_J1 a0 = some r) ?_ ?_
 · refine Rg [.a, .a, .a, .a] (sl 87 [(1, vP [1] (0)), (3, vI (wrap64 ((a0.Players.length : Int) - (1 : Int)))), (11, vL (eI .i64) a0.Extra), (12, vI (a0.Extra.length : Int)), (13, vI (0 : Int))] [bx [1] (encSState a0)]) (aN) ?_
   refine Holds.block ?_
   obtain ⟨oB23, hiB23, h⟩ := bS h
   refine It (fun (v : Int) => (sl 87 [(1, vP [1] (0)), (3, vI (wrap64 ((a0.Players.length : Int) - (1 : Int)))), (11, vL (eI .i64) a0.Extra), (12, vI (a0.Extra.length : Int)), (13, vI v)] [bx [1] (encSState a0)])) hiB23 (wT) ?_
   rintro vt13_22 zB23 hzB23 hoB23
   replace hzB23 : state_numbers_B23 a0 vt13_22 = some zB23 := hzB23
   unfold state_numbers_B23 at hzB23
   refine Rg [.a] (sl 87 [(1, vP [1] (0)), (3, vI (wrap64 ((a0.Players.length : Int) - (1 : Int)))), (11, vL (eI .i64) a0.Extra), (12, vI (a0.Extra.length : Int)), (13, vI vt13_22), (14, vB (decide (vt13_22 < (a0.Extra.length : Int))))] [bx [1] (encSState a0)]) (aN) ?_
   refine Holds.seq ?_
   refine iB hzB23 (fun b24 hzB23 => ?_) (fun b24 hzB23 => ?_)
   · refine Holds.skip ?_
     refine Tn ?_
     refine Holds.seq ?_
     refine Holds.block ?_
     obtain ⟨e25, he25, hzB23⟩ := bS hzB23
     refine Rg [.a, (.v (vI e25)), .a] (sl 87 [(1, vP [1] (0)), (3, vI (wrap64 ((a0.Players.length : Int) - (1 : Int)))), (5, vI e25), (11, vL (eI .i64) a0.Extra), (12, vI (a0.Extra.length : Int)), (13, vI vt13_22)] [bx [1] (encSState a0)]) (aC (idx_b he25) <| aC (eld he25 (lenI .i64) 0 1 false (vI e25)) <| aC (Eq.refl (vI e25)) <| aN) ?_
     obtain ⟨r26, hr26, hzB23⟩ := bS hzB23
     refine Rg [.a, .a, (.c (vB r26)), .a] (sl 87 [(1, vP [1] (0)), (3, vI (wrap64 ((a0.Players.length : Int) - (1 : Int)))), (11, vL (eI .i64) a0.Extra), (12, vI (a0.Extra.length : Int)), (13, vI vt13_22), (20, vB (!r26))] [bx [1] (encSState a0)]) (aC (state_in_ok hr26) <| aN) ?_
     refine iB hzB23 (fun b27 hzB23 => ?_) (fun b27 hzB23 => ?_)
     · refine Rg [.a] (sl 87 [(2, vB false)] []) (aN) ?_
       refine Holds.ret ?_
       refine blockQ.ret ?_
       refine Tr ?_
       have hoB23_ := hoB23 _ (sI hzB23).symm
       subst hoB23_
       replace h := sumL h
       refine Tr ?_
       refine blockQ.ret ?_
       refine Tr ?_
       exact bQ (vB false) (congrArg vB (sI h))
     · refine Holds.skip ?_
       refine blockQ.normal ?_
       refine Tn ?_
       refine Re [.a, .a] (sl 87 [(1, vP [1] (0)), (3, vI (wrap64 ((a0.Players.length : Int) - (1 : Int)))), (11, vL (eI .i64) a0.Extra), (12, vI (a0.Extra.length : Int)), (13, vI (wrap64 (vt13_22 + (1 : Int)))), (20, vB (!r26)), (21, vI (wrap64 (vt13_22 + (1 : Int))))] [bx [1] (encSState a0)]) (aN) ?_
       refine Tn ⟨(wrap64 (vt13_22 + (1 : Int))), (sI hzB23).symm, wT⟩
   · refine Holds.exit ?_
     refine thenQ.exit ?_
     have hoB23_ := hoB23 _ (sI hzB23).symm
     subst hoB23_
     replace h := sumR h
     refine thenQ.exit ?_
     refine blockQ.out ?_
     refine Tn ⟨(), h, wT⟩
 · rintro _ hJ1
   replace hJ1 : state_numbers_J1 a0 = some r := hJ1
   unfold state_numbers_J1 at hJ1
   refine Holds.seq ?_
   obtain ⟨r2, hr2, hJ1⟩ := bS hJ1
   obtain ⟨r3, hr3, hJ1⟩ := bS hJ1
   obtain ⟨b4, hb4, hJ1⟩ := bS hJ1
   obtain ⟨r5, hr5, hJ1⟩ := bS hJ1
   obtain ⟨b6, hb6, hJ1⟩ := bS hJ1
   obtain ⟨r7, hr7, hJ1⟩ := bS hJ1
   obtain ⟨b8, hb8, hJ1⟩ := bS hJ1
   obtain ⟨r9, hr9, hJ1⟩ := bS hJ1
   obtain ⟨b10, hb10, hJ1⟩ := bS hJ1
   obtain ⟨r11, hr11, hJ1⟩ := bS hJ1
   obtain ⟨b12, hb12, hJ1⟩ := bS hJ1
   obtain ⟨r13, hr13, hJ1⟩ := bS hJ1
   obtain ⟨b14, hb14, hJ1⟩ := bS hJ1
   obtain ⟨b15, hb15, hJ1⟩ := bS hJ1
   refine Rg [.a, .a, (.c (vB r2)), .a, .a, .a, .a, .a, (.c (vB r3)), .a, (.v (vB b4)), .a, .a, .a, .a, (.c (vB r5)), .a, (.v (vB b6)), .a, .a, .a, (.c (vB r7)), .a, (.v (vB b8)), .a, .a, .a, .a, .a, (.c (vB r9)), .a, (.v (vB b10)), .a, .a, .a, (.c (vB r11)), .a, (.v (vB b12)), .a, .a, .a, (.c (vB r13)), .a, (.v (vB b14)), .a, .a, .a, .a, .a, (.v (vB b15))] (sl 87 [(1, vP [1] (0)), (3, vI (wrap64 ((a0.Players.length : Int) - (1 : Int)))), (71, vB b15)] [bx [1] (encSState a0)]) (aC (state_in_ok hr2) <| aG ((!r2) == false) <| aC (c2 hr3 state_in_ok) <| aG ((!r2) == false) <| aF (!r2) <| aB hb4 <| aG (b4 == false) <| aC (c2 hr5 state_in_ok) <| aG (b4 == false) <| aF b4 <| aB hb6 <| aG (b6 == false) <| aC (c1 hr7 state_in_ok) <| aG (b6 == false) <| aF b6 <| aB hb8 <| aG (b8 == false) <| aG (b8 == false) <| aC (c2 hr9 state_in_ok) <| aG (b8 == false) <| aF b8 <| aB hb10 <| aG (b10 == false) <| aC (c1 hr11 state_in_ok) <| aG (b10 == false) <| aF b10 <| aB hb12 <| aG (b12 == false) <| aC (c1 hr13 state_in_ok) <| aG (b12 == false) <| aF b12 <| aB hb14 <| aG (b14 == false) <| aG (b14 == false) <| aG (b14 == false) <| aF b14 <| aB hb15 <| aN) ?_
   refine iB hJ1 (fun b16 hJ1 => ?_) (fun b16 hJ1 => ?_)
   · refine Rg [.a] (sl 87 [(2, vB false)] []) (aN) ?_
     refine Holds.ret ?_
     refine Tr ?_
     exact bQ (vB false) (congrArg vB (sI hJ1))
   · refine Holds.skip ?_
     refine Tn ?_
     refine Holds.seq ?_
     refine Rg [.a, .a, .a] (sl 87 [(1, vP [1] (0)), (3, vI (wrap64 ((a0.Players.length : Int) - (1 : Int)))), (74, vB (a0.Over == (1 : Int)))] [bx [1] (encSState a0)]) (aN) ?_
     refine iB hJ1 (fun b17 hJ1 => ?_) (fun b17 hJ1 => ?_)
     · obtain ⟨r18, hr18, hJ1⟩ := bS hJ1
       refine Rg [.a, .a, .a, (.c (vB r18)), .a] (sl 87 [(2, vB r18)] []) (aC (state_in_ok hr18) <| aN) ?_
       refine Holds.ret ?_
       refine Tr ?_
       exact bQ (vB r18) (congrArg vB (sI hJ1))
     · refine Holds.skip ?_
       refine Tn ?_
       obtain ⟨r19, hr19, hJ1⟩ := bS hJ1
       obtain ⟨b20, hb20, hJ1⟩ := bS hJ1
       refine Rg [.a, .a, (.c (vB r19)), .a, .a, .a, .a, (.v (vB b20)), .a] (sl 87 [(2, vB b20)] []) (aC (state_in_ok hr19) <| aG (r19 == true) <| aG (r19 == true) <| aT r19 <| aB hb20 <| aN) ?_
       refine Holds.ret ?_
       exact bQ (vB b20) (congrArg vB (sI hJ1))
def slices_EqualFunc_api_Player_api_Player_api_Player_api_Player_state_samePlayer_J2  : Option (Bool) :=
 some true
def slices_EqualFunc_api_Player_api_Player_api_Player_api_Player_state_samePlayer_B5 (a0 : List (SPlayer)) (a1 : List (SPlayer)) (vt17_4 : Int) : Option ((Int) ⊕ (Unit ⊕ Unit)) :=
 (if (decide (vt17_4 < (a0.length : Int))) = true then
  (idx a0 vt17_4).bind fun e7 =>
  (idx a1 vt17_4).bind fun e8 =>
  (some (if (e7.Life == e8.Life) = true then e7.Venom == e8.Venom else false)).bind fun b9 =>
  (some (if b9 = true then e7.Lands == e8.Lands else false)).bind fun b10 =>
  (some (if b10 = true then e7.Pool == e8.Pool else false)).bind fun b11 =>
  (some (if b11 = true then e7.Failed == e8.Failed else false)).bind fun b12 =>
  (some (if b12 = true then e7.Lost == e8.Lost else false)).bind fun b13 =>
  (gd (b13 == true) (slices_Equal_int_int e7.Library e8.Library)).bind fun r14 =>
  (some (if b13 = true then r14 else false)).bind fun b15 =>
  (gd (b15 == true) (slices_Equal_int_int e7.Hand e8.Hand)).bind fun r16 =>
  (some (if b15 = true then r16 else false)).bind fun b17 =>
  (gd (b17 == true) (slices_Equal_int_int e7.Graveyard e8.Graveyard)).bind fun r18 =>
  (some (if b17 = true then r18 else false)).bind fun b19 =>
  (if (!b19) = true then
   some (.inr (.inl ()))
  else
   some (.inl (wrap64 (vt17_4 + (1 : Int)))))
 else
  some (.inr (.inr ())))
/-- slices.EqualFunc[[]cardgame/api.Player,[]cardgame/api.Player,cardgame/api.Player,cardgame/api.Player] -/
def slices_EqualFunc_api_Player_api_Player_api_Player_api_Player_state_samePlayer (a0 : List (SPlayer)) (a1 : List (SPlayer)) : Option (Bool) :=
 (if ((a0.length : Int) != (a1.length : Int)) = true then
  some false
 else
  (iter (fun (v : Int) => slices_EqualFunc_api_Player_api_Player_api_Player_api_Player_state_samePlayer_B5 a0 a1 v) FU (0 : Int)).bind (Sum.elim (fun o0 => some false) (fun o1 => slices_EqualFunc_api_Player_api_Player_api_Player_api_Player_state_samePlayer_J2)))
def slices_EqualFunc_api_Player_api_Player_api_Player_api_Player_state_samePlayer_C (a0 : List (SPlayer)) (a1 : List (SPlayer)) (r : Bool) : Prop := PCall Tryz.prog I0 76 [vL encSPlayer a0, vL encSPlayer a1, .c (.fn 41)] (· = vB r)
theorem slices_EqualFunc_api_Player_api_Player_api_Player_api_Player_state_samePlayer_ok {a0 : List (SPlayer)} {a1 : List (SPlayer)} {r : Bool} (h : slices_EqualFunc_api_Player_api_Player_api_Player_api_Player_state_samePlayer a0 a1 = some r) : slices_EqualFunc_api_Player_api_Player_api_Player_api_Player_state_samePlayer_C a0 a1 r := by
 refine PCall.body I0_stable (by kernel_rfl) Tryz.func76 rfl Tryz.ntmps76 (rs := [.tmp 6]) rfl rfl ?_
 intro w0 av old gv
 unfold slices_EqualFunc_api_Player_api_Player_api_Player_api_Player_state_samePlayer at h
 refine Rg [.a] (sl 32 [(0, vL encSPlayer a0), (1, vL encSPlayer a1), (2, .c (.fn 41))] []) (aN) ?_
 refine Holds.seq ?_
 refine Rg [.a, .a, .a, .a, .a] (sl 32 [(0, vL encSPlayer a0), (1, vL encSPlayer a1), (2, .c (.fn 41)), (14, vB ((a0.length : Int) != (a1.length : Int)))] []) (aN) ?_
 refine iB h (fun b1 h => ?_) (fun b1 h => ?_)
 · refine Rg [.a] (sl 32 [(6, vB false)] []) (aN) ?_
   refine Holds.ret ?_
   refine Tr ?_
   exact bQ (vB false) (congrArg vB (sI h))
 · refine Holds.skip ?_
   refine Tn ?_
   refine Sj (X := Unit) (fun v => (sl 32 [] [])) (fun v => slices_EqualFunc_api_Player_api_Player_api_Player_api_Player_state_samePlayer_J2 = some r) ?_ ?_
   · refine Rg [.a, .a, .a] (sl 32 [(1, vL encSPlayer a1), (2, .c (.fn 41)), (15, vL encSPlayer a0), (16, vI (a0.length : Int)), (17, vI (0 : Int))] []) (aN) ?_
     refine Holds.block ?_
     obtain ⟨oB5, hiB5, h⟩ := bS h
     refine It (fun (v : Int) => (sl 32 [(1, vL encSPlayer a1), (2, .c (.fn 41)), (15, vL encSPlayer a0), (16, vI (a0.length : Int)), (17, vI v)] [])) hiB5 (wT) ?_
     rintro vt17_4 zB5 hzB5 hoB5
     replace hzB5 : slices_EqualFunc_api_Player_api_Player_api_Player_api_Player_state_samePlayer_B5 a0 a1 vt17_4 = some zB5 := hzB5
     unfold slices_EqualFunc_api_Player_api_Player_api_Player_api_Player_state_samePlayer_B5 at hzB5
     refine Rg [.a] (sl 32 [(1, vL encSPlayer a1), (2, .c (.fn 41)), (15, vL encSPlayer a0), (16, vI (a0.length : Int)), (17, vI vt17_4), (18, vB (decide (vt17_4 < (a0.length : Int))))] []) (aN) ?_
     refine Holds.seq ?_
     refine iB hzB5 (fun b6 hzB5 => ?_) (fun b6 hzB5 => ?_)
     · refine Holds.skip ?_
       refine Tn ?_
       refine Holds.seq ?_
       refine Holds.block ?_
       obtain ⟨e7, he7, hzB5⟩ := bS hzB5
       refine Rg [.a, .a, (.v (vA encSPlayer e7)), .a, .a, .a] (sl 32 [(1, vL encSPlayer a1), (2, .c (.fn 41)), (7, vI vt17_4), (8, vP [8] (0)), (15, vL encSPlayer a0), (16, vI (a0.length : Int)), (17, vI vt17_4)] [bx [8] (encSPlayer e7)]) (aC (idx_b he7) <| aC (eld he7 lenSPlayer 0 14 true (vA encSPlayer e7)) <| aC (Eq.refl (vA encSPlayer e7)) <| aN) ?_
       obtain ⟨e8, he8, hzB5⟩ := bS hzB5
       refine Rg [.a, .a, .a, (.v (vA encSPlayer e8)), .a, .a] (sl 32 [(1, vL encSPlayer a1), (2, .c (.fn 41)), (8, vP [8] (0)), (9, vP [9] (0)), (15, vL encSPlayer a0), (16, vI (a0.length : Int)), (17, vI vt17_4)] [bx [9] (encSPlayer e8), bx [8] (encSPlayer e7)]) (aC (idx_b he8) <| aC (eld he8 lenSPlayer 0 14 true (vA encSPlayer e8)) <| aC (Eq.refl (vA encSPlayer e8)) <| aN) ?_
       refine Holds.seq ?_
       refine Holds.region ?_
       refine Rp 3 [.a, .a, .a] (sl 32 [(1, vL encSPlayer a1), (2, .c (.fn 41)), (8, vP [8] (0)), (9, vP [9] (0)), (15, vL encSPlayer a0), (16, vI (a0.length : Int)), (17, vI vt17_4), (26, .c (.fn 41)), (27, vA encSPlayer e7), (28, vA encSPlayer e8)] [bx [9] (encSPlayer e8), bx [8] (encSPlayer e7)]) (aN) ?_
       refine Run.inl rfl rfl (Esc.inline (s := True ∧ (True ∧ True)) (vs := [vA encSPlayer e7, vA encSPlayer e8]) (cs := []) 29 rfl rfl rfl (by kernel_rfl) ⟨trivial, ⟨trivial, trivial⟩⟩ (by kernel_rfl) (by kernel_rfl) Tryz.func41 rfl Tryz.ntmps41 (rs := [.tmp 4]) rfl ?_)
       intro w08 av8 old8 gv8
       refine At (sg 66 [(0, vA encSPlayer e7), (1, vA encSPlayer e8)] [bx [9] (encSPlayer e8), bx [8] (encSPlayer e7)] 32 [(1, vL encSPlayer a1), (2, .c (.fn 41)), (8, vP [8] (0)), (9, vP [9] (0)), (15, vL encSPlayer a0), (16, vI (a0.length : Int)), (17, vI vt17_4), (26, .c (.fn 41)), (27, vA encSPlayer e7), (28, vA encSPlayer e8)] [29]) ?_
       refine Rg [.a, .a, .a] (sg 66 [(2, vP [2, 29] (0)), (3, vP [3, 29] (0))] [bx [3, 29] (encSPlayer e8), bx [2, 29] (encSPlayer e7), bx [9] (encSPlayer e8), bx [8] (encSPlayer e7)] 32 [(1, vL encSPlayer a1), (2, .c (.fn 41)), (8, vP [8] (0)), (9, vP [9] (0)), (15, vL encSPlayer a0), (16, vI (a0.length : Int)), (17, vI vt17_4), (26, .c (.fn 41)), (27, vA encSPlayer e7), (28, vA encSPlayer e8)] [29]) (aN) ?_
       obtain ⟨b9, hb9, hzB5⟩ := bS hzB5
       obtain ⟨b10, hb10, hzB5⟩ := bS hzB5
       obtain ⟨b11, hb11, hzB5⟩ := bS hzB5
       obtain ⟨b12, hb12, hzB5⟩ := bS hzB5
       obtain ⟨b13, hb13, hzB5⟩ := bS hzB5
       obtain ⟨r14, hr14, hzB5⟩ := bS hzB5
       obtain ⟨b15, hb15, hzB5⟩ := bS hzB5
       obtain ⟨r16, hr16, hzB5⟩ := bS hzB5
       obtain ⟨b17, hb17, hzB5⟩ := bS hzB5
       obtain ⟨r18, hr18, hzB5⟩ := bS hzB5
       obtain ⟨b19, hb19, hzB5⟩ := bS hzB5
       refine Rg [.a, .a, .a, .a, .a, .a, .a, .a, .a, .a, .a, (.v (vB b9)), .a, .a, .a, .a, .a, .a, (.v (vB b10)), .a, .a, .a, .a, .a, (.v (vB (e7.Pool == e8.Pool))), (.v (vB b11)), .a, .a, .a, .a, .a, .a, (.v (vB b12)), .a, .a, .a, .a, .a, .a, (.v (vB b13)), .a, .a, .a, .a, .a, (.c (vB r14)), (.v (vB b15)), .a, .a, .a, .a, .a, (.c (vB r16)), (.v (vB b17)), .a, .a, .a, .a, .a, (.c (vB r18)), (.v (vB b19)), .a] (sg 66 [(4, vB b19)] [bx [9] (encSPlayer e8), bx [8] (encSPlayer e7)] 32 [(1, vL encSPlayer a1), (2, .c (.fn 41)), (8, vP [8] (0)), (9, vP [9] (0)), (15, vL encSPlayer a0), (16, vI (a0.length : Int)), (17, vI vt17_4), (26, .c (.fn 41)), (27, vA encSPlayer e7), (28, vA encSPlayer e8)] [29]) (aG ((e7.Life == e8.Life) == true) <| aG ((e7.Life == e8.Life) == true) <| aH ((e7.Life == e8.Life) == true) <| aT (e7.Life == e8.Life) <| aB hb9 <| aG (b9 == true) <| aG (b9 == true) <| aH (b9 == true) <| aT b9 <| aB hb10 <| aG (b10 == true) <| aG (b10 == true) <| aC (fun hg : (b10 == true) = true => aC (gi (b10 == true)) <| aC (gi (b10 == true)) <| aC (congrArg (fun z => V.c (.bool (z))) (eqT47 e7.Pool e8.Pool)) <| aN) <| aT b10 <| aB hb11 <| aG (b11 == true) <| aG (b11 == true) <| aC (fun hg : (b11 == true) = true => aC (gi (b11 == true)) <| aC (gi (b11 == true)) <| aC isb4 <| aN) <| aT b11 <| aB hb12 <| aG (b12 == true) <| aG (b12 == true) <| aC (fun hg : (b12 == true) = true => aC (gi (b12 == true)) <| aC (gi (b12 == true)) <| aC isb4 <| aN) <| aT b12 <| aB hb13 <| aG (b13 == true) <| aG (b13 == true) <| aC (c2 hr14 slices_Equal_int_int_ok) <| aT b13 <| aB hb15 <| aG (b15 == true) <| aG (b15 == true) <| aC (c2 hr16 slices_Equal_int_int_ok) <| aT b15 <| aB hb17 <| aG (b17 == true) <| aG (b17 == true) <| aC (c2 hr18 slices_Equal_int_int_ok) <| aT b17 <| aB hb19 <| aN) ?_
       refine Holds.ret ?_
       refine inQ.ret (v := vB b19) (by kernel_rfl) ?_
       refine Rw [.a] (sl 32 [(1, vL encSPlayer a1), (2, .c (.fn 41)), (8, vP [8] (0)), (9, vP [9] (0)), (15, vL encSPlayer a0), (16, vI (a0.length : Int)), (17, vI vt17_4), (26, .c (.fn 41)), (27, vA encSPlayer e7), (28, vA encSPlayer e8), (29, vB b19), (30, vB (!b19))] [bx [9] (encSPlayer e8), bx [8] (encSPlayer e7)]) (aN) ?_
       refine Tn ?_
       refine iB hzB5 (fun b20 hzB5 => ?_) (fun b20 hzB5 => ?_)
       · refine Rg [.a] (sl 32 [(6, vB false)] []) (aN) ?_
         refine Holds.ret ?_
         refine blockQ.ret ?_
         refine Tr ?_
         have hoB5_ := hoB5 _ (sI hzB5).symm
         subst hoB5_
         replace h := sumL h
         refine Tr ?_
         refine blockQ.ret ?_
         refine Tr ?_
         exact bQ (vB false) (congrArg vB (sI h))
       · refine Holds.skip ?_
         refine blockQ.normal ?_
         refine Tn ?_
         refine Re [.a, .a] (sl 32 [(1, vL encSPlayer a1), (2, .c (.fn 41)), (8, vP [8] (0)), (9, vP [9] (0)), (15, vL encSPlayer a0), (16, vI (a0.length : Int)), (17, vI (wrap64 (vt17_4 + (1 : Int)))), (26, .c (.fn 41)), (27, vA encSPlayer e7), (28, vA encSPlayer e8), (29, vB b19), (30, vB (!b19)), (31, vI (wrap64 (vt17_4 + (1 : Int))))] [bx [9] (encSPlayer e8), bx [8] (encSPlayer e7)]) (aN) ?_
         refine Tn ⟨(wrap64 (vt17_4 + (1 : Int))), (sI hzB5).symm, wT⟩
     · refine Holds.exit ?_
       refine thenQ.exit ?_
       have hoB5_ := hoB5 _ (sI hzB5).symm
       subst hoB5_
       replace h := sumR h
       refine thenQ.exit ?_
       refine blockQ.out ?_
       refine Tn ⟨(), h, wT⟩
   · rintro _ hJ2
     replace hJ2 : slices_EqualFunc_api_Player_api_Player_api_Player_api_Player_state_samePlayer_J2 = some r := hJ2
     unfold slices_EqualFunc_api_Player_api_Player_api_Player_api_Player_state_samePlayer_J2 at hJ2
     refine Rg [.a] (sl 32 [(6, vB true)] []) (aN) ?_
     refine Holds.ret ?_
     exact bQ (vB true) (congrArg vB (sI hJ2))
/-- cardgame/state.each[cardgame/api.Object] -/
def state_each_api_Object_state_equal_api_Object (a0 : List (SObject)) (a1 : List (SObject)) : Option (Bool) :=
 (slices_EqualFunc_api_Object_api_Object_api_Object_api_Object_state_equal_api_Object a0 a1).bind fun r1 =>
 some r1
def state_each_api_Object_state_equal_api_Object_C (a0 : List (SObject)) (a1 : List (SObject)) (r : Bool) : Prop := PCall Tryz.prog I0 42 [vL encSObject a0, vL encSObject a1, .c (.fn 43)] (· = vB r)
theorem state_each_api_Object_state_equal_api_Object_ok {a0 : List (SObject)} {a1 : List (SObject)} {r : Bool} (h : state_each_api_Object_state_equal_api_Object a0 a1 = some r) : state_each_api_Object_state_equal_api_Object_C a0 a1 r := by
 refine PCall.body I0_stable (by kernel_rfl) Tryz.func42 rfl Tryz.ntmps42 (rs := [.tmp 6]) rfl rfl ?_
 intro w0 av old gv
 unfold state_each_api_Object_state_equal_api_Object at h
 refine Rg [.a] (sl 11 [(0, vL encSObject a0), (1, vL encSObject a1), (2, .c (.fn 43))] []) (aN) ?_
 obtain ⟨r1, hr1, h⟩ := bS h
 refine Rg [.a, .a, .a, (.c (vB r1)), .a] (sl 11 [(6, vB r1)] []) (aC (slices_EqualFunc_api_Object_api_Object_api_Object_api_Object_state_equal_api_Object_ok hr1) <| aN) ?_
 refine Holds.ret ?_
 exact bQ (vB r1) (congrArg vB (sI h))
/-- cardgame/state.each[cardgame/api.Mod] -/
def state_each_api_Mod_state_equal_api_Mod (a0 : List (SMod)) (a1 : List (SMod)) : Option (Bool) :=
 (slices_EqualFunc_api_Mod_api_Mod_api_Mod_api_Mod_state_equal_api_Mod a0 a1).bind fun r1 =>
 some r1
def state_each_api_Mod_state_equal_api_Mod_C (a0 : List (SMod)) (a1 : List (SMod)) (r : Bool) : Prop := PCall Tryz.prog I0 83 [vL encSMod a0, vL encSMod a1, .c (.fn 84)] (· = vB r)
theorem state_each_api_Mod_state_equal_api_Mod_ok {a0 : List (SMod)} {a1 : List (SMod)} {r : Bool} (h : state_each_api_Mod_state_equal_api_Mod a0 a1 = some r) : state_each_api_Mod_state_equal_api_Mod_C a0 a1 r := by
 refine PCall.body I0_stable (by kernel_rfl) Tryz.func83 rfl Tryz.ntmps83 (rs := [.tmp 6]) rfl rfl ?_
 intro w0 av old gv
 unfold state_each_api_Mod_state_equal_api_Mod at h
 refine Rg [.a] (sl 11 [(0, vL encSMod a0), (1, vL encSMod a1), (2, .c (.fn 84))] []) (aN) ?_
 obtain ⟨r1, hr1, h⟩ := bS h
 refine Rg [.a, .a, .a, (.c (vB r1)), .a] (sl 11 [(6, vB r1)] []) (aC (slices_EqualFunc_api_Mod_api_Mod_api_Mod_api_Mod_state_equal_api_Mod_ok hr1) <| aN) ?_
 refine Holds.ret ?_
 exact bQ (vB r1) (congrArg vB (sI h))
/-- cardgame/state.each[cardgame/api.Spec] -/
def state_each_api_Spec_state_equal_api_Spec (a0 : List (SSpec)) (a1 : List (SSpec)) : Option (Bool) :=
 (slices_EqualFunc_api_Spec_api_Spec_api_Spec_api_Spec_state_equal_api_Spec a0 a1).bind fun r1 =>
 some r1
def state_each_api_Spec_state_equal_api_Spec_C (a0 : List (SSpec)) (a1 : List (SSpec)) (r : Bool) : Prop := PCall Tryz.prog I0 106 [vL encSSpec a0, vL encSSpec a1, .c (.fn 107)] (· = vB r)
theorem state_each_api_Spec_state_equal_api_Spec_ok {a0 : List (SSpec)} {a1 : List (SSpec)} {r : Bool} (h : state_each_api_Spec_state_equal_api_Spec a0 a1 = some r) : state_each_api_Spec_state_equal_api_Spec_C a0 a1 r := by
 refine PCall.body I0_stable (by kernel_rfl) Tryz.func106 rfl Tryz.ntmps106 (rs := [.tmp 6]) rfl rfl ?_
 intro w0 av old gv
 unfold state_each_api_Spec_state_equal_api_Spec at h
 refine Rg [.a] (sl 11 [(0, vL encSSpec a0), (1, vL encSSpec a1), (2, .c (.fn 107))] []) (aN) ?_
 obtain ⟨r1, hr1, h⟩ := bS h
 refine Rg [.a, .a, .a, (.c (vB r1)), .a] (sl 11 [(6, vB r1)] []) (aC (slices_EqualFunc_api_Spec_api_Spec_api_Spec_api_Spec_state_equal_api_Spec_ok hr1) <| aN) ?_
 refine Holds.ret ?_
 exact bQ (vB r1) (congrArg vB (sI h))
/-- cardgame/state.each[cardgame/api.Target] -/
def state_each_api_Target_state_equal_api_Target (a0 : List (STarget)) (a1 : List (STarget)) : Option (Bool) :=
 (slices_EqualFunc_api_Target_api_Target_api_Target_api_Target_state_equal_api_Target a0 a1).bind fun r1 =>
 some r1
def state_each_api_Target_state_equal_api_Target_C (a0 : List (STarget)) (a1 : List (STarget)) (r : Bool) : Prop := PCall Tryz.prog I0 79 [vL encSTarget a0, vL encSTarget a1, .c (.fn 80)] (· = vB r)
theorem state_each_api_Target_state_equal_api_Target_ok {a0 : List (STarget)} {a1 : List (STarget)} {r : Bool} (h : state_each_api_Target_state_equal_api_Target a0 a1 = some r) : state_each_api_Target_state_equal_api_Target_C a0 a1 r := by
 refine PCall.body I0_stable (by kernel_rfl) Tryz.func79 rfl Tryz.ntmps79 (rs := [.tmp 6]) rfl rfl ?_
 intro w0 av old gv
 unfold state_each_api_Target_state_equal_api_Target at h
 refine Rg [.a] (sl 11 [(0, vL encSTarget a0), (1, vL encSTarget a1), (2, .c (.fn 80))] []) (aN) ?_
 obtain ⟨r1, hr1, h⟩ := bS h
 refine Rg [.a, .a, .a, (.c (vB r1)), .a] (sl 11 [(6, vB r1)] []) (aC (slices_EqualFunc_api_Target_api_Target_api_Target_api_Target_state_equal_api_Target_ok hr1) <| aN) ?_
 refine Holds.ret ?_
 exact bQ (vB r1) (congrArg vB (sI h))
/-- cmp.Compare[int] -/
def cmp_Compare_int (a0 : Int) (a1 : Int) : Option (Int) :=
 (cmp_isNaN_int a0).bind fun r1 =>
 (cmp_isNaN_int a1).bind fun r2 =>
 (if r1 = true then
  (if r2 = true then
   some (0 : Int)
  else
   some (-1 : Int))
 else
  (if r2 = true then
   some (1 : Int)
  else
   (if (decide (a0 < a1)) = true then
    some (-1 : Int)
   else
    (if (decide (a1 < a0)) = true then
     some (1 : Int)
    else
     some (0 : Int)))))
def cmp_Compare_int_C (a0 : Int) (a1 : Int) (r : Int) : Prop := PCall Tryz.prog I0 51 [vI a0, vI a1] (· = vI r)
theorem cmp_Compare_int_ok {a0 : Int} {a1 : Int} {r : Int} (h : cmp_Compare_int a0 a1 = some r) : cmp_Compare_int_C a0 a1 r := by
 refine PCall.body I0_stable (by kernel_rfl) Tryz.func51 rfl Tryz.ntmps51 (rs := [.tmp 4]) rfl rfl ?_
 intro w0 av old gv
 unfold cmp_Compare_int at h
 refine Rg [.a] (sl 20 [(0, vI a0), (1, vI a1)] []) (aN) ?_
 obtain ⟨r1, hr1, h⟩ := bS h
 refine Rg [.a, (.c (vB r1)), .a] (sl 20 [(0, vI a0), (1, vI a1), (5, vB r1)] []) (aC (cmp_isNaN_int_ok hr1) <| aN) ?_
 obtain ⟨r2, hr2, h⟩ := bS h
 refine Rg [.a, (.c (vB r2)), .a] (sl 20 [(0, vI a0), (1, vI a1), (5, vB r1), (6, vB r2)] []) (aC (cmp_isNaN_int_ok hr2) <| aN) ?_
 refine Holds.seq ?_
 refine Rg [.a] (sl 20 [(0, vI a0), (1, vI a1), (6, vB r2), (11, vB r1)] []) (aN) ?_
 refine iB h (fun b3 h => ?_) (fun b3 h => ?_)
 · refine Holds.seq ?_
   refine Rg [.a] (sl 20 [(12, vB r2)] []) (aN) ?_
   refine iB h (fun b4 h => ?_) (fun b4 h => ?_)
   · refine Rg [.a] (sl 20 [(4, vI (0 : Int))] []) (aN) ?_
     refine Holds.ret ?_
     refine Tr ?_
     refine Tr ?_
     exact bQ (vI (0 : Int)) (congrArg vI (sI h))
   · refine Holds.skip ?_
     refine Tn ?_
     refine Rg [.a] (sl 20 [(4, vI (-1 : Int))] []) (aN) ?_
     refine Holds.ret ?_
     refine Tr ?_
     exact bQ (vI (-1 : Int)) (congrArg vI (sI h))
 · refine Holds.skip ?_
   refine Tn ?_
   refine Holds.seq ?_
   refine Rg [.a] (sl 20 [(0, vI a0), (1, vI a1), (13, vB r2)] []) (aN) ?_
   refine iB h (fun b5 h => ?_) (fun b5 h => ?_)
   · refine Rg [.a] (sl 20 [(4, vI (1 : Int))] []) (aN) ?_
     refine Holds.ret ?_
     refine Tr ?_
     exact bQ (vI (1 : Int)) (congrArg vI (sI h))
   · refine Holds.skip ?_
     refine Tn ?_
     refine Holds.seq ?_
     refine Rg [.a, .a, .a] (sl 20 [(0, vI a0), (1, vI a1), (16, vB (decide (a0 < a1)))] []) (aN) ?_
     refine iB h (fun b6 h => ?_) (fun b6 h => ?_)
     · refine Rg [.a] (sl 20 [(4, vI (-1 : Int))] []) (aN) ?_
       refine Holds.ret ?_
       refine Tr ?_
       exact bQ (vI (-1 : Int)) (congrArg vI (sI h))
     · refine Holds.skip ?_
       refine Tn ?_
       refine Holds.seq ?_
       refine Rg [.a, .a, .a] (sl 20 [(19, vB (decide (a1 < a0)))] []) (aN) ?_
       refine iB h (fun b7 h => ?_) (fun b7 h => ?_)
       · refine Rg [.a] (sl 20 [(4, vI (1 : Int))] []) (aN) ?_
         refine Holds.ret ?_
         refine Tr ?_
         exact bQ (vI (1 : Int)) (congrArg vI (sI h))
       · refine Holds.skip ?_
         refine Tn ?_
         refine Rg [.a] (sl 20 [(4, vI (0 : Int))] []) (aN) ?_
         refine Holds.ret ?_
         exact bQ (vI (0 : Int)) (congrArg vI (sI h))
/-- cardgame/zone.copyPlayer -/
def zone_copyPlayer (a0 : SPlayer) : Option (SPlayer) :=
 (slices_Clone_int_int a0.Library).bind fun r1 =>
 (slices_Clone_int_int (({ a0 with Library := r1 }).Hand)).bind fun r2 =>
 (slices_Clone_int_int (({ { a0 with Library := r1 } with Hand := r2 }).Graveyard)).bind fun r3 =>
 some ({ { { a0 with Library := r1 } with Hand := r2 } with Graveyard := r3 })
def zone_copyPlayer_C (a0 : SPlayer) (r : SPlayer) : Prop := PCall Tryz.prog I0 87 [vA encSPlayer a0] (· = vA encSPlayer r)
theorem zone_copyPlayer_ok {a0 : SPlayer} {r : SPlayer} (h : zone_copyPlayer a0 = some r) : zone_copyPlayer_C a0 r := by
 refine PCall.body I0_stable (by kernel_rfl) Tryz.func87 rfl Tryz.ntmps87 (rs := [.cell 2 49]) rfl rfl ?_
 intro w0 av old gv
 unfold zone_copyPlayer at h
 refine Rg [.a, .a] (sl 16 [(1, vP [1] (0)), (2, vP [2] (0))] [bx [2] [.int .i64 (0 : Int), .int .i64 (0 : Int), .int .i64 (0 : Int), .int .i64 (((⟨(0 : Int), (0 : Int), (0 : Int), (0 : Int), (0 : Int), (0 : Int)⟩ : A6 (Int))).x0), .int .i64 (((⟨(0 : Int), (0 : Int), (0 : Int), (0 : Int), (0 : Int), (0 : Int)⟩ : A6 (Int))).x1), .int .i64 (((⟨(0 : Int), (0 : Int), (0 : Int), (0 : Int), (0 : Int), (0 : Int)⟩ : A6 (Int))).x2), .int .i64 (((⟨(0 : Int), (0 : Int), (0 : Int), (0 : Int), (0 : Int), (0 : Int)⟩ : A6 (Int))).x3), .int .i64 (((⟨(0 : Int), (0 : Int), (0 : Int), (0 : Int), (0 : Int), (0 : Int)⟩ : A6 (Int))).x4), .int .i64 (((⟨(0 : Int), (0 : Int), (0 : Int), (0 : Int), (0 : Int), (0 : Int)⟩ : A6 (Int))).x5), .bool false, .bool false, .nils, .nils, .nils], bx [1] (encSPlayer a0)]) (aN) ?_
 obtain ⟨r1, hr1, h⟩ := bS h
 refine Rg [.a, .a, (.c (vL (eI .i64) r1)), .a, .a] (sl 16 [(1, vP [1] (0)), (2, vP [2] (0))] [bx [2] [.int .i64 (0 : Int), .int .i64 (0 : Int), .int .i64 (0 : Int), .int .i64 (((⟨(0 : Int), (0 : Int), (0 : Int), (0 : Int), (0 : Int), (0 : Int)⟩ : A6 (Int))).x0), .int .i64 (((⟨(0 : Int), (0 : Int), (0 : Int), (0 : Int), (0 : Int), (0 : Int)⟩ : A6 (Int))).x1), .int .i64 (((⟨(0 : Int), (0 : Int), (0 : Int), (0 : Int), (0 : Int), (0 : Int)⟩ : A6 (Int))).x2), .int .i64 (((⟨(0 : Int), (0 : Int), (0 : Int), (0 : Int), (0 : Int), (0 : Int)⟩ : A6 (Int))).x3), .int .i64 (((⟨(0 : Int), (0 : Int), (0 : Int), (0 : Int), (0 : Int), (0 : Int)⟩ : A6 (Int))).x4), .int .i64 (((⟨(0 : Int), (0 : Int), (0 : Int), (0 : Int), (0 : Int), (0 : Int)⟩ : A6 (Int))).x5), .bool false, .bool false, .nils, .nils, .nils], bx [1] (encSPlayer ({ a0 with Library := r1 }))]) (aC (slices_Clone_int_int_ok hr1) <| aN) ?_
 obtain ⟨r2, hr2, h⟩ := bS h
 refine Rg [.a, .a, (.c (vL (eI .i64) r2)), .a, .a] (sl 16 [(1, vP [1] (0)), (2, vP [2] (0))] [bx [2] [.int .i64 (0 : Int), .int .i64 (0 : Int), .int .i64 (0 : Int), .int .i64 (((⟨(0 : Int), (0 : Int), (0 : Int), (0 : Int), (0 : Int), (0 : Int)⟩ : A6 (Int))).x0), .int .i64 (((⟨(0 : Int), (0 : Int), (0 : Int), (0 : Int), (0 : Int), (0 : Int)⟩ : A6 (Int))).x1), .int .i64 (((⟨(0 : Int), (0 : Int), (0 : Int), (0 : Int), (0 : Int), (0 : Int)⟩ : A6 (Int))).x2), .int .i64 (((⟨(0 : Int), (0 : Int), (0 : Int), (0 : Int), (0 : Int), (0 : Int)⟩ : A6 (Int))).x3), .int .i64 (((⟨(0 : Int), (0 : Int), (0 : Int), (0 : Int), (0 : Int), (0 : Int)⟩ : A6 (Int))).x4), .int .i64 (((⟨(0 : Int), (0 : Int), (0 : Int), (0 : Int), (0 : Int), (0 : Int)⟩ : A6 (Int))).x5), .bool false, .bool false, .nils, .nils, .nils], bx [1] (encSPlayer ({ { a0 with Library := r1 } with Hand := r2 }))]) (aC (slices_Clone_int_int_ok hr2) <| aN) ?_
 obtain ⟨r3, hr3, h⟩ := bS h
 refine Rg [.a, .a, (.c (vL (eI .i64) r3)), .a, .a] (sl 16 [(1, vP [1] (0)), (2, vP [2] (0))] [bx [2] [.int .i64 (0 : Int), .int .i64 (0 : Int), .int .i64 (0 : Int), .int .i64 (((⟨(0 : Int), (0 : Int), (0 : Int), (0 : Int), (0 : Int), (0 : Int)⟩ : A6 (Int))).x0), .int .i64 (((⟨(0 : Int), (0 : Int), (0 : Int), (0 : Int), (0 : Int), (0 : Int)⟩ : A6 (Int))).x1), .int .i64 (((⟨(0 : Int), (0 : Int), (0 : Int), (0 : Int), (0 : Int), (0 : Int)⟩ : A6 (Int))).x2), .int .i64 (((⟨(0 : Int), (0 : Int), (0 : Int), (0 : Int), (0 : Int), (0 : Int)⟩ : A6 (Int))).x3), .int .i64 (((⟨(0 : Int), (0 : Int), (0 : Int), (0 : Int), (0 : Int), (0 : Int)⟩ : A6 (Int))).x4), .int .i64 (((⟨(0 : Int), (0 : Int), (0 : Int), (0 : Int), (0 : Int), (0 : Int)⟩ : A6 (Int))).x5), .bool false, .bool false, .nils, .nils, .nils], bx [1] (encSPlayer ({ { { a0 with Library := r1 } with Hand := r2 } with Graveyard := r3 }))]) (aC (slices_Clone_int_int_ok hr3) <| aN) ?_
 refine Rg [.a, .a] (sl 16 [(2, vP [2] (0))] [bx [2] (encSPlayer ({ { { a0 with Library := r1 } with Hand := r2 } with Graveyard := r3 }))]) (aN) ?_
 refine Holds.ret ?_
 exact bE (vA encSPlayer ({ { { a0 with Library := r1 } with Hand := r2 } with Graveyard := r3 })) (.agg (encSPlayer ({ { { a0 with Library := r1 } with Hand := r2 } with Graveyard := r3 }))) (congrArg (vA encSPlayer) (sI h))
/-- cardgame/cardgameref26.SamePlayer -/
def r26_SamePlayer (a0 : SPlayer) (a1 : SPlayer) : Option (Bool) :=
 (some (if (a0.Life != a1.Life) = true then true else a0.Venom != a1.Venom)).bind fun b1 =>
 (some (if b1 = true then true else a0.Lands != a1.Lands)).bind fun b2 =>
 (some (if b2 = true then true else !(a0.Pool == a1.Pool))).bind fun b3 =>
 (some (if b3 = true then true else a0.Failed != a1.Failed)).bind fun b4 =>
 (some (if b4 = true then true else a0.Lost != a1.Lost)).bind fun b5 =>
 (if b5 = true then
  some false
 else
  (r03_Same a0.Library a1.Library).bind fun r7 =>
  (gd (r7 == true) (r03_Same a0.Hand a1.Hand)).bind fun r8 =>
  (some (if r7 = true then r8 else false)).bind fun b9 =>
  (gd (b9 == true) (r03_Same a0.Graveyard a1.Graveyard)).bind fun r10 =>
  (some (if b9 = true then r10 else false)).bind fun b11 =>
  some b11)
def r26_SamePlayer_C (a0 : SPlayer) (a1 : SPlayer) (r : Bool) : Prop := PCall Tryz.prog I0 54 [vA encSPlayer a0, vA encSPlayer a1] (· = vB r)
theorem r26_SamePlayer_ok {a0 : SPlayer} {a1 : SPlayer} {r : Bool} (h : r26_SamePlayer a0 a1 = some r) : r26_SamePlayer_C a0 a1 r := by
 refine PCall.body I0_stable (by kernel_rfl) Tryz.func54 rfl Tryz.ntmps54 (rs := [.tmp 4]) rfl rfl ?_
 intro w0 av old gv
 unfold r26_SamePlayer at h
 refine Rg [.a, .a, .a] (sl 64 [(2, vP [2] (0)), (3, vP [3] (0))] [bx [3] (encSPlayer a1), bx [2] (encSPlayer a0)]) (aN) ?_
 refine Holds.seq ?_
 obtain ⟨b1, hb1, h⟩ := bS h
 obtain ⟨b2, hb2, h⟩ := bS h
 obtain ⟨b3, hb3, h⟩ := bS h
 obtain ⟨b4, hb4, h⟩ := bS h
 obtain ⟨b5, hb5, h⟩ := bS h
 refine Rg [.a, .a, .a, .a, .a, .a, .a, .a, .a, .a, .a, (.v (vB b1)), .a, .a, .a, .a, .a, .a, (.v (vB b2)), .a, .a, .a, .a, .a, (.v (vB (!(a0.Pool == a1.Pool)))), (.v (vB b3)), .a, .a, .a, .a, .a, .a, (.v (vB b4)), .a, .a, .a, .a, .a, .a, (.v (vB b5))] (sl 64 [(2, vP [2] (0)), (3, vP [3] (0)), (44, vB b5)] [bx [3] (encSPlayer a1), bx [2] (encSPlayer a0)]) (aG ((a0.Life != a1.Life) == false) <| aG ((a0.Life != a1.Life) == false) <| aH ((a0.Life != a1.Life) == false) <| aF (a0.Life != a1.Life) <| aB hb1 <| aG (b1 == false) <| aG (b1 == false) <| aH (b1 == false) <| aF b1 <| aB hb2 <| aG (b2 == false) <| aG (b2 == false) <| aC (fun hg : (b2 == false) = true => aC (gi (b2 == false)) <| aC (gi (b2 == false)) <| aC (congrArg (fun z => V.c (.bool (!z))) (eqT47 a0.Pool a1.Pool)) <| aN) <| aF b2 <| aB hb3 <| aG (b3 == false) <| aG (b3 == false) <| aC (fun hg : (b3 == false) = true => aC (gi (b3 == false)) <| aC (gi (b3 == false)) <| aC isb4 <| aN) <| aF b3 <| aB hb4 <| aG (b4 == false) <| aG (b4 == false) <| aC (fun hg : (b4 == false) = true => aC (gi (b4 == false)) <| aC (gi (b4 == false)) <| aC isb4 <| aN) <| aF b4 <| aB hb5 <| aN) ?_
 refine iB h (fun b6 h => ?_) (fun b6 h => ?_)
 · refine Rg [.a] (sl 64 [(4, vB false)] []) (aN) ?_
   refine Holds.ret ?_
   refine Tr ?_
   exact bQ (vB false) (congrArg vB (sI h))
 · refine Holds.skip ?_
   refine Tn ?_
   obtain ⟨r7, hr7, h⟩ := bS h
   obtain ⟨r8, hr8, h⟩ := bS h
   obtain ⟨b9, hb9, h⟩ := bS h
   obtain ⟨r10, hr10, h⟩ := bS h
   obtain ⟨b11, hb11, h⟩ := bS h
   refine Rg [.a, .a, .a, .a, (.c (vB r7)), .a, .a, .a, .a, .a, (.c (vB r8)), (.v (vB b9)), .a, .a, .a, .a, .a, (.c (vB r10)), (.v (vB b11)), .a] (sl 64 [(4, vB b11)] []) (aC (r03_Same_ok hr7) <| aG (r7 == true) <| aG (r7 == true) <| aC (c2 hr8 r03_Same_ok) <| aT r7 <| aB hb9 <| aG (b9 == true) <| aG (b9 == true) <| aC (c2 hr10 r03_Same_ok) <| aT b9 <| aB hb11 <| aN) ?_
   refine Holds.ret ?_
   exact bQ (vB b11) (congrArg vB (sI h))
/-- cardgame/cardgameref17.Same -/
def r17_Same (a0 : SEffect) (a1 : SEffect) : Option (Bool) :=
 (some (if (a0.Op == a1.Op) = true then a0.Ref == a1.Ref else false)).bind fun b1 =>
 (some (if b1 = true then a0.Amount == a1.Amount else false)).bind fun b2 =>
 (some (if b2 = true then a0.Counter == a1.Counter else false)).bind fun b3 =>
 (some (if b3 = true then a0.Zone == a1.Zone else false)).bind fun b4 =>
 (some (if b4 = true then a0.Card == a1.Card else false)).bind fun b5 =>
 (some (if b5 = true then a0.Filter == a1.Filter else false)).bind fun b6 =>
 (some (if b6 = true then a0.Pool == a1.Pool else false)).bind fun b7 =>
 (gd (b7 == true) (r17_SameMods a0.Mods a1.Mods)).bind fun r8 =>
 (some (if b7 = true then r8 else false)).bind fun b9 =>
 some b9
def r17_Same_C (a0 : SEffect) (a1 : SEffect) (r : Bool) : Prop := PCall Tryz.prog I0 188 [vA encSEffect a0, vA encSEffect a1] (· = vB r)
theorem r17_Same_ok {a0 : SEffect} {a1 : SEffect} {r : Bool} (h : r17_Same a0 a1 = some r) : r17_Same_C a0 a1 r := by
 refine PCall.body I0_stable (by kernel_rfl) Tryz.func188 rfl Tryz.ntmps188 (rs := [.tmp 4]) rfl rfl ?_
 intro w0 av old gv
 unfold r17_Same at h
 refine Rg [.a, .a, .a] (sl 66 [(2, vP [2] (0)), (3, vP [3] (0))] [bx [3] (encSEffect a1), bx [2] (encSEffect a0)]) (aN) ?_
 obtain ⟨b1, hb1, h⟩ := bS h
 obtain ⟨b2, hb2, h⟩ := bS h
 obtain ⟨b3, hb3, h⟩ := bS h
 obtain ⟨b4, hb4, h⟩ := bS h
 obtain ⟨b5, hb5, h⟩ := bS h
 obtain ⟨b6, hb6, h⟩ := bS h
 obtain ⟨b7, hb7, h⟩ := bS h
 obtain ⟨r8, hr8, h⟩ := bS h
 obtain ⟨b9, hb9, h⟩ := bS h
 refine Rg [.a, .a, .a, .a, .a, .a, .a, .a, .a, .a, (.v (vB (a0.Ref == a1.Ref))), (.v (vB b1)), .a, .a, .a, .a, .a, (.v (vB (a0.Amount == a1.Amount))), (.v (vB b2)), .a, .a, .a, .a, .a, .a, (.v (vB b3)), .a, .a, .a, .a, .a, .a, (.v (vB b4)), .a, .a, .a, .a, .a, .a, (.v (vB b5)), .a, .a, .a, .a, .a, (.v (vB (a0.Filter == a1.Filter))), (.v (vB b6)), .a, .a, .a, .a, .a, (.v (vB (a0.Pool == a1.Pool))), (.v (vB b7)), .a, .a, .a, .a, .a, (.c (vB r8)), (.v (vB b9)), .a] (sl 66 [(4, vB b9)] []) (aG ((a0.Op == a1.Op) == true) <| aG ((a0.Op == a1.Op) == true) <| aC (fun hg : ((a0.Op == a1.Op) == true) = true => aC (gi ((a0.Op == a1.Op) == true)) <| aC (gi ((a0.Op == a1.Op) == true)) <| aC (congrArg (fun z => V.c (.bool (z))) (eqT136 a0.Ref a1.Ref)) <| aN) <| aT (a0.Op == a1.Op) <| aB hb1 <| aG (b1 == true) <| aG (b1 == true) <| aC (fun hg : (b1 == true) = true => aC (gi (b1 == true)) <| aC (gi (b1 == true)) <| aC (congrArg (fun z => V.c (.bool (z))) (eqT138 a0.Amount a1.Amount)) <| aN) <| aT b1 <| aB hb2 <| aG (b2 == true) <| aG (b2 == true) <| aH (b2 == true) <| aT b2 <| aB hb3 <| aG (b3 == true) <| aG (b3 == true) <| aH (b3 == true) <| aT b3 <| aB hb4 <| aG (b4 == true) <| aG (b4 == true) <| aH (b4 == true) <| aT b4 <| aB hb5 <| aG (b5 == true) <| aG (b5 == true) <| aC (fun hg : (b5 == true) = true => aC (gi (b5 == true)) <| aC (gi (b5 == true)) <| aC (congrArg (fun z => V.c (.bool (z))) (eqT62 a0.Filter a1.Filter)) <| aN) <| aT b5 <| aB hb6 <| aG (b6 == true) <| aG (b6 == true) <| aC (fun hg : (b6 == true) = true => aC (gi (b6 == true)) <| aC (gi (b6 == true)) <| aC (congrArg (fun z => V.c (.bool (z))) (eqT47 a0.Pool a1.Pool)) <| aN) <| aT b6 <| aB hb7 <| aG (b7 == true) <| aG (b7 == true) <| aC (c2 hr8 r17_SameMods_ok) <| aT b7 <| aB hb9 <| aN) ?_
 refine Holds.ret ?_
 exact bQ (vB b9) (congrArg vB (sI h))
/-- cardgame/cardgameref26.SameCont -/
def r26_SameCont (a0 : SCont) (a1 : SCont) : Option (Bool) :=
 (some (if (a0.Stamp == a1.Stamp) = true then a0.Control == a1.Control else false)).bind fun b1 =>
 (some (if b1 = true then a0.Source == a1.Source else false)).bind fun b2 =>
 (some (if b2 = true then a0.Until == a1.Until else false)).bind fun b3 =>
 (gd (b3 == true) (r03_Same a0.Objects a1.Objects)).bind fun r4 =>
 (some (if b3 = true then r4 else false)).bind fun b5 =>
 (gd (b5 == true) (r26_SameMods a0.Mods a1.Mods)).bind fun r6 =>
 (some (if b5 = true then r6 else false)).bind fun b7 =>
 some b7
def r26_SameCont_C (a0 : SCont) (a1 : SCont) (r : Bool) : Prop := PCall Tryz.prog I0 57 [vA encSCont a0, vA encSCont a1] (· = vB r)
theorem r26_SameCont_ok {a0 : SCont} {a1 : SCont} {r : Bool} (h : r26_SameCont a0 a1 = some r) : r26_SameCont_C a0 a1 r := by
 refine PCall.body I0_stable (by kernel_rfl) Tryz.func57 rfl Tryz.ntmps57 (rs := [.tmp 4]) rfl rfl ?_
 intro w0 av old gv
 unfold r26_SameCont at h
 refine Rg [.a, .a, .a] (sl 45 [(2, vP [2] (0)), (3, vP [3] (0))] [bx [3] (encSCont a1), bx [2] (encSCont a0)]) (aN) ?_
 obtain ⟨b1, hb1, h⟩ := bS h
 obtain ⟨b2, hb2, h⟩ := bS h
 obtain ⟨b3, hb3, h⟩ := bS h
 obtain ⟨r4, hr4, h⟩ := bS h
 obtain ⟨b5, hb5, h⟩ := bS h
 obtain ⟨r6, hr6, h⟩ := bS h
 obtain ⟨b7, hb7, h⟩ := bS h
 refine Rg [.a, .a, .a, .a, .a, .a, .a, .a, .a, .a, .a, (.v (vB b1)), .a, .a, .a, .a, .a, .a, (.v (vB b2)), .a, .a, .a, .a, .a, .a, (.v (vB b3)), .a, .a, .a, .a, .a, (.c (vB r4)), (.v (vB b5)), .a, .a, .a, .a, .a, (.c (vB r6)), (.v (vB b7)), .a] (sl 45 [(4, vB b7)] []) (aG ((a0.Stamp == a1.Stamp) == true) <| aG ((a0.Stamp == a1.Stamp) == true) <| aH ((a0.Stamp == a1.Stamp) == true) <| aT (a0.Stamp == a1.Stamp) <| aB hb1 <| aG (b1 == true) <| aG (b1 == true) <| aH (b1 == true) <| aT b1 <| aB hb2 <| aG (b2 == true) <| aG (b2 == true) <| aH (b2 == true) <| aT b2 <| aB hb3 <| aG (b3 == true) <| aG (b3 == true) <| aC (c2 hr4 r03_Same_ok) <| aT b3 <| aB hb5 <| aG (b5 == true) <| aG (b5 == true) <| aC (c2 hr6 r26_SameMods_ok) <| aT b5 <| aB hb7 <| aN) ?_
 refine Holds.ret ?_
 exact bQ (vB b7) (congrArg vB (sI h))
/-- cardgame/cardgameref26.player -/
def r26_player (a0 : SState) (a1 : Int) : Option (Bool) :=
 (r26_in a1 (0 : Int) (wrap64 ((a0.Players.length : Int) - (1 : Int)))).bind fun r1 =>
 some r1
def r26_player_C (a0 : SState) (a1 : Int) (r : Bool) : Prop := PCall Tryz.prog I0 36 [vA encSState a0, vI a1] (· = vB r)
theorem r26_player_ok {a0 : SState} {a1 : Int} {r : Bool} (h : r26_player a0 a1 = some r) : r26_player_C a0 a1 r := by
 refine PCall.body I0_stable (by kernel_rfl) Tryz.func36 rfl Tryz.ntmps36 (rs := [.tmp 4]) rfl rfl ?_
 intro w0 av old gv
 unfold r26_player at h
 refine Rg [.a, .a] (sl 11 [(1, vI a1), (2, vP [2] (0))] [bx [2] (encSState a0)]) (aN) ?_
 obtain ⟨r1, hr1, h⟩ := bS h
 refine Rg [.a, .a, .a, .a, .a, (.c (vB r1)), .a] (sl 11 [(4, vB r1)] []) (aC (r26_in_ok hr1) <| aN) ?_
 refine Holds.ret ?_
 exact bQ (vB r1) (congrArg vB (sI h))
/-- cardgame/cardgameref25.Find -/
def r25_Find (a0 : SState) (a1 : Int) : Option (SObject × Bool) :=
 (r25_place a0 a1).bind fun r1 =>
 (if (decide (r1 < (0 : Int))) = true then
  some ((⟨(0 : Int), (0 : Int), (0 : Int), (0 : Int), (0 : Int), false, false, false, false, (0 : Int), (⟨(0 : Int), (0 : Int), (0 : Int)⟩ : A3 (Int)), (0 : Int), (0 : Int), (0 : Int), false, (0 : Int), (0 : Int)⟩ : SObject), false)
 else
  (idx a0.Objects r1).bind fun e3 =>
  some (e3, true))
def r25_Find_C (a0 : SState) (a1 : Int) (r : SObject × Bool) : Prop := PCall Tryz.prog I0 167 [vA encSState a0, vI a1] (· = .tup [vA encSObject r.1, vB r.2])
theorem r25_Find_ok {a0 : SState} {a1 : Int} {r : SObject × Bool} (h : r25_Find a0 a1 = some r) : r25_Find_C a0 a1 r := by
 refine PCall.body I0_stable (by kernel_rfl) Tryz.func167 rfl Tryz.ntmps167 (rs := [.cell 4 56, .tmp 5]) rfl rfl ?_
 intro w0 av old gv
 unfold r25_Find at h
 refine Rg [.a, .a, .a] (sl 18 [(1, vI a1), (2, vP [2] (0)), (4, vP [4] (0))] [bx [4] [.int .i64 (0 : Int), .int .i64 (0 : Int), .int .i64 (0 : Int), .int .i64 (0 : Int), .int .i64 (0 : Int), .bool false, .bool false, .bool false, .bool false, .int .i64 (0 : Int), .int .i64 (((⟨(0 : Int), (0 : Int), (0 : Int)⟩ : A3 (Int))).x0), .int .i64 (((⟨(0 : Int), (0 : Int), (0 : Int)⟩ : A3 (Int))).x1), .int .i64 (((⟨(0 : Int), (0 : Int), (0 : Int)⟩ : A3 (Int))).x2), .int .i64 (0 : Int), .int .i64 (0 : Int), .int .i64 (0 : Int), .bool false, .int .i64 (0 : Int), .int .i64 (0 : Int)], bx [2] (encSState a0)]) (aN) ?_
 obtain ⟨r1, hr1, h⟩ := bS h
 refine Rg [.a, .a, (.c (vI r1)), .a] (sl 18 [(2, vP [2] (0)), (4, vP [4] (0)), (6, vI r1)] [bx [4] [.int .i64 (0 : Int), .int .i64 (0 : Int), .int .i64 (0 : Int), .int .i64 (0 : Int), .int .i64 (0 : Int), .bool false, .bool false, .bool false, .bool false, .int .i64 (0 : Int), .int .i64 (((⟨(0 : Int), (0 : Int), (0 : Int)⟩ : A3 (Int))).x0), .int .i64 (((⟨(0 : Int), (0 : Int), (0 : Int)⟩ : A3 (Int))).x1), .int .i64 (((⟨(0 : Int), (0 : Int), (0 : Int)⟩ : A3 (Int))).x2), .int .i64 (0 : Int), .int .i64 (0 : Int), .int .i64 (0 : Int), .bool false, .int .i64 (0 : Int), .int .i64 (0 : Int)], bx [2] (encSState a0)]) (aC (r25_place_ok hr1) <| aN) ?_
 refine Holds.seq ?_
 refine Rg [.a, .a] (sl 18 [(2, vP [2] (0)), (4, vP [4] (0)), (6, vI r1), (11, vB (decide (r1 < (0 : Int))))] [bx [4] [.int .i64 (0 : Int), .int .i64 (0 : Int), .int .i64 (0 : Int), .int .i64 (0 : Int), .int .i64 (0 : Int), .bool false, .bool false, .bool false, .bool false, .int .i64 (0 : Int), .int .i64 (((⟨(0 : Int), (0 : Int), (0 : Int)⟩ : A3 (Int))).x0), .int .i64 (((⟨(0 : Int), (0 : Int), (0 : Int)⟩ : A3 (Int))).x1), .int .i64 (((⟨(0 : Int), (0 : Int), (0 : Int)⟩ : A3 (Int))).x2), .int .i64 (0 : Int), .int .i64 (0 : Int), .int .i64 (0 : Int), .bool false, .int .i64 (0 : Int), .int .i64 (0 : Int)], bx [2] (encSState a0)]) (aN) ?_
 refine iB h (fun b2 h => ?_) (fun b2 h => ?_)
 · refine Rg [.a, .a, .a] (sl 18 [(4, vP [4] (0)), (5, vB false)] [bx [4] [.int .i64 (0 : Int), .int .i64 (0 : Int), .int .i64 (0 : Int), .int .i64 (0 : Int), .int .i64 (0 : Int), .bool false, .bool false, .bool false, .bool false, .int .i64 (0 : Int), .int .i64 (((⟨(0 : Int), (0 : Int), (0 : Int)⟩ : A3 (Int))).x0), .int .i64 (((⟨(0 : Int), (0 : Int), (0 : Int)⟩ : A3 (Int))).x1), .int .i64 (((⟨(0 : Int), (0 : Int), (0 : Int)⟩ : A3 (Int))).x2), .int .i64 (0 : Int), .int .i64 (0 : Int), .int .i64 (0 : Int), .bool false, .int .i64 (0 : Int), .int .i64 (0 : Int)]]) (aC (And.intro trivial okp56) <| aN) ?_
   refine Holds.ret ?_
   refine Tr ?_
   exact bE (.tup [.agg [.int .i64 (0 : Int), .int .i64 (0 : Int), .int .i64 (0 : Int), .int .i64 (0 : Int), .int .i64 (0 : Int), .bool false, .bool false, .bool false, .bool false, .int .i64 (0 : Int), .int .i64 (((⟨(0 : Int), (0 : Int), (0 : Int)⟩ : A3 (Int))).x0), .int .i64 (((⟨(0 : Int), (0 : Int), (0 : Int)⟩ : A3 (Int))).x1), .int .i64 (((⟨(0 : Int), (0 : Int), (0 : Int)⟩ : A3 (Int))).x2), .int .i64 (0 : Int), .int .i64 (0 : Int), .int .i64 (0 : Int), .bool false, .int .i64 (0 : Int), .int .i64 (0 : Int)], vB false]) (.tup [.agg (encSObject (⟨(0 : Int), (0 : Int), (0 : Int), (0 : Int), (0 : Int), false, false, false, false, (0 : Int), (⟨(0 : Int), (0 : Int), (0 : Int)⟩ : A3 (Int)), (0 : Int), (0 : Int), (0 : Int), false, (0 : Int), (0 : Int)⟩ : SObject)), vB false]) (congrArg (fun (q : SObject × Bool) => (.tup [vA encSObject q.1, vB q.2] : V)) (sI h))
 · refine Holds.skip ?_
   refine Tn ?_
   obtain ⟨e3, he3, h⟩ := bS h
   refine Rg [.a, .a, .a, .a, (.v (vA encSObject e3)), .a, .a] (sl 18 [(4, vP [4] (0)), (5, vB true)] [bx [4] (encSObject e3)]) (aC (idx_b he3) <| aC (eld he3 lenSObject 0 19 true (vA encSObject e3)) <| aC (Eq.refl (vA encSObject e3)) <| aN) ?_
   refine Holds.ret ?_
   exact bE (.tup [vA encSObject e3, vB true]) (.tup [.agg (encSObject e3), vB true]) (congrArg (fun (q : SObject × Bool) => (.tup [vA encSObject q.1, vB q.2] : V)) (sI h))
end Go.PL
