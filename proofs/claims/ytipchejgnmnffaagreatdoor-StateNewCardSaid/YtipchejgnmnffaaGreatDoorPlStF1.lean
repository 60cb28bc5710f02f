/- Functions of the program, as partial functions in Lean, with proofs. -/
import Derived.Test.YtipchejgnmnffaaGreatDoorPlStB
namespace Go.PL
open Go Go.RowKit Go.Proofs
set_option maxRecDepth 100000
set_option linter.all false
set_option maxHeartbeats 1000000
attribute [local irreducible] Holds thenQ blockQ
def state_effects_J2 (a0 : SState) : Option (Bool) :=
 (some (if (decide ((a0.Waiting.length : Int) ≤ (64 : Int))) = true then decide ((a0.Conts.length : Int) ≤ (64 : Int)) else false)).bind fun b3 =>
 some b3
def state_effects_B4 (a0 : SState) : Option ((Unit) ⊕ (Unit)) :=
 (if (decide ((0 : Int) < (a0.Conts.length : Int))) = true then
  (idx a0.Conts (0 : Int)).bind fun e6 =>
  none
 else
  some (.inr ()))
def state_effects_J1 (a0 : SState) : Option (Bool) :=
 (iter (fun (v : Unit) => state_effects_B4 a0) FU ()).bind (fun o0 => state_effects_J2 a0)
def state_effects_B10 (a0 : SState) : Option ((Unit) ⊕ (Unit)) :=
 (if (decide ((0 : Int) < (a0.Waiting.length : Int))) = true then
  (idx a0.Waiting (0 : Int)).bind fun e12 =>
  none
 else
  some (.inr ()))
/-- cardgame/state.effects -/
def state_effects (a0 : SState) : Option (Bool) :=
 (iter (fun (v : Unit) => state_effects_B10 a0) FU ()).bind (fun o0 => state_effects_J1 a0)
def state_effects_C (a0 : SState) (r : Bool) : Prop := PCall Tryz.prog I0 32 [vA encSState a0] (· = vB r)
theorem state_effects_ok {a0 : SState} {r : Bool} (h : state_effects a0 = some r) : state_effects_C a0 r := by
 refine PCall.body I0_stable (by kernel_rfl) Tryz.func32 rfl Tryz.ntmps32 (rs := [.tmp 2]) rfl rfl ?_
 intro w0 av old gv
 unfold state_effects at h
 refine Rg [.a, .a] (sl 90 [(1, vP [1] (0))] [bx [1] (encSState a0)]) (aN) ?_
 refine Sj (X := Unit) (fun v => (sl 90 [(1, vP [1] (0))] [bx [1] (encSState a0)])) (fun v => state_effects_J1 a0 = some r) ?_ ?_
 · refine Rg [.a, .a, .a, .a] (sl 90 [(1, vP [1] (0)), (8, vL encSWaiting a0.Waiting), (9, vI (a0.Waiting.length : Int)), (10, vI (0 : Int))] [bx [1] (encSState a0)]) (aN) ?_
   refine Holds.block ?_
   obtain ⟨oB10, hiB10, h⟩ := bS h
   refine It (fun (v : Unit) => (sl 90 [(1, vP [1] (0)), (8, vL encSWaiting a0.Waiting), (9, vI (a0.Waiting.length : Int)), (10, vI (0 : Int))] [bx [1] (encSState a0)])) hiB10 (wT) ?_
   rintro _ zB10 hzB10 hoB10
   replace hzB10 : state_effects_B10 a0 = some zB10 := hzB10
   unfold state_effects_B10 at hzB10
   refine Rg [.a] (sl 90 [(1, vP [1] (0)), (8, vL encSWaiting a0.Waiting), (9, vI (a0.Waiting.length : Int)), (10, vI (0 : Int)), (11, vB (decide ((0 : Int) < (a0.Waiting.length : Int))))] [bx [1] (encSState a0)]) (aN) ?_
   refine Holds.seq ?_
   refine iB hzB10 (fun b11 hzB10 => ?_) (fun b11 hzB10 => ?_)
   · refine Holds.skip ?_
     refine Tn ?_
     refine Holds.seq ?_
     refine Holds.block ?_
     obtain ⟨e12, he12, hzB10⟩ := bS hzB10
     refine Rg [.a, (.v (vA encSWaiting e12)), .a, .a] (sl 90 [(1, vP [1] (0)), (4, vP [4] (0)), (8, vL encSWaiting a0.Waiting), (9, vI (a0.Waiting.length : Int)), (10, vI (0 : Int))] [bx [4] (encSWaiting e12), bx [1] (encSState a0)]) (aC (idx_b he12) <| aC (eld he12 lenSWaiting 0 89 true (vA encSWaiting e12)) <| aC (Eq.refl (vA encSWaiting e12)) <| aN) ?_
     cases hzB10
   · refine Holds.exit ?_
     refine thenQ.exit ?_
     have hoB10_ := hoB10 _ (sI hzB10).symm
     subst hoB10_
     refine thenQ.exit ?_
     refine blockQ.out ?_
     refine Tn ⟨(), h, wT⟩
 · rintro _ hJ1
   replace hJ1 : state_effects_J1 a0 = some r := hJ1
   unfold state_effects_J1 at hJ1
   refine Sj (X := Unit) (fun v => (sl 90 [(1, vP [1] (0))] [bx [1] (encSState a0)])) (fun v => state_effects_J2 a0 = some r) ?_ ?_
   · refine Rg [.a, .a, .a, .a] (sl 90 [(1, vP [1] (0)), (36, vL encSCont a0.Conts), (37, vI (a0.Conts.length : Int)), (38, vI (0 : Int))] [bx [1] (encSState a0)]) (aN) ?_
     refine Holds.block ?_
     obtain ⟨oB4, hiB4, hJ1⟩ := bS hJ1
     refine It (fun (v : Unit) => (sl 90 [(1, vP [1] (0)), (36, vL encSCont a0.Conts), (37, vI (a0.Conts.length : Int)), (38, vI (0 : Int))] [bx [1] (encSState a0)])) hiB4 (wT) ?_
     rintro _ zB4 hzB4 hoB4
     replace hzB4 : state_effects_B4 a0 = some zB4 := hzB4
     unfold state_effects_B4 at hzB4
     refine Rg [.a] (sl 90 [(1, vP [1] (0)), (36, vL encSCont a0.Conts), (37, vI (a0.Conts.length : Int)), (38, vI (0 : Int)), (39, vB (decide ((0 : Int) < (a0.Conts.length : Int))))] [bx [1] (encSState a0)]) (aN) ?_
     refine Holds.seq ?_
     refine iB hzB4 (fun b5 hzB4 => ?_) (fun b5 hzB4 => ?_)
     · refine Holds.skip ?_
       refine Tn ?_
       refine Holds.seq ?_
       refine Holds.block ?_
       obtain ⟨e6, he6, hzB4⟩ := bS hzB4
       refine Rg [.a, (.v (vA encSCont e6)), .a, .a] (sl 90 [(1, vP [1] (0)), (6, vP [6] (0)), (36, vL encSCont a0.Conts), (37, vI (a0.Conts.length : Int)), (38, vI (0 : Int))] [bx [6] (encSCont e6), bx [1] (encSState a0)]) (aC (idx_b he6) <| aC (eld he6 lenSCont 0 6 true (vA encSCont e6)) <| aC (Eq.refl (vA encSCont e6)) <| aN) ?_
       cases hzB4
     · refine Holds.exit ?_
       refine thenQ.exit ?_
       have hoB4_ := hoB4 _ (sI hzB4).symm
       subst hoB4_
       refine thenQ.exit ?_
       refine blockQ.out ?_
       refine Tn ⟨(), hJ1, wT⟩
   · rintro _ hJ2
     replace hJ2 : state_effects_J2 a0 = some r := hJ2
     unfold state_effects_J2 at hJ2
     obtain ⟨b3, hb3, hJ2⟩ := bS hJ2
     refine Rg [.a, .a, .a, .a, .a, .a, .a, .a, .a, (.v (vB b3)), .a] (sl 90 [(2, vB b3)] []) (aG ((decide ((a0.Waiting.length : Int) ≤ (64 : Int))) == true) <| aG ((decide ((a0.Waiting.length : Int) ≤ (64 : Int))) == true) <| aG ((decide ((a0.Waiting.length : Int) ≤ (64 : Int))) == true) <| aT (decide ((a0.Waiting.length : Int) ≤ (64 : Int))) <| aB hb3 <| aN) ?_
     refine Holds.ret ?_
     exact bQ (vB b3) (congrArg vB (sI hJ2))
def slices_Equal_int_int_J2  : Option (Bool) :=
 some true
def slices_Equal_int_int_B5 (a0 : List (Int)) (a1 : List (Int)) (vt13_4 : Int) : Option ((Int) ⊕ (Unit ⊕ Unit)) :=
 (if (decide (vt13_4 < (a0.length : Int))) = true then
  (idx a0 vt13_4).bind fun e7 =>
  (idx a1 vt13_4).bind fun e8 =>
  (if (e7 != e8) = true then
   some (.inr (.inl ()))
  else
   some (.inl (wrap64 (vt13_4 + (1 : Int)))))
 else
  some (.inr (.inr ())))
/-- slices.Equal[[]int,int] -/
def slices_Equal_int_int (a0 : List (Int)) (a1 : List (Int)) : Option (Bool) :=
 (if ((a0.length : Int) != (a1.length : Int)) = true then
  some false
 else
  (iter (fun (v : Int) => slices_Equal_int_int_B5 a0 a1 v) FU (0 : Int)).bind (Sum.elim (fun o0 => some false) (fun o1 => slices_Equal_int_int_J2)))
def slices_Equal_int_int_C (a0 : List (Int)) (a1 : List (Int)) (r : Bool) : Prop := PCall Tryz.prog I0 44 [vL (eI .i64) a0, vL (eI .i64) a1] (· = vB r)
theorem slices_Equal_int_int_ok {a0 : List (Int)} {a1 : List (Int)} {r : Bool} (h : slices_Equal_int_int a0 a1 = some r) : slices_Equal_int_int_C a0 a1 r := by
 refine PCall.body I0_stable (by kernel_rfl) Tryz.func44 rfl Tryz.ntmps44 (rs := [.tmp 4]) rfl rfl ?_
 intro w0 av old gv
 unfold slices_Equal_int_int at h
 refine Rg [.a] (sl 26 [(0, vL (eI .i64) a0), (1, vL (eI .i64) a1)] []) (aN) ?_
 refine Holds.seq ?_
 refine Rg [.a, .a, .a, .a, .a] (sl 26 [(0, vL (eI .i64) a0), (1, vL (eI .i64) a1), (10, vB ((a0.length : Int) != (a1.length : Int)))] []) (aN) ?_
 refine iB h (fun b1 h => ?_) (fun b1 h => ?_)
 · refine Rg [.a] (sl 26 [(4, vB false)] []) (aN) ?_
   refine Holds.ret ?_
   refine Tr ?_
   exact bQ (vB false) (congrArg vB (sI h))
 · refine Holds.skip ?_
   refine Tn ?_
   refine Sj (X := Unit) (fun v => (sl 26 [] [])) (fun v => slices_Equal_int_int_J2 = some r) ?_ ?_
   · refine Rg [.a, .a, .a] (sl 26 [(0, vL (eI .i64) a0), (1, vL (eI .i64) a1), (12, vI (a0.length : Int)), (13, vI (0 : Int))] []) (aN) ?_
     refine Holds.block ?_
     obtain ⟨oB5, hiB5, h⟩ := bS h
     refine It (fun (v : Int) => (sl 26 [(0, vL (eI .i64) a0), (1, vL (eI .i64) a1), (12, vI (a0.length : Int)), (13, vI v)] [])) hiB5 (wT) ?_
     rintro vt13_4 zB5 hzB5 hoB5
     replace hzB5 : slices_Equal_int_int_B5 a0 a1 vt13_4 = some zB5 := hzB5
     unfold slices_Equal_int_int_B5 at hzB5
     refine Rg [.a] (sl 26 [(0, vL (eI .i64) a0), (1, vL (eI .i64) a1), (12, vI (a0.length : Int)), (13, vI vt13_4), (14, vB (decide (vt13_4 < (a0.length : Int))))] []) (aN) ?_
     refine Holds.seq ?_
     refine iB hzB5 (fun b6 hzB5 => ?_) (fun b6 hzB5 => ?_)
     · refine Holds.skip ?_
       refine Tn ?_
       refine Holds.seq ?_
       refine Holds.block ?_
       refine Rg [.a, .a] (sl 26 [(0, vL (eI .i64) a0), (1, vL (eI .i64) a1), (5, vI vt13_4), (12, vI (a0.length : Int)), (13, vI vt13_4)] []) (aN) ?_
       obtain ⟨e7, he7, hzB5⟩ := bS hzB5
       obtain ⟨e8, he8, hzB5⟩ := bS hzB5
       refine Rq followsP [.a, .a, .a, (.v (vI e7)), .a, .a, .a, (.v (vI e8)), .a] (sl 26 [(0, vL (eI .i64) a0), (1, vL (eI .i64) a1), (12, vI (a0.length : Int)), (13, vI vt13_4), (24, vB (e7 != e8))] []) (aC (idx_b he7) <| aC (eld he7 (lenI .i64) 0 1 false (vI e7)) <| aC (Eq.refl (vI e7)) <| aC (idx_b he8) <| aC (eld he8 (lenI .i64) 0 1 false (vI e8)) <| aC (Eq.refl (vI e8)) <| aN) ?_
       refine iB hzB5 (fun b9 hzB5 => ?_) (fun b9 hzB5 => ?_)
       · refine Rg [.a] (sl 26 [(4, vB false)] []) (aN) ?_
         refine Holds.ret ?_
         refine blockQ.ret ?_
         refine Tr ?_
         have hoB5_ := hoB5 _ (sI hzB5).symm
         subst hoB5_
         replace h := sumL h
         refine Tr ?_
         refine blockQ.ret ?_
         refine Tr ?_
         exact bQ (vB false) (congrArg vB (sI h))
       · refine Holds.skip ?_
         refine blockQ.normal ?_
         refine Tn ?_
         refine Re [.a, .a] (sl 26 [(0, vL (eI .i64) a0), (1, vL (eI .i64) a1), (12, vI (a0.length : Int)), (13, vI (wrap64 (vt13_4 + (1 : Int)))), (24, vB (e7 != e8)), (25, vI (wrap64 (vt13_4 + (1 : Int))))] []) (aN) ?_
         refine Tn ⟨(wrap64 (vt13_4 + (1 : Int))), (sI hzB5).symm, wT⟩
     · refine Holds.exit ?_
       refine thenQ.exit ?_
       have hoB5_ := hoB5 _ (sI hzB5).symm
       subst hoB5_
       replace h := sumR h
       refine thenQ.exit ?_
       refine blockQ.out ?_
       refine Tn ⟨(), h, wT⟩
   · rintro _ hJ2
     replace hJ2 : slices_Equal_int_int_J2 = some r := hJ2
     unfold slices_Equal_int_int_J2 at hJ2
     refine Rg [.a] (sl 26 [(4, vB true)] []) (aN) ?_
     refine Holds.ret ?_
     exact bQ (vB true) (congrArg vB (sI hJ2))
def slices_EqualFunc_api_Object_api_Object_api_Object_api_Object_state_equal_api_Object_J2  : Option (Bool) :=
 some true
def slices_EqualFunc_api_Object_api_Object_api_Object_api_Object_state_equal_api_Object_B5 (a0 : List (SObject)) (a1 : List (SObject)) (vt17_4 : Int) : Option ((Int) ⊕ (Unit ⊕ Unit)) :=
 (if (decide (vt17_4 < (a0.length : Int))) = true then
  (idx a0 vt17_4).bind fun e7 =>
  (idx a1 vt17_4).bind fun e8 =>
  (if (!(e7 == e8)) = true then
   some (.inr (.inl ()))
  else
   some (.inl (wrap64 (vt17_4 + (1 : Int)))))
 else
  some (.inr (.inr ())))
/-- slices.EqualFunc[[]cardgame/api.Object,[]cardgame/api.Object,cardgame/api.Object,cardgame/api.Object] -/
def slices_EqualFunc_api_Object_api_Object_api_Object_api_Object_state_equal_api_Object (a0 : List (SObject)) (a1 : List (SObject)) : Option (Bool) :=
 (if ((a0.length : Int) != (a1.length : Int)) = true then
  some false
 else
  (iter (fun (v : Int) => slices_EqualFunc_api_Object_api_Object_api_Object_api_Object_state_equal_api_Object_B5 a0 a1 v) FU (0 : Int)).bind (Sum.elim (fun o0 => some false) (fun o1 => slices_EqualFunc_api_Object_api_Object_api_Object_api_Object_state_equal_api_Object_J2)))
def slices_EqualFunc_api_Object_api_Object_api_Object_api_Object_state_equal_api_Object_C (a0 : List (SObject)) (a1 : List (SObject)) (r : Bool) : Prop := PCall Tryz.prog I0 77 [vL encSObject a0, vL encSObject a1, .c (.fn 43)] (· = vB r)
theorem slices_EqualFunc_api_Object_api_Object_api_Object_api_Object_state_equal_api_Object_ok {a0 : List (SObject)} {a1 : List (SObject)} {r : Bool} (h : slices_EqualFunc_api_Object_api_Object_api_Object_api_Object_state_equal_api_Object a0 a1 = some r) : slices_EqualFunc_api_Object_api_Object_api_Object_api_Object_state_equal_api_Object_C a0 a1 r := by
 refine PCall.body I0_stable (by kernel_rfl) Tryz.func77 rfl Tryz.ntmps77 (rs := [.tmp 6]) rfl rfl ?_
 intro w0 av old gv
 unfold slices_EqualFunc_api_Object_api_Object_api_Object_api_Object_state_equal_api_Object at h
 refine Rg [.a] (sl 32 [(0, vL encSObject a0), (1, vL encSObject a1), (2, .c (.fn 43))] []) (aN) ?_
 refine Holds.seq ?_
 refine Rg [.a, .a, .a, .a, .a] (sl 32 [(0, vL encSObject a0), (1, vL encSObject a1), (2, .c (.fn 43)), (14, vB ((a0.length : Int) != (a1.length : Int)))] []) (aN) ?_
 refine iB h (fun b1 h => ?_) (fun b1 h => ?_)
 · refine Rg [.a] (sl 32 [(6, vB false)] []) (aN) ?_
   refine Holds.ret ?_
   refine Tr ?_
   exact bQ (vB false) (congrArg vB (sI h))
 · refine Holds.skip ?_
   refine Tn ?_
   refine Sj (X := Unit) (fun v => (sl 32 [] [])) (fun v => slices_EqualFunc_api_Object_api_Object_api_Object_api_Object_state_equal_api_Object_J2 = some r) ?_ ?_
   · refine Rg [.a, .a, .a] (sl 32 [(1, vL encSObject a1), (2, .c (.fn 43)), (15, vL encSObject a0), (16, vI (a0.length : Int)), (17, vI (0 : Int))] []) (aN) ?_
     refine Holds.block ?_
     obtain ⟨oB5, hiB5, h⟩ := bS h
     refine It (fun (v : Int) => (sl 32 [(1, vL encSObject a1), (2, .c (.fn 43)), (15, vL encSObject a0), (16, vI (a0.length : Int)), (17, vI v)] [])) hiB5 (wT) ?_
     rintro vt17_4 zB5 hzB5 hoB5
     replace hzB5 : slices_EqualFunc_api_Object_api_Object_api_Object_api_Object_state_equal_api_Object_B5 a0 a1 vt17_4 = some zB5 := hzB5
     unfold slices_EqualFunc_api_Object_api_Object_api_Object_api_Object_state_equal_api_Object_B5 at hzB5
     refine Rg [.a] (sl 32 [(1, vL encSObject a1), (2, .c (.fn 43)), (15, vL encSObject a0), (16, vI (a0.length : Int)), (17, vI vt17_4), (18, vB (decide (vt17_4 < (a0.length : Int))))] []) (aN) ?_
     refine Holds.seq ?_
     refine iB hzB5 (fun b6 hzB5 => ?_) (fun b6 hzB5 => ?_)
     · refine Holds.skip ?_
       refine Tn ?_
       refine Holds.seq ?_
       refine Holds.block ?_
       obtain ⟨e7, he7, hzB5⟩ := bS hzB5
       refine Rg [.a, .a, (.v (vA encSObject e7)), .a, .a, .a] (sl 32 [(1, vL encSObject a1), (2, .c (.fn 43)), (7, vI vt17_4), (8, vP [8] (0)), (15, vL encSObject a0), (16, vI (a0.length : Int)), (17, vI vt17_4)] [bx [8] (encSObject e7)]) (aC (idx_b he7) <| aC (eld he7 lenSObject 0 19 true (vA encSObject e7)) <| aC (Eq.refl (vA encSObject e7)) <| aN) ?_
       obtain ⟨e8, he8, hzB5⟩ := bS hzB5
       refine Rg [.a, .a, .a, (.v (vA encSObject e8)), .a, .a] (sl 32 [(1, vL encSObject a1), (2, .c (.fn 43)), (8, vP [8] (0)), (9, vP [9] (0)), (15, vL encSObject a0), (16, vI (a0.length : Int)), (17, vI vt17_4)] [bx [9] (encSObject e8), bx [8] (encSObject e7)]) (aC (idx_b he8) <| aC (eld he8 lenSObject 0 19 true (vA encSObject e8)) <| aC (Eq.refl (vA encSObject e8)) <| aN) ?_
       refine Holds.seq ?_
       refine Holds.region ?_
       refine Rp 3 [.a, .a, .a] (sl 32 [(1, vL encSObject a1), (2, .c (.fn 43)), (8, vP [8] (0)), (9, vP [9] (0)), (15, vL encSObject a0), (16, vI (a0.length : Int)), (17, vI vt17_4), (26, .c (.fn 43)), (27, vA encSObject e7), (28, vA encSObject e8)] [bx [9] (encSObject e8), bx [8] (encSObject e7)]) (aN) ?_
       refine Run.inl rfl rfl (Esc.inline (s := True ∧ (True ∧ True)) (vs := [vA encSObject e7, vA encSObject e8]) (cs := []) 29 rfl rfl rfl (by kernel_rfl) ⟨trivial, ⟨trivial, trivial⟩⟩ (by kernel_rfl) (by kernel_rfl) Tryz.func43 rfl Tryz.ntmps43 (rs := [.tmp 4]) rfl ?_)
       intro w08 av8 old8 gv8
       refine At (sg 8 [(0, vA encSObject e7), (1, vA encSObject e8)] [bx [9] (encSObject e8), bx [8] (encSObject e7)] 32 [(1, vL encSObject a1), (2, .c (.fn 43)), (8, vP [8] (0)), (9, vP [9] (0)), (15, vL encSObject a0), (16, vI (a0.length : Int)), (17, vI vt17_4), (26, .c (.fn 43)), (27, vA encSObject e7), (28, vA encSObject e8)] [29]) ?_
       refine Rg [.a, .a, .a] (sg 8 [(2, vP [2, 29] (0)), (3, vP [3, 29] (0))] [bx [3, 29] (encSObject e8), bx [2, 29] (encSObject e7), bx [9] (encSObject e8), bx [8] (encSObject e7)] 32 [(1, vL encSObject a1), (2, .c (.fn 43)), (8, vP [8] (0)), (9, vP [9] (0)), (15, vL encSObject a0), (16, vI (a0.length : Int)), (17, vI vt17_4), (26, .c (.fn 43)), (27, vA encSObject e7), (28, vA encSObject e8)] [29]) (aN) ?_
       refine Rg [.a, .a, (.v (vB (e7 == e8))), .a] (sg 8 [(4, vB (e7 == e8))] [bx [9] (encSObject e8), bx [8] (encSObject e7)] 32 [(1, vL encSObject a1), (2, .c (.fn 43)), (8, vP [8] (0)), (9, vP [9] (0)), (15, vL encSObject a0), (16, vI (a0.length : Int)), (17, vI vt17_4), (26, .c (.fn 43)), (27, vA encSObject e7), (28, vA encSObject e8)] [29]) (aC (congrArg (fun z => V.c (.bool (z))) (eqT56 e7 e8)) <| aN) ?_
       refine Holds.ret ?_
       refine inQ.ret (v := vB (e7 == e8)) (by kernel_rfl) ?_
       refine Rw [.a] (sl 32 [(1, vL encSObject a1), (2, .c (.fn 43)), (8, vP [8] (0)), (9, vP [9] (0)), (15, vL encSObject a0), (16, vI (a0.length : Int)), (17, vI vt17_4), (26, .c (.fn 43)), (27, vA encSObject e7), (28, vA encSObject e8), (29, vB (e7 == e8)), (30, vB (!(e7 == e8)))] [bx [9] (encSObject e8), bx [8] (encSObject e7)]) (aN) ?_
       refine Tn ?_
       refine iB hzB5 (fun b9 hzB5 => ?_) (fun b9 hzB5 => ?_)
       · refine Rg [.a] (sl 32 [(6, vB false)] []) (aN) ?_
         refine Holds.ret ?_
         refine blockQ.ret ?_
         refine Tr ?_
         have hoB5_ := hoB5 _ (sI hzB5).symm
         subst hoB5_
         replace h := sumL h
         refine Tr ?_
         refine blockQ.ret ?_
         refine Tr ?_
         exact bQ (vB false) (congrArg vB (sI h))
       · refine Holds.skip ?_
         refine blockQ.normal ?_
         refine Tn ?_
         refine Re [.a, .a] (sl 32 [(1, vL encSObject a1), (2, .c (.fn 43)), (8, vP [8] (0)), (9, vP [9] (0)), (15, vL encSObject a0), (16, vI (a0.length : Int)), (17, vI (wrap64 (vt17_4 + (1 : Int)))), (26, .c (.fn 43)), (27, vA encSObject e7), (28, vA encSObject e8), (29, vB (e7 == e8)), (30, vB (!(e7 == e8))), (31, vI (wrap64 (vt17_4 + (1 : Int))))] [bx [9] (encSObject e8), bx [8] (encSObject e7)]) (aN) ?_
         refine Tn ⟨(wrap64 (vt17_4 + (1 : Int))), (sI hzB5).symm, wT⟩
     · refine Holds.exit ?_
       refine thenQ.exit ?_
       have hoB5_ := hoB5 _ (sI hzB5).symm
       subst hoB5_
       replace h := sumR h
       refine thenQ.exit ?_
       refine blockQ.out ?_
       refine Tn ⟨(), h, wT⟩
   · rintro _ hJ2
     replace hJ2 : slices_EqualFunc_api_Object_api_Object_api_Object_api_Object_state_equal_api_Object_J2 = some r := hJ2
     unfold slices_EqualFunc_api_Object_api_Object_api_Object_api_Object_state_equal_api_Object_J2 at hJ2
     refine Rg [.a] (sl 32 [(6, vB true)] []) (aN) ?_
     refine Holds.ret ?_
     exact bQ (vB true) (congrArg vB (sI hJ2))
def slices_EqualFunc_api_Mod_api_Mod_api_Mod_api_Mod_state_equal_api_Mod_J2  : Option (Bool) :=
 some true
def slices_EqualFunc_api_Mod_api_Mod_api_Mod_api_Mod_state_equal_api_Mod_B5 (a0 : List (SMod)) (a1 : List (SMod)) (vt17_4 : Int) : Option ((Int) ⊕ (Unit ⊕ Unit)) :=
 (if (decide (vt17_4 < (a0.length : Int))) = true then
  (idx a0 vt17_4).bind fun e7 =>
  (idx a1 vt17_4).bind fun e8 =>
  (if (!(e7 == e8)) = true then
   some (.inr (.inl ()))
  else
   some (.inl (wrap64 (vt17_4 + (1 : Int)))))
 else
  some (.inr (.inr ())))
/-- slices.EqualFunc[[]cardgame/api.Mod,[]cardgame/api.Mod,cardgame/api.Mod,cardgame/api.Mod] -/
def slices_EqualFunc_api_Mod_api_Mod_api_Mod_api_Mod_state_equal_api_Mod (a0 : List (SMod)) (a1 : List (SMod)) : Option (Bool) :=
 (if ((a0.length : Int) != (a1.length : Int)) = true then
  some false
 else
  (iter (fun (v : Int) => slices_EqualFunc_api_Mod_api_Mod_api_Mod_api_Mod_state_equal_api_Mod_B5 a0 a1 v) FU (0 : Int)).bind (Sum.elim (fun o0 => some false) (fun o1 => slices_EqualFunc_api_Mod_api_Mod_api_Mod_api_Mod_state_equal_api_Mod_J2)))
def slices_EqualFunc_api_Mod_api_Mod_api_Mod_api_Mod_state_equal_api_Mod_C (a0 : List (SMod)) (a1 : List (SMod)) (r : Bool) : Prop := PCall Tryz.prog I0 137 [vL encSMod a0, vL encSMod a1, .c (.fn 84)] (· = vB r)
theorem slices_EqualFunc_api_Mod_api_Mod_api_Mod_api_Mod_state_equal_api_Mod_ok {a0 : List (SMod)} {a1 : List (SMod)} {r : Bool} (h : slices_EqualFunc_api_Mod_api_Mod_api_Mod_api_Mod_state_equal_api_Mod a0 a1 = some r) : slices_EqualFunc_api_Mod_api_Mod_api_Mod_api_Mod_state_equal_api_Mod_C a0 a1 r := by
 refine PCall.body I0_stable (by kernel_rfl) Tryz.func137 rfl Tryz.ntmps137 (rs := [.tmp 6]) rfl rfl ?_
 intro w0 av old gv
 unfold slices_EqualFunc_api_Mod_api_Mod_api_Mod_api_Mod_state_equal_api_Mod at h
 refine Rg [.a] (sl 32 [(0, vL encSMod a0), (1, vL encSMod a1), (2, .c (.fn 84))] []) (aN) ?_
 refine Holds.seq ?_
 refine Rg [.a, .a, .a, .a, .a] (sl 32 [(0, vL encSMod a0), (1, vL encSMod a1), (2, .c (.fn 84)), (14, vB ((a0.length : Int) != (a1.length : Int)))] []) (aN) ?_
 refine iB h (fun b1 h => ?_) (fun b1 h => ?_)
 · refine Rg [.a] (sl 32 [(6, vB false)] []) (aN) ?_
   refine Holds.ret ?_
   refine Tr ?_
   exact bQ (vB false) (congrArg vB (sI h))
 · refine Holds.skip ?_
   refine Tn ?_
   refine Sj (X := Unit) (fun v => (sl 32 [] [])) (fun v => slices_EqualFunc_api_Mod_api_Mod_api_Mod_api_Mod_state_equal_api_Mod_J2 = some r) ?_ ?_
   · refine Rg [.a, .a, .a] (sl 32 [(1, vL encSMod a1), (2, .c (.fn 84)), (15, vL encSMod a0), (16, vI (a0.length : Int)), (17, vI (0 : Int))] []) (aN) ?_
     refine Holds.block ?_
     obtain ⟨oB5, hiB5, h⟩ := bS h
     refine It (fun (v : Int) => (sl 32 [(1, vL encSMod a1), (2, .c (.fn 84)), (15, vL encSMod a0), (16, vI (a0.length : Int)), (17, vI v)] [])) hiB5 (wT) ?_
     rintro vt17_4 zB5 hzB5 hoB5
     replace hzB5 : slices_EqualFunc_api_Mod_api_Mod_api_Mod_api_Mod_state_equal_api_Mod_B5 a0 a1 vt17_4 = some zB5 := hzB5
     unfold slices_EqualFunc_api_Mod_api_Mod_api_Mod_api_Mod_state_equal_api_Mod_B5 at hzB5
     refine Rg [.a] (sl 32 [(1, vL encSMod a1), (2, .c (.fn 84)), (15, vL encSMod a0), (16, vI (a0.length : Int)), (17, vI vt17_4), (18, vB (decide (vt17_4 < (a0.length : Int))))] []) (aN) ?_
     refine Holds.seq ?_
     refine iB hzB5 (fun b6 hzB5 => ?_) (fun b6 hzB5 => ?_)
     · refine Holds.skip ?_
       refine Tn ?_
       refine Holds.seq ?_
       refine Holds.block ?_
       obtain ⟨e7, he7, hzB5⟩ := bS hzB5
       refine Rg [.a, .a, (.v (vA encSMod e7)), .a, .a, .a] (sl 32 [(1, vL encSMod a1), (2, .c (.fn 84)), (7, vI vt17_4), (8, vP [8] (0)), (15, vL encSMod a0), (16, vI (a0.length : Int)), (17, vI vt17_4)] [bx [8] (encSMod e7)]) (aC (idx_b he7) <| aC (eld he7 lenSMod 0 20 true (vA encSMod e7)) <| aC (Eq.refl (vA encSMod e7)) <| aN) ?_
       obtain ⟨e8, he8, hzB5⟩ := bS hzB5
       refine Rg [.a, .a, .a, (.v (vA encSMod e8)), .a, .a] (sl 32 [(1, vL encSMod a1), (2, .c (.fn 84)), (8, vP [8] (0)), (9, vP [9] (0)), (15, vL encSMod a0), (16, vI (a0.length : Int)), (17, vI vt17_4)] [bx [9] (encSMod e8), bx [8] (encSMod e7)]) (aC (idx_b he8) <| aC (eld he8 lenSMod 0 20 true (vA encSMod e8)) <| aC (Eq.refl (vA encSMod e8)) <| aN) ?_
       refine Holds.seq ?_
       refine Holds.region ?_
       refine Rp 3 [.a, .a, .a] (sl 32 [(1, vL encSMod a1), (2, .c (.fn 84)), (8, vP [8] (0)), (9, vP [9] (0)), (15, vL encSMod a0), (16, vI (a0.length : Int)), (17, vI vt17_4), (26, .c (.fn 84)), (27, vA encSMod e7), (28, vA encSMod e8)] [bx [9] (encSMod e8), bx [8] (encSMod e7)]) (aN) ?_
       refine Run.inl rfl rfl (Esc.inline (s := True ∧ (True ∧ True)) (vs := [vA encSMod e7, vA encSMod e8]) (cs := []) 29 rfl rfl rfl (by kernel_rfl) ⟨trivial, ⟨trivial, trivial⟩⟩ (by kernel_rfl) (by kernel_rfl) Tryz.func84 rfl Tryz.ntmps84 (rs := [.tmp 4]) rfl ?_)
       intro w08 av8 old8 gv8
       refine At (sg 8 [(0, vA encSMod e7), (1, vA encSMod e8)] [bx [9] (encSMod e8), bx [8] (encSMod e7)] 32 [(1, vL encSMod a1), (2, .c (.fn 84)), (8, vP [8] (0)), (9, vP [9] (0)), (15, vL encSMod a0), (16, vI (a0.length : Int)), (17, vI vt17_4), (26, .c (.fn 84)), (27, vA encSMod e7), (28, vA encSMod e8)] [29]) ?_
       refine Rg [.a, .a, .a] (sg 8 [(2, vP [2, 29] (0)), (3, vP [3, 29] (0))] [bx [3, 29] (encSMod e8), bx [2, 29] (encSMod e7), bx [9] (encSMod e8), bx [8] (encSMod e7)] 32 [(1, vL encSMod a1), (2, .c (.fn 84)), (8, vP [8] (0)), (9, vP [9] (0)), (15, vL encSMod a0), (16, vI (a0.length : Int)), (17, vI vt17_4), (26, .c (.fn 84)), (27, vA encSMod e7), (28, vA encSMod e8)] [29]) (aN) ?_
       refine Rg [.a, .a, (.v (vB (e7 == e8))), .a] (sg 8 [(4, vB (e7 == e8))] [bx [9] (encSMod e8), bx [8] (encSMod e7)] 32 [(1, vL encSMod a1), (2, .c (.fn 84)), (8, vP [8] (0)), (9, vP [9] (0)), (15, vL encSMod a0), (16, vI (a0.length : Int)), (17, vI vt17_4), (26, .c (.fn 84)), (27, vA encSMod e7), (28, vA encSMod e8)] [29]) (aC (congrArg (fun z => V.c (.bool (z))) (eqT111 e7 e8)) <| aN) ?_
       refine Holds.ret ?_
       refine inQ.ret (v := vB (e7 == e8)) (by kernel_rfl) ?_
       refine Rw [.a] (sl 32 [(1, vL encSMod a1), (2, .c (.fn 84)), (8, vP [8] (0)), (9, vP [9] (0)), (15, vL encSMod a0), (16, vI (a0.length : Int)), (17, vI vt17_4), (26, .c (.fn 84)), (27, vA encSMod e7), (28, vA encSMod e8), (29, vB (e7 == e8)), (30, vB (!(e7 == e8)))] [bx [9] (encSMod e8), bx [8] (encSMod e7)]) (aN) ?_
       refine Tn ?_
       refine iB hzB5 (fun b9 hzB5 => ?_) (fun b9 hzB5 => ?_)
       · refine Rg [.a] (sl 32 [(6, vB false)] []) (aN) ?_
         refine Holds.ret ?_
         refine blockQ.ret ?_
         refine Tr ?_
         have hoB5_ := hoB5 _ (sI hzB5).symm
         subst hoB5_
         replace h := sumL h
         refine Tr ?_
         refine blockQ.ret ?_
         refine Tr ?_
         exact bQ (vB false) (congrArg vB (sI h))
       · refine Holds.skip ?_
         refine blockQ.normal ?_
         refine Tn ?_
         refine Re [.a, .a] (sl 32 [(1, vL encSMod a1), (2, .c (.fn 84)), (8, vP [8] (0)), (9, vP [9] (0)), (15, vL encSMod a0), (16, vI (a0.length : Int)), (17, vI (wrap64 (vt17_4 + (1 : Int)))), (26, .c (.fn 84)), (27, vA encSMod e7), (28, vA encSMod e8), (29, vB (e7 == e8)), (30, vB (!(e7 == e8))), (31, vI (wrap64 (vt17_4 + (1 : Int))))] [bx [9] (encSMod e8), bx [8] (encSMod e7)]) (aN) ?_
         refine Tn ⟨(wrap64 (vt17_4 + (1 : Int))), (sI hzB5).symm, wT⟩
     · refine Holds.exit ?_
       refine thenQ.exit ?_
       have hoB5_ := hoB5 _ (sI hzB5).symm
       subst hoB5_
       replace h := sumR h
       refine thenQ.exit ?_
       refine blockQ.out ?_
       refine Tn ⟨(), h, wT⟩
   · rintro _ hJ2
     replace hJ2 : slices_EqualFunc_api_Mod_api_Mod_api_Mod_api_Mod_state_equal_api_Mod_J2 = some r := hJ2
     unfold slices_EqualFunc_api_Mod_api_Mod_api_Mod_api_Mod_state_equal_api_Mod_J2 at hJ2
     refine Rg [.a] (sl 32 [(6, vB true)] []) (aN) ?_
     refine Holds.ret ?_
     exact bQ (vB true) (congrArg vB (sI hJ2))
def slices_EqualFunc_api_Spec_api_Spec_api_Spec_api_Spec_state_equal_api_Spec_J2  : Option (Bool) :=
 some true
def slices_EqualFunc_api_Spec_api_Spec_api_Spec_api_Spec_state_equal_api_Spec_B5 (a0 : List (SSpec)) (a1 : List (SSpec)) (vt17_4 : Int) : Option ((Int) ⊕ (Unit ⊕ Unit)) :=
 (if (decide (vt17_4 < (a0.length : Int))) = true then
  (idx a0 vt17_4).bind fun e7 =>
  (idx a1 vt17_4).bind fun e8 =>
  (if (!(e7 == e8)) = true then
   some (.inr (.inl ()))
  else
   some (.inl (wrap64 (vt17_4 + (1 : Int)))))
 else
  some (.inr (.inr ())))
/-- slices.EqualFunc[[]cardgame/api.Spec,[]cardgame/api.Spec,cardgame/api.Spec,cardgame/api.Spec] -/
def slices_EqualFunc_api_Spec_api_Spec_api_Spec_api_Spec_state_equal_api_Spec (a0 : List (SSpec)) (a1 : List (SSpec)) : Option (Bool) :=
 (if ((a0.length : Int) != (a1.length : Int)) = true then
  some false
 else
  (iter (fun (v : Int) => slices_EqualFunc_api_Spec_api_Spec_api_Spec_api_Spec_state_equal_api_Spec_B5 a0 a1 v) FU (0 : Int)).bind (Sum.elim (fun o0 => some false) (fun o1 => slices_EqualFunc_api_Spec_api_Spec_api_Spec_api_Spec_state_equal_api_Spec_J2)))
def slices_EqualFunc_api_Spec_api_Spec_api_Spec_api_Spec_state_equal_api_Spec_C (a0 : List (SSpec)) (a1 : List (SSpec)) (r : Bool) : Prop := PCall Tryz.prog I0 144 [vL encSSpec a0, vL encSSpec a1, .c (.fn 107)] (· = vB r)
theorem slices_EqualFunc_api_Spec_api_Spec_api_Spec_api_Spec_state_equal_api_Spec_ok {a0 : List (SSpec)} {a1 : List (SSpec)} {r : Bool} (h : slices_EqualFunc_api_Spec_api_Spec_api_Spec_api_Spec_state_equal_api_Spec a0 a1 = some r) : slices_EqualFunc_api_Spec_api_Spec_api_Spec_api_Spec_state_equal_api_Spec_C a0 a1 r := by
 refine PCall.body I0_stable (by kernel_rfl) Tryz.func144 rfl Tryz.ntmps144 (rs := [.tmp 6]) rfl rfl ?_
 intro w0 av old gv
 unfold slices_EqualFunc_api_Spec_api_Spec_api_Spec_api_Spec_state_equal_api_Spec at h
 refine Rg [.a] (sl 32 [(0, vL encSSpec a0), (1, vL encSSpec a1), (2, .c (.fn 107))] []) (aN) ?_
 refine Holds.seq ?_
 refine Rg [.a, .a, .a, .a, .a] (sl 32 [(0, vL encSSpec a0), (1, vL encSSpec a1), (2, .c (.fn 107)), (14, vB ((a0.length : Int) != (a1.length : Int)))] []) (aN) ?_
 refine iB h (fun b1 h => ?_) (fun b1 h => ?_)
 · refine Rg [.a] (sl 32 [(6, vB false)] []) (aN) ?_
   refine Holds.ret ?_
   refine Tr ?_
   exact bQ (vB false) (congrArg vB (sI h))
 · refine Holds.skip ?_
   refine Tn ?_
   refine Sj (X := Unit) (fun v => (sl 32 [] [])) (fun v => slices_EqualFunc_api_Spec_api_Spec_api_Spec_api_Spec_state_equal_api_Spec_J2 = some r) ?_ ?_
   · refine Rg [.a, .a, .a] (sl 32 [(1, vL encSSpec a1), (2, .c (.fn 107)), (15, vL encSSpec a0), (16, vI (a0.length : Int)), (17, vI (0 : Int))] []) (aN) ?_
     refine Holds.block ?_
     obtain ⟨oB5, hiB5, h⟩ := bS h
     refine It (fun (v : Int) => (sl 32 [(1, vL encSSpec a1), (2, .c (.fn 107)), (15, vL encSSpec a0), (16, vI (a0.length : Int)), (17, vI v)] [])) hiB5 (wT) ?_
     rintro vt17_4 zB5 hzB5 hoB5
     replace hzB5 : slices_EqualFunc_api_Spec_api_Spec_api_Spec_api_Spec_state_equal_api_Spec_B5 a0 a1 vt17_4 = some zB5 := hzB5
     unfold slices_EqualFunc_api_Spec_api_Spec_api_Spec_api_Spec_state_equal_api_Spec_B5 at hzB5
     refine Rg [.a] (sl 32 [(1, vL encSSpec a1), (2, .c (.fn 107)), (15, vL encSSpec a0), (16, vI (a0.length : Int)), (17, vI vt17_4), (18, vB (decide (vt17_4 < (a0.length : Int))))] []) (aN) ?_
     refine Holds.seq ?_
     refine iB hzB5 (fun b6 hzB5 => ?_) (fun b6 hzB5 => ?_)
     · refine Holds.skip ?_
       refine Tn ?_
       refine Holds.seq ?_
       refine Holds.block ?_
       obtain ⟨e7, he7, hzB5⟩ := bS hzB5
       refine Rg [.a, .a, (.v (vA encSSpec e7)), .a, .a, .a] (sl 32 [(1, vL encSSpec a1), (2, .c (.fn 107)), (7, vI vt17_4), (8, vP [8] (0)), (15, vL encSSpec a0), (16, vI (a0.length : Int)), (17, vI vt17_4)] [bx [8] (encSSpec e7)]) (aC (idx_b he7) <| aC (eld he7 lenSSpec 0 18 true (vA encSSpec e7)) <| aC (Eq.refl (vA encSSpec e7)) <| aN) ?_
       obtain ⟨e8, he8, hzB5⟩ := bS hzB5
       refine Rg [.a, .a, .a, (.v (vA encSSpec e8)), .a, .a] (sl 32 [(1, vL encSSpec a1), (2, .c (.fn 107)), (8, vP [8] (0)), (9, vP [9] (0)), (15, vL encSSpec a0), (16, vI (a0.length : Int)), (17, vI vt17_4)] [bx [9] (encSSpec e8), bx [8] (encSSpec e7)]) (aC (idx_b he8) <| aC (eld he8 lenSSpec 0 18 true (vA encSSpec e8)) <| aC (Eq.refl (vA encSSpec e8)) <| aN) ?_
       refine Holds.seq ?_
       refine Holds.region ?_
       refine Rp 3 [.a, .a, .a] (sl 32 [(1, vL encSSpec a1), (2, .c (.fn 107)), (8, vP [8] (0)), (9, vP [9] (0)), (15, vL encSSpec a0), (16, vI (a0.length : Int)), (17, vI vt17_4), (26, .c (.fn 107)), (27, vA encSSpec e7), (28, vA encSSpec e8)] [bx [9] (encSSpec e8), bx [8] (encSSpec e7)]) (aN) ?_
       refine Run.inl rfl rfl (Esc.inline (s := True ∧ (True ∧ True)) (vs := [vA encSSpec e7, vA encSSpec e8]) (cs := []) 29 rfl rfl rfl (by kernel_rfl) ⟨trivial, ⟨trivial, trivial⟩⟩ (by kernel_rfl) (by kernel_rfl) Tryz.func107 rfl Tryz.ntmps107 (rs := [.tmp 4]) rfl ?_)
       intro w08 av8 old8 gv8
       refine At (sg 8 [(0, vA encSSpec e7), (1, vA encSSpec e8)] [bx [9] (encSSpec e8), bx [8] (encSSpec e7)] 32 [(1, vL encSSpec a1), (2, .c (.fn 107)), (8, vP [8] (0)), (9, vP [9] (0)), (15, vL encSSpec a0), (16, vI (a0.length : Int)), (17, vI vt17_4), (26, .c (.fn 107)), (27, vA encSSpec e7), (28, vA encSSpec e8)] [29]) ?_
       refine Rg [.a, .a, .a] (sg 8 [(2, vP [2, 29] (0)), (3, vP [3, 29] (0))] [bx [3, 29] (encSSpec e8), bx [2, 29] (encSSpec e7), bx [9] (encSSpec e8), bx [8] (encSSpec e7)] 32 [(1, vL encSSpec a1), (2, .c (.fn 107)), (8, vP [8] (0)), (9, vP [9] (0)), (15, vL encSSpec a0), (16, vI (a0.length : Int)), (17, vI vt17_4), (26, .c (.fn 107)), (27, vA encSSpec e7), (28, vA encSSpec e8)] [29]) (aN) ?_
       refine Rg [.a, .a, (.v (vB (e7 == e8))), .a] (sg 8 [(4, vB (e7 == e8))] [bx [9] (encSSpec e8), bx [8] (encSSpec e7)] 32 [(1, vL encSSpec a1), (2, .c (.fn 107)), (8, vP [8] (0)), (9, vP [9] (0)), (15, vL encSSpec a0), (16, vI (a0.length : Int)), (17, vI vt17_4), (26, .c (.fn 107)), (27, vA encSSpec e7), (28, vA encSSpec e8)] [29]) (aC (congrArg (fun z => V.c (.bool (z))) (eqT132 e7 e8)) <| aN) ?_
       refine Holds.ret ?_
       refine inQ.ret (v := vB (e7 == e8)) (by kernel_rfl) ?_
       refine Rw [.a] (sl 32 [(1, vL encSSpec a1), (2, .c (.fn 107)), (8, vP [8] (0)), (9, vP [9] (0)), (15, vL encSSpec a0), (16, vI (a0.length : Int)), (17, vI vt17_4), (26, .c (.fn 107)), (27, vA encSSpec e7), (28, vA encSSpec e8), (29, vB (e7 == e8)), (30, vB (!(e7 == e8)))] [bx [9] (encSSpec e8), bx [8] (encSSpec e7)]) (aN) ?_
       refine Tn ?_
       refine iB hzB5 (fun b9 hzB5 => ?_) (fun b9 hzB5 => ?_)
       · refine Rg [.a] (sl 32 [(6, vB false)] []) (aN) ?_
         refine Holds.ret ?_
         refine blockQ.ret ?_
         refine Tr ?_
         have hoB5_ := hoB5 _ (sI hzB5).symm
         subst hoB5_
         replace h := sumL h
         refine Tr ?_
         refine blockQ.ret ?_
         refine Tr ?_
         exact bQ (vB false) (congrArg vB (sI h))
       · refine Holds.skip ?_
         refine blockQ.normal ?_
         refine Tn ?_
         refine Re [.a, .a] (sl 32 [(1, vL encSSpec a1), (2, .c (.fn 107)), (8, vP [8] (0)), (9, vP [9] (0)), (15, vL encSSpec a0), (16, vI (a0.length : Int)), (17, vI (wrap64 (vt17_4 + (1 : Int)))), (26, .c (.fn 107)), (27, vA encSSpec e7), (28, vA encSSpec e8), (29, vB (e7 == e8)), (30, vB (!(e7 == e8))), (31, vI (wrap64 (vt17_4 + (1 : Int))))] [bx [9] (encSSpec e8), bx [8] (encSSpec e7)]) (aN) ?_
         refine Tn ⟨(wrap64 (vt17_4 + (1 : Int))), (sI hzB5).symm, wT⟩
     · refine Holds.exit ?_
       refine thenQ.exit ?_
       have hoB5_ := hoB5 _ (sI hzB5).symm
       subst hoB5_
       replace h := sumR h
       refine thenQ.exit ?_
       refine blockQ.out ?_
       refine Tn ⟨(), h, wT⟩
   · rintro _ hJ2
     replace hJ2 : slices_EqualFunc_api_Spec_api_Spec_api_Spec_api_Spec_state_equal_api_Spec_J2 = some r := hJ2
     unfold slices_EqualFunc_api_Spec_api_Spec_api_Spec_api_Spec_state_equal_api_Spec_J2 at hJ2
     refine Rg [.a] (sl 32 [(6, vB true)] []) (aN) ?_
     refine Holds.ret ?_
     exact bQ (vB true) (congrArg vB (sI hJ2))
def slices_EqualFunc_api_Target_api_Target_api_Target_api_Target_state_equal_api_Target_J2  : Option (Bool) :=
 some true
def slices_EqualFunc_api_Target_api_Target_api_Target_api_Target_state_equal_api_Target_B5 (a0 : List (STarget)) (a1 : List (STarget)) (vt17_4 : Int) : Option ((Int) ⊕ (Unit ⊕ Unit)) :=
 (if (decide (vt17_4 < (a0.length : Int))) = true then
  (idx a0 vt17_4).bind fun e7 =>
  (idx a1 vt17_4).bind fun e8 =>
  (if (!(e7 == e8)) = true then
   some (.inr (.inl ()))
  else
   some (.inl (wrap64 (vt17_4 + (1 : Int)))))
 else
  some (.inr (.inr ())))
/-- slices.EqualFunc[[]cardgame/api.Target,[]cardgame/api.Target,cardgame/api.Target,cardgame/api.Target] -/
def slices_EqualFunc_api_Target_api_Target_api_Target_api_Target_state_equal_api_Target (a0 : List (STarget)) (a1 : List (STarget)) : Option (Bool) :=
 (if ((a0.length : Int) != (a1.length : Int)) = true then
  some false
 else
  (iter (fun (v : Int) => slices_EqualFunc_api_Target_api_Target_api_Target_api_Target_state_equal_api_Target_B5 a0 a1 v) FU (0 : Int)).bind (Sum.elim (fun o0 => some false) (fun o1 => slices_EqualFunc_api_Target_api_Target_api_Target_api_Target_state_equal_api_Target_J2)))
def slices_EqualFunc_api_Target_api_Target_api_Target_api_Target_state_equal_api_Target_C (a0 : List (STarget)) (a1 : List (STarget)) (r : Bool) : Prop := PCall Tryz.prog I0 136 [vL encSTarget a0, vL encSTarget a1, .c (.fn 80)] (· = vB r)
theorem slices_EqualFunc_api_Target_api_Target_api_Target_api_Target_state_equal_api_Target_ok {a0 : List (STarget)} {a1 : List (STarget)} {r : Bool} (h : slices_EqualFunc_api_Target_api_Target_api_Target_api_Target_state_equal_api_Target a0 a1 = some r) : slices_EqualFunc_api_Target_api_Target_api_Target_api_Target_state_equal_api_Target_C a0 a1 r := by
 refine PCall.body I0_stable (by kernel_rfl) Tryz.func136 rfl Tryz.ntmps136 (rs := [.tmp 6]) rfl rfl ?_
 intro w0 av old gv
 unfold slices_EqualFunc_api_Target_api_Target_api_Target_api_Target_state_equal_api_Target at h
 refine Rg [.a] (sl 32 [(0, vL encSTarget a0), (1, vL encSTarget a1), (2, .c (.fn 80))] []) (aN) ?_
 refine Holds.seq ?_
 refine Rg [.a, .a, .a, .a, .a] (sl 32 [(0, vL encSTarget a0), (1, vL encSTarget a1), (2, .c (.fn 80)), (14, vB ((a0.length : Int) != (a1.length : Int)))] []) (aN) ?_
 refine iB h (fun b1 h => ?_) (fun b1 h => ?_)
 · refine Rg [.a] (sl 32 [(6, vB false)] []) (aN) ?_
   refine Holds.ret ?_
   refine Tr ?_
   exact bQ (vB false) (congrArg vB (sI h))
 · refine Holds.skip ?_
   refine Tn ?_
   refine Sj (X := Unit) (fun v => (sl 32 [] [])) (fun v => slices_EqualFunc_api_Target_api_Target_api_Target_api_Target_state_equal_api_Target_J2 = some r) ?_ ?_
   · refine Rg [.a, .a, .a] (sl 32 [(1, vL encSTarget a1), (2, .c (.fn 80)), (15, vL encSTarget a0), (16, vI (a0.length : Int)), (17, vI (0 : Int))] []) (aN) ?_
     refine Holds.block ?_
     obtain ⟨oB5, hiB5, h⟩ := bS h
     refine It (fun (v : Int) => (sl 32 [(1, vL encSTarget a1), (2, .c (.fn 80)), (15, vL encSTarget a0), (16, vI (a0.length : Int)), (17, vI v)] [])) hiB5 (wT) ?_
     rintro vt17_4 zB5 hzB5 hoB5
     replace hzB5 : slices_EqualFunc_api_Target_api_Target_api_Target_api_Target_state_equal_api_Target_B5 a0 a1 vt17_4 = some zB5 := hzB5
     unfold slices_EqualFunc_api_Target_api_Target_api_Target_api_Target_state_equal_api_Target_B5 at hzB5
     refine Rg [.a] (sl 32 [(1, vL encSTarget a1), (2, .c (.fn 80)), (15, vL encSTarget a0), (16, vI (a0.length : Int)), (17, vI vt17_4), (18, vB (decide (vt17_4 < (a0.length : Int))))] []) (aN) ?_
     refine Holds.seq ?_
     refine iB hzB5 (fun b6 hzB5 => ?_) (fun b6 hzB5 => ?_)
     · refine Holds.skip ?_
       refine Tn ?_
       refine Holds.seq ?_
       refine Holds.block ?_
       obtain ⟨e7, he7, hzB5⟩ := bS hzB5
       refine Rg [.a, .a, (.v (vA encSTarget e7)), .a, .a, .a] (sl 32 [(1, vL encSTarget a1), (2, .c (.fn 80)), (7, vI vt17_4), (8, vP [8] (0)), (15, vL encSTarget a0), (16, vI (a0.length : Int)), (17, vI vt17_4)] [bx [8] (encSTarget e7)]) (aC (idx_b he7) <| aC (eld he7 lenSTarget 0 2 true (vA encSTarget e7)) <| aC (Eq.refl (vA encSTarget e7)) <| aN) ?_
       obtain ⟨e8, he8, hzB5⟩ := bS hzB5
       refine Rg [.a, .a, .a, (.v (vA encSTarget e8)), .a, .a] (sl 32 [(1, vL encSTarget a1), (2, .c (.fn 80)), (8, vP [8] (0)), (9, vP [9] (0)), (15, vL encSTarget a0), (16, vI (a0.length : Int)), (17, vI vt17_4)] [bx [9] (encSTarget e8), bx [8] (encSTarget e7)]) (aC (idx_b he8) <| aC (eld he8 lenSTarget 0 2 true (vA encSTarget e8)) <| aC (Eq.refl (vA encSTarget e8)) <| aN) ?_
       refine Holds.seq ?_
       refine Holds.region ?_
       refine Rp 3 [.a, .a, .a] (sl 32 [(1, vL encSTarget a1), (2, .c (.fn 80)), (8, vP [8] (0)), (9, vP [9] (0)), (15, vL encSTarget a0), (16, vI (a0.length : Int)), (17, vI vt17_4), (26, .c (.fn 80)), (27, vA encSTarget e7), (28, vA encSTarget e8)] [bx [9] (encSTarget e8), bx [8] (encSTarget e7)]) (aN) ?_
       refine Run.inl rfl rfl (Esc.inline (s := True ∧ (True ∧ True)) (vs := [vA encSTarget e7, vA encSTarget e8]) (cs := []) 29 rfl rfl rfl (by kernel_rfl) ⟨trivial, ⟨trivial, trivial⟩⟩ (by kernel_rfl) (by kernel_rfl) Tryz.func80 rfl Tryz.ntmps80 (rs := [.tmp 4]) rfl ?_)
       intro w08 av8 old8 gv8
       refine At (sg 8 [(0, vA encSTarget e7), (1, vA encSTarget e8)] [bx [9] (encSTarget e8), bx [8] (encSTarget e7)] 32 [(1, vL encSTarget a1), (2, .c (.fn 80)), (8, vP [8] (0)), (9, vP [9] (0)), (15, vL encSTarget a0), (16, vI (a0.length : Int)), (17, vI vt17_4), (26, .c (.fn 80)), (27, vA encSTarget e7), (28, vA encSTarget e8)] [29]) ?_
       refine Rg [.a, .a, .a] (sg 8 [(2, vP [2, 29] (0)), (3, vP [3, 29] (0))] [bx [3, 29] (encSTarget e8), bx [2, 29] (encSTarget e7), bx [9] (encSTarget e8), bx [8] (encSTarget e7)] 32 [(1, vL encSTarget a1), (2, .c (.fn 80)), (8, vP [8] (0)), (9, vP [9] (0)), (15, vL encSTarget a0), (16, vI (a0.length : Int)), (17, vI vt17_4), (26, .c (.fn 80)), (27, vA encSTarget e7), (28, vA encSTarget e8)] [29]) (aN) ?_
       refine Rg [.a, .a, (.v (vB (e7 == e8))), .a] (sg 8 [(4, vB (e7 == e8))] [bx [9] (encSTarget e8), bx [8] (encSTarget e7)] 32 [(1, vL encSTarget a1), (2, .c (.fn 80)), (8, vP [8] (0)), (9, vP [9] (0)), (15, vL encSTarget a0), (16, vI (a0.length : Int)), (17, vI vt17_4), (26, .c (.fn 80)), (27, vA encSTarget e7), (28, vA encSTarget e8)] [29]) (aC (congrArg (fun z => V.c (.bool (z))) (eqT107 e7 e8)) <| aN) ?_
       refine Holds.ret ?_
       refine inQ.ret (v := vB (e7 == e8)) (by kernel_rfl) ?_
       refine Rw [.a] (sl 32 [(1, vL encSTarget a1), (2, .c (.fn 80)), (8, vP [8] (0)), (9, vP [9] (0)), (15, vL encSTarget a0), (16, vI (a0.length : Int)), (17, vI vt17_4), (26, .c (.fn 80)), (27, vA encSTarget e7), (28, vA encSTarget e8), (29, vB (e7 == e8)), (30, vB (!(e7 == e8)))] [bx [9] (encSTarget e8), bx [8] (encSTarget e7)]) (aN) ?_
       refine Tn ?_
       refine iB hzB5 (fun b9 hzB5 => ?_) (fun b9 hzB5 => ?_)
       · refine Rg [.a] (sl 32 [(6, vB false)] []) (aN) ?_
         refine Holds.ret ?_
         refine blockQ.ret ?_
         refine Tr ?_
         have hoB5_ := hoB5 _ (sI hzB5).symm
         subst hoB5_
         replace h := sumL h
         refine Tr ?_
         refine blockQ.ret ?_
         refine Tr ?_
         exact bQ (vB false) (congrArg vB (sI h))
       · refine Holds.skip ?_
         refine blockQ.normal ?_
         refine Tn ?_
         refine Re [.a, .a] (sl 32 [(1, vL encSTarget a1), (2, .c (.fn 80)), (8, vP [8] (0)), (9, vP [9] (0)), (15, vL encSTarget a0), (16, vI (a0.length : Int)), (17, vI (wrap64 (vt17_4 + (1 : Int)))), (26, .c (.fn 80)), (27, vA encSTarget e7), (28, vA encSTarget e8), (29, vB (e7 == e8)), (30, vB (!(e7 == e8))), (31, vI (wrap64 (vt17_4 + (1 : Int))))] [bx [9] (encSTarget e8), bx [8] (encSTarget e7)]) (aN) ?_
         refine Tn ⟨(wrap64 (vt17_4 + (1 : Int))), (sI hzB5).symm, wT⟩
     · refine Holds.exit ?_
       refine thenQ.exit ?_
       have hoB5_ := hoB5 _ (sI hzB5).symm
       subst hoB5_
       replace h := sumR h
       refine thenQ.exit ?_
       refine blockQ.out ?_
       refine Tn ⟨(), h, wT⟩
   · rintro _ hJ2
     replace hJ2 : slices_EqualFunc_api_Target_api_Target_api_Target_api_Target_state_equal_api_Target_J2 = some r := hJ2
     unfold slices_EqualFunc_api_Target_api_Target_api_Target_api_Target_state_equal_api_Target_J2 at hJ2
     refine Rg [.a] (sl 32 [(6, vB true)] []) (aN) ?_
     refine Holds.ret ?_
     exact bQ (vB true) (congrArg vB (sI hJ2))
def state_Living_J2  (l3_1 : List (Int)) : Option ((List (Int))) :=
 some l3_1
def state_Living_J11 (vt9_5 : Int) (l3_10 : List (Int)) : Option ((Int × (List (Int))) ⊕ ((List (Int)))) :=
 some (.inl ((wrap64 (vt9_5 + (1 : Int))), l3_10))
def state_Living_B8 (a0 : SState) (vt9_5 : Int) (l3_6 : List (Int)) : Option ((Int × (List (Int))) ⊕ ((List (Int)))) :=
 (if (decide (vt9_5 < (a0.Players.length : Int))) = true then
  (idx a0.Players vt9_5).bind fun e12 =>
  (if (!e12.Lost) = true then
   (app 8 l3_6 ([vt9_5] : List (Int))).bind fun l14 =>
   state_Living_J11 vt9_5 l14
  else
   state_Living_J11 vt9_5 l3_6)
 else
  some (.inr l3_6))
/-- cardgame/state.Living -/
def state_Living (a0 : SState) : Option ((List (Int))) :=
 (iter (fun (v : Int × (List (Int))) => state_Living_B8 a0 v.1 v.2) FU ((0 : Int), ([] : List (Int)))).bind (fun o0 => state_Living_J2 o0)
def state_Living_C (a0 : SState) (r : (List (Int))) : Prop := PCall Tryz.prog I0 17 [vA encSState a0] (· = vL (eI .i64) r)
theorem state_Living_ok {a0 : SState} {r : (List (Int))} (h : state_Living a0 = some r) : state_Living_C a0 r := by
 refine PCall.body I0_stable (by kernel_rfl) Tryz.func17 rfl Tryz.ntmps17 (rs := [.tmp 2]) rfl rfl ?_
 intro w0 av old gv
 unfold state_Living at h
 refine Rg [.a, .a] (sl 23 [(1, vP [1] (0))] [bx [1] (encSState a0)]) (aN) ?_
 refine Rg [.a] (sl 23 [(1, vP [1] (0)), (3, vO [3])] [rw_ [3] 3 1 (eI .i64) ([] : List (Int)), bx [1] (encSState a0)]) (aN) ?_
 refine Sj (X := (List (Int))) (fun v => (sl 23 [(3, vO [3])] [rw_ [3] 3 1 (eI .i64) v])) (fun v => state_Living_J2 v = some r) ?_ ?_
 · refine Rg [.a, .a, .a, .a] (sl 23 [(3, vO [3]), (7, vL encSPlayer a0.Players), (8, vI (a0.Players.length : Int)), (9, vI (0 : Int))] [rw_ [3] 3 1 (eI .i64) ([] : List (Int))]) (aN) ?_
   refine Holds.block ?_
   obtain ⟨oB8, hiB8, h⟩ := bS h
   refine It (fun (v : Int × (List (Int))) => (sl 23 [(3, vO [3]), (7, vL encSPlayer a0.Players), (8, vI (a0.Players.length : Int)), (9, vI v.1)] [rw_ [3] 3 1 (eI .i64) v.2])) hiB8 (wT) ?_
   rintro ⟨vt9_5, l3_6⟩ zB8 hzB8 hoB8
   replace hzB8 : state_Living_B8 a0 vt9_5 l3_6 = some zB8 := hzB8
   unfold state_Living_B8 at hzB8
   refine Rg [.a] (sl 23 [(3, vO [3]), (7, vL encSPlayer a0.Players), (8, vI (a0.Players.length : Int)), (9, vI vt9_5), (10, vB (decide (vt9_5 < (a0.Players.length : Int))))] [rw_ [3] 3 1 (eI .i64) l3_6]) (aN) ?_
   refine Holds.seq ?_
   refine iB hzB8 (fun b9 hzB8 => ?_) (fun b9 hzB8 => ?_)
   · refine Holds.skip ?_
     refine Tn ?_
     refine Sj (X := (List (Int))) (fun v => (sl 23 [(3, vO [3]), (7, vL encSPlayer a0.Players), (8, vI (a0.Players.length : Int)), (9, vI vt9_5)] [rw_ [3] 3 1 (eI .i64) v])) (fun v => state_Living_J11 vt9_5 v = some zB8) ?_ ?_
     · refine Holds.block ?_
       obtain ⟨e12, he12, hzB8⟩ := bS hzB8
       refine Rg [.a, .a, (.v (vA encSPlayer e12)), .a, .a, .a] (sl 23 [(3, vO [3]), (4, vI vt9_5), (5, vP [5] (0)), (7, vL encSPlayer a0.Players), (8, vI (a0.Players.length : Int)), (9, vI vt9_5)] [bx [5] (encSPlayer e12), rw_ [3] 3 1 (eI .i64) l3_6]) (aC (idx_b he12) <| aC (eld he12 lenSPlayer 0 14 true (vA encSPlayer e12)) <| aC (Eq.refl (vA encSPlayer e12)) <| aN) ?_
       refine Rg [.a, .a, .a] (sl 23 [(3, vO [3]), (4, vI vt9_5), (7, vL encSPlayer a0.Players), (8, vI (a0.Players.length : Int)), (9, vI vt9_5), (16, vB (!e12.Lost))] [rw_ [3] 3 1 (eI .i64) l3_6]) (aN) ?_
       refine iB hzB8 (fun b13 hzB8 => ?_) (fun b13 hzB8 => ?_)
       · obtain ⟨l14, hl14, hzB8⟩ := bS hzB8
         refine Re [.a, .a, .a, (.e l14.length (l14.flatMap (eI .i64))), .a] (sl 23 [(3, vO [3]), (4, vI vt9_5), (7, vL encSPlayer a0.Players), (8, vI (a0.Players.length : Int)), (9, vI vt9_5), (16, vB (!e12.Lost)), (18, vI vt9_5), (19, vO [19]), (20, vO [3])] [rw_ [3] 3 1 (eI .i64) l14, rw_ [19] 3 1 (eI .i64) ([vt9_5] : List (Int))]) (aC (ap1 hl14 (eI .i64)) <| aC (app_b hl14) <| aN) ?_
         refine blockQ.normal ?_
         refine Tn ⟨l14, hzB8, wT⟩
       · refine Holds.skip ?_
         refine blockQ.normal ?_
         refine Tn ⟨l3_6, hzB8, wT⟩
     · rintro l3_10 hJ11
       replace hJ11 : state_Living_J11 vt9_5 l3_10 = some zB8 := hJ11
       unfold state_Living_J11 at hJ11
       refine Re [.a, .a] (sl 23 [(3, vO [3]), (7, vL encSPlayer a0.Players), (8, vI (a0.Players.length : Int)), (9, vI (wrap64 (vt9_5 + (1 : Int)))), (21, vI (wrap64 (vt9_5 + (1 : Int))))] [rw_ [3] 3 1 (eI .i64) l3_10]) (aN) ?_
       refine Tn ⟨((wrap64 (vt9_5 + (1 : Int))), l3_10), (sI hJ11).symm, wT⟩
   · refine Holds.exit ?_
     refine thenQ.exit ?_
     have hoB8_ := hoB8 _ (sI hzB8).symm
     subst hoB8_
     refine thenQ.exit ?_
     refine blockQ.out ?_
     refine Tn ⟨l3_6, h, wT⟩
 · rintro l3_1 hJ2
   replace hJ2 : state_Living_J2 l3_1 = some r := hJ2
   unfold state_Living_J2 at hJ2
   refine Rg [.a, .a] (sl 23 [(2, vO [3])] [rw_ [3] 3 1 (eI .i64) l3_1]) (aN) ?_
   refine Holds.ret ?_
   exact bE (vO [3]) (vL (eI .i64) l3_1) (congrArg (vL (eI .i64)) (sI hJ2))
def slices_Clone_int_int (a0 : List (Int)) : Option (List (Int)) := if a0.length * 8 ≤ 140737488355328 ∧ a0.length ≤ maxLen then some a0 else none
theorem slices_Clone_int_int_okO {a0 r : List (Int)} (h : slices_Clone_int_int a0 = some r) : PCallO Tryz.prog I0 89 [vL (eI .i64) a0] 3 1 (fun len cs => len = r.length ∧ cs = r.flatMap (eI .i64)) := by
  refine PCallO.of (t := 2) (m := 8) I0_stable (by kernel_rfl) Tryz.func89 rfl rfl Tryz.ntmps89 ?_
  intro w0 av old gv
  unfold slices_Clone_int_int at h
  split at h
  · rename_i hb
    injection h with h; subst h
    refine Rg [.a] (sl 8 [(0, vL (eI .i64) a0)] []) (aN) ?_
    refine Holds.seq ?_
    refine Holds.seq ?_
    refine Holds.region ?_
    refine Rp 1 [.a] (sl 8 [(0, vL (eI .i64) a0), (3, vL (eI .i64) a0)] []) (aN) ?_
    refine Run.inl rfl rfl (Esc.nilq (len := a0.length) (cs := a0.flatMap (eI .i64)) rfl (fun b hbn => ?_))
    refine Rw [] (sl 8 [(0, vL (eI .i64) a0), (3, vL (eI .i64) a0), (4, vB b)] []) (aN) ?_
    refine Tn ?_
    refine Holds.ifB b (by kernel_rfl) (fun hb1 => ?_) (fun hb1 => ?_)
    · have h0 : a0 = [] := List.length_eq_zero_iff.1 (hbn hb1)
      refine Rg [.a] (sl 8 [(2, .c (.osl [2]))] [rw_ [2] 3 1 (eI .i64) ([] : List (Int))]) (aN) ?_
      refine Holds.ret ?_
      refine Tr ?_
      exact ⟨.inr rfl, .inl ⟨[2], rw_ [2] 3 1 (eI .i64) ([] : List (Int)), 0, by kernel_rfl, by kernel_rfl, by kernel_rfl, by kernel_rfl, by rw [h0]; exact ⟨rfl, rfl⟩⟩⟩
    · refine Holds.skip ?_
      refine Tn ?_
      have hr : app 8 ([] : List (Int)) a0 = some a0 := by unfold app; rw [if_pos ⟨by simpa using hb.1, by simpa using hb.2⟩]; rfl
      refine Rg [.a, .a, (.e a0.length (a0.flatMap (eI .i64))), .a] (sl 8 [(2, .c (.osl [5]))] [rw_ [5] 3 1 (eI .i64) a0]) (aC (show (a0.flatMap (eI .i64)).length = a0.length * 1 from flat_len (enc := eI .i64) (n := 1) (lenI .i64) _) <| aC (ap1 hr (eI .i64)) <| aC (app_b hr) <| aN) ?_
      refine Holds.ret ?_
      exact ⟨.inr rfl, .inl ⟨[5], rw_ [5] 3 1 (eI .i64) a0, a0.length, by kernel_rfl, by kernel_rfl, by kernel_rfl, pureL_flatMap _ (fun _ => rfl) _, ⟨rfl, rfl⟩⟩⟩
  · cases h
def slices_Clone_int_int_C (a0 r : List (Int)) : Prop := PCall Tryz.prog I0 89 [vL (eI .i64) a0] (· = vL (eI .i64) r)
theorem slices_Clone_int_int_ok {a0 r : List (Int)} (h : slices_Clone_int_int a0 = some r) : slices_Clone_int_int_C a0 r := PCallO.flat (slices_Clone_int_int_okO h)

def slices_Clone_api_Object_api_Object (a0 : List (SObject)) : Option (List (SObject)) := if a0.length * 128 ≤ 140737488355328 ∧ a0.length ≤ maxLen then some a0 else none
theorem slices_Clone_api_Object_api_Object_okO {a0 r : List (SObject)} (h : slices_Clone_api_Object_api_Object a0 = some r) : PCallO Tryz.prog I0 88 [vL (encSObject) a0] 56 19 (fun len cs => len = r.length ∧ cs = r.flatMap (encSObject)) := by
  refine PCallO.of (t := 2) (m := 8) I0_stable (by kernel_rfl) Tryz.func88 rfl rfl Tryz.ntmps88 ?_
  intro w0 av old gv
  unfold slices_Clone_api_Object_api_Object at h
  split at h
  · rename_i hb
    injection h with h; subst h
    refine Rg [.a] (sl 8 [(0, vL (encSObject) a0)] []) (aN) ?_
    refine Holds.seq ?_
    refine Holds.seq ?_
    refine Holds.region ?_
    refine Rp 1 [.a] (sl 8 [(0, vL (encSObject) a0), (3, vL (encSObject) a0)] []) (aN) ?_
    refine Run.inl rfl rfl (Esc.nilq (len := a0.length) (cs := a0.flatMap (encSObject)) rfl (fun b hbn => ?_))
    refine Rw [] (sl 8 [(0, vL (encSObject) a0), (3, vL (encSObject) a0), (4, vB b)] []) (aN) ?_
    refine Tn ?_
    refine Holds.ifB b (by kernel_rfl) (fun hb1 => ?_) (fun hb1 => ?_)
    · have h0 : a0 = [] := List.length_eq_zero_iff.1 (hbn hb1)
      refine Rg [.a] (sl 8 [(2, .c (.osl [2]))] [rw_ [2] 56 19 (encSObject) ([] : List (SObject))]) (aN) ?_
      refine Holds.ret ?_
      refine Tr ?_
      exact ⟨.inr rfl, .inl ⟨[2], rw_ [2] 56 19 (encSObject) ([] : List (SObject)), 0, by kernel_rfl, by kernel_rfl, by kernel_rfl, by kernel_rfl, by rw [h0]; exact ⟨rfl, rfl⟩⟩⟩
    · refine Holds.skip ?_
      refine Tn ?_
      have hr : app 128 ([] : List (SObject)) a0 = some a0 := by unfold app; rw [if_pos ⟨by simpa using hb.1, by simpa using hb.2⟩]; rfl
      refine Rg [.a, .a, (.e a0.length (a0.flatMap (encSObject))), .a] (sl 8 [(2, .c (.osl [5]))] [rw_ [5] 56 19 (encSObject) a0]) (aC (show (a0.flatMap (encSObject)).length = a0.length * 19 from flat_len (enc := encSObject) (n := 19) lenSObject _) <| aC (ap1 hr (encSObject)) <| aC (app_b hr) <| aN) ?_
      refine Holds.ret ?_
      exact ⟨.inr rfl, .inl ⟨[5], rw_ [5] 56 19 (encSObject) a0, a0.length, by kernel_rfl, by kernel_rfl, by kernel_rfl, pureL_flatMap _ (fun _ => rfl) _, ⟨rfl, rfl⟩⟩⟩
  · cases h
def slices_Clone_api_Object_api_Object_C (a0 r : List (SObject)) : Prop := PCall Tryz.prog I0 88 [vL (encSObject) a0] (· = vL (encSObject) r)
theorem slices_Clone_api_Object_api_Object_ok {a0 r : List (SObject)} (h : slices_Clone_api_Object_api_Object a0 = some r) : slices_Clone_api_Object_api_Object_C a0 r := PCallO.flat (slices_Clone_api_Object_api_Object_okO h)

def slices_Clone_api_Item_api_Item (a0 : List (SItem)) : Option (List (SItem)) := if a0.length * 824 ≤ 140737488355328 ∧ a0.length ≤ maxLen then some a0 else none
theorem slices_Clone_api_Item_api_Item_okO {a0 r : List (SItem)} (h : slices_Clone_api_Item_api_Item a0 = some r) : PCallO Tryz.prog I0 90 [vL (encSItem) a0] 81 94 (fun len cs => len = r.length ∧ cs = r.flatMap (encSItem)) := by
  refine PCallO.of (t := 2) (m := 8) I0_stable (by kernel_rfl) Tryz.func90 rfl rfl Tryz.ntmps90 ?_
  intro w0 av old gv
  unfold slices_Clone_api_Item_api_Item at h
  split at h
  · rename_i hb
    injection h with h; subst h
    refine Rg [.a] (sl 8 [(0, vL (encSItem) a0)] []) (aN) ?_
    refine Holds.seq ?_
    refine Holds.seq ?_
    refine Holds.region ?_
    refine Rp 1 [.a] (sl 8 [(0, vL (encSItem) a0), (3, vL (encSItem) a0)] []) (aN) ?_
    refine Run.inl rfl rfl (Esc.nilq (len := a0.length) (cs := a0.flatMap (encSItem)) rfl (fun b hbn => ?_))
    refine Rw [] (sl 8 [(0, vL (encSItem) a0), (3, vL (encSItem) a0), (4, vB b)] []) (aN) ?_
    refine Tn ?_
    refine Holds.ifB b (by kernel_rfl) (fun hb1 => ?_) (fun hb1 => ?_)
    · have h0 : a0 = [] := List.length_eq_zero_iff.1 (hbn hb1)
      refine Rg [.a] (sl 8 [(2, .c (.osl [2]))] [rw_ [2] 81 94 (encSItem) ([] : List (SItem))]) (aN) ?_
      refine Holds.ret ?_
      refine Tr ?_
      exact ⟨.inr rfl, .inl ⟨[2], rw_ [2] 81 94 (encSItem) ([] : List (SItem)), 0, by kernel_rfl, by kernel_rfl, by kernel_rfl, by kernel_rfl, by rw [h0]; exact ⟨rfl, rfl⟩⟩⟩
    · refine Holds.skip ?_
      refine Tn ?_
      have hr : app 824 ([] : List (SItem)) a0 = some a0 := by unfold app; rw [if_pos ⟨by simpa using hb.1, by simpa using hb.2⟩]; rfl
      refine Rg [.a, .a, (.e a0.length (a0.flatMap (encSItem))), .a] (sl 8 [(2, .c (.osl [5]))] [rw_ [5] 81 94 (encSItem) a0]) (aC (show (a0.flatMap (encSItem)).length = a0.length * 94 from flat_len (enc := encSItem) (n := 94) lenSItem _) <| aC (ap1 hr (encSItem)) <| aC (app_b hr) <| aN) ?_
      refine Holds.ret ?_
      exact ⟨.inr rfl, .inl ⟨[5], rw_ [5] 81 94 (encSItem) a0, a0.length, by kernel_rfl, by kernel_rfl, by kernel_rfl, pureL_flatMap _ (fun _ => rfl) _, ⟨rfl, rfl⟩⟩⟩
  · cases h
def slices_Clone_api_Mod_api_Mod (a0 : List (SMod)) : Option (List (SMod)) := if a0.length * 176 ≤ 140737488355328 ∧ a0.length ≤ maxLen then some a0 else none
theorem slices_Clone_api_Mod_api_Mod_okO {a0 r : List (SMod)} (h : slices_Clone_api_Mod_api_Mod a0 = some r) : PCallO Tryz.prog I0 95 [vL (encSMod) a0] 111 20 (fun len cs => len = r.length ∧ cs = r.flatMap (encSMod)) := by
  refine PCallO.of (t := 2) (m := 8) I0_stable (by kernel_rfl) Tryz.func95 rfl rfl Tryz.ntmps95 ?_
  intro w0 av old gv
  unfold slices_Clone_api_Mod_api_Mod at h
  split at h
  · rename_i hb
    injection h with h; subst h
    refine Rg [.a] (sl 8 [(0, vL (encSMod) a0)] []) (aN) ?_
    refine Holds.seq ?_
    refine Holds.seq ?_
    refine Holds.region ?_
    refine Rp 1 [.a] (sl 8 [(0, vL (encSMod) a0), (3, vL (encSMod) a0)] []) (aN) ?_
    refine Run.inl rfl rfl (Esc.nilq (len := a0.length) (cs := a0.flatMap (encSMod)) rfl (fun b hbn => ?_))
    refine Rw [] (sl 8 [(0, vL (encSMod) a0), (3, vL (encSMod) a0), (4, vB b)] []) (aN) ?_
    refine Tn ?_
    refine Holds.ifB b (by kernel_rfl) (fun hb1 => ?_) (fun hb1 => ?_)
    · have h0 : a0 = [] := List.length_eq_zero_iff.1 (hbn hb1)
      refine Rg [.a] (sl 8 [(2, .c (.osl [2]))] [rw_ [2] 111 20 (encSMod) ([] : List (SMod))]) (aN) ?_
      refine Holds.ret ?_
      refine Tr ?_
      exact ⟨.inr rfl, .inl ⟨[2], rw_ [2] 111 20 (encSMod) ([] : List (SMod)), 0, by kernel_rfl, by kernel_rfl, by kernel_rfl, by kernel_rfl, by rw [h0]; exact ⟨rfl, rfl⟩⟩⟩
    · refine Holds.skip ?_
      refine Tn ?_
      have hr : app 176 ([] : List (SMod)) a0 = some a0 := by unfold app; rw [if_pos ⟨by simpa using hb.1, by simpa using hb.2⟩]; rfl
      refine Rg [.a, .a, (.e a0.length (a0.flatMap (encSMod))), .a] (sl 8 [(2, .c (.osl [5]))] [rw_ [5] 111 20 (encSMod) a0]) (aC (show (a0.flatMap (encSMod)).length = a0.length * 20 from flat_len (enc := encSMod) (n := 20) lenSMod _) <| aC (ap1 hr (encSMod)) <| aC (app_b hr) <| aN) ?_
      refine Holds.ret ?_
      exact ⟨.inr rfl, .inl ⟨[5], rw_ [5] 111 20 (encSMod) a0, a0.length, by kernel_rfl, by kernel_rfl, by kernel_rfl, pureL_flatMap _ (fun _ => rfl) _, ⟨rfl, rfl⟩⟩⟩
  · cases h
def slices_Clone_api_Mod_api_Mod_C (a0 r : List (SMod)) : Prop := PCall Tryz.prog I0 95 [vL (encSMod) a0] (· = vL (encSMod) r)
theorem slices_Clone_api_Mod_api_Mod_ok {a0 r : List (SMod)} (h : slices_Clone_api_Mod_api_Mod a0 = some r) : slices_Clone_api_Mod_api_Mod_C a0 r := PCallO.flat (slices_Clone_api_Mod_api_Mod_okO h)

def slices_Clone_api_Spec_api_Spec (a0 : List (SSpec)) : Option (List (SSpec)) := if a0.length * 144 ≤ 140737488355328 ∧ a0.length ≤ maxLen then some a0 else none
theorem slices_Clone_api_Spec_api_Spec_okO {a0 r : List (SSpec)} (h : slices_Clone_api_Spec_api_Spec a0 = some r) : PCallO Tryz.prog I0 138 [vL (encSSpec) a0] 132 18 (fun len cs => len = r.length ∧ cs = r.flatMap (encSSpec)) := by
  refine PCallO.of (t := 2) (m := 8) I0_stable (by kernel_rfl) Tryz.func138 rfl rfl Tryz.ntmps138 ?_
  intro w0 av old gv
  unfold slices_Clone_api_Spec_api_Spec at h
  split at h
  · rename_i hb
    injection h with h; subst h
    refine Rg [.a] (sl 8 [(0, vL (encSSpec) a0)] []) (aN) ?_
    refine Holds.seq ?_
    refine Holds.seq ?_
    refine Holds.region ?_
    refine Rp 1 [.a] (sl 8 [(0, vL (encSSpec) a0), (3, vL (encSSpec) a0)] []) (aN) ?_
    refine Run.inl rfl rfl (Esc.nilq (len := a0.length) (cs := a0.flatMap (encSSpec)) rfl (fun b hbn => ?_))
    refine Rw [] (sl 8 [(0, vL (encSSpec) a0), (3, vL (encSSpec) a0), (4, vB b)] []) (aN) ?_
    refine Tn ?_
    refine Holds.ifB b (by kernel_rfl) (fun hb1 => ?_) (fun hb1 => ?_)
    · have h0 : a0 = [] := List.length_eq_zero_iff.1 (hbn hb1)
      refine Rg [.a] (sl 8 [(2, .c (.osl [2]))] [rw_ [2] 132 18 (encSSpec) ([] : List (SSpec))]) (aN) ?_
      refine Holds.ret ?_
      refine Tr ?_
      exact ⟨.inr rfl, .inl ⟨[2], rw_ [2] 132 18 (encSSpec) ([] : List (SSpec)), 0, by kernel_rfl, by kernel_rfl, by kernel_rfl, by kernel_rfl, by rw [h0]; exact ⟨rfl, rfl⟩⟩⟩
    · refine Holds.skip ?_
      refine Tn ?_
      have hr : app 144 ([] : List (SSpec)) a0 = some a0 := by unfold app; rw [if_pos ⟨by simpa using hb.1, by simpa using hb.2⟩]; rfl
      refine Rg [.a, .a, (.e a0.length (a0.flatMap (encSSpec))), .a] (sl 8 [(2, .c (.osl [5]))] [rw_ [5] 132 18 (encSSpec) a0]) (aC (show (a0.flatMap (encSSpec)).length = a0.length * 18 from flat_len (enc := encSSpec) (n := 18) lenSSpec _) <| aC (ap1 hr (encSSpec)) <| aC (app_b hr) <| aN) ?_
      refine Holds.ret ?_
      exact ⟨.inr rfl, .inl ⟨[5], rw_ [5] 132 18 (encSSpec) a0, a0.length, by kernel_rfl, by kernel_rfl, by kernel_rfl, pureL_flatMap _ (fun _ => rfl) _, ⟨rfl, rfl⟩⟩⟩
  · cases h
def slices_Clone_api_Spec_api_Spec_C (a0 r : List (SSpec)) : Prop := PCall Tryz.prog I0 138 [vL (encSSpec) a0] (· = vL (encSSpec) r)
theorem slices_Clone_api_Spec_api_Spec_ok {a0 r : List (SSpec)} (h : slices_Clone_api_Spec_api_Spec a0 = some r) : slices_Clone_api_Spec_api_Spec_C a0 r := PCallO.flat (slices_Clone_api_Spec_api_Spec_okO h)

def slices_Clone_api_Effect_api_Effect (a0 : List (SEffect)) : Option (List (SEffect)) := if a0.length * 560 ≤ 140737488355328 ∧ a0.length ≤ maxLen then some a0 else none
theorem slices_Clone_api_Effect_api_Effect_okO {a0 r : List (SEffect)} (h : slices_Clone_api_Effect_api_Effect a0 = some r) : PCallO Tryz.prog I0 139 [vL (encSEffect) a0] 140 64 (fun len cs => len = r.length ∧ cs = r.flatMap (encSEffect)) := by
  refine PCallO.of (t := 2) (m := 8) I0_stable (by kernel_rfl) Tryz.func139 rfl rfl Tryz.ntmps139 ?_
  intro w0 av old gv
  unfold slices_Clone_api_Effect_api_Effect at h
  split at h
  · rename_i hb
    injection h with h; subst h
    refine Rg [.a] (sl 8 [(0, vL (encSEffect) a0)] []) (aN) ?_
    refine Holds.seq ?_
    refine Holds.seq ?_
    refine Holds.region ?_
    refine Rp 1 [.a] (sl 8 [(0, vL (encSEffect) a0), (3, vL (encSEffect) a0)] []) (aN) ?_
    refine Run.inl rfl rfl (Esc.nilq (len := a0.length) (cs := a0.flatMap (encSEffect)) rfl (fun b hbn => ?_))
    refine Rw [] (sl 8 [(0, vL (encSEffect) a0), (3, vL (encSEffect) a0), (4, vB b)] []) (aN) ?_
    refine Tn ?_
    refine Holds.ifB b (by kernel_rfl) (fun hb1 => ?_) (fun hb1 => ?_)
    · have h0 : a0 = [] := List.length_eq_zero_iff.1 (hbn hb1)
      refine Rg [.a] (sl 8 [(2, .c (.osl [2]))] [rw_ [2] 140 64 (encSEffect) ([] : List (SEffect))]) (aN) ?_
      refine Holds.ret ?_
      refine Tr ?_
      exact ⟨.inr rfl, .inl ⟨[2], rw_ [2] 140 64 (encSEffect) ([] : List (SEffect)), 0, by kernel_rfl, by kernel_rfl, by kernel_rfl, by kernel_rfl, by rw [h0]; exact ⟨rfl, rfl⟩⟩⟩
    · refine Holds.skip ?_
      refine Tn ?_
      have hr : app 560 ([] : List (SEffect)) a0 = some a0 := by unfold app; rw [if_pos ⟨by simpa using hb.1, by simpa using hb.2⟩]; rfl
      refine Rg [.a, .a, (.e a0.length (a0.flatMap (encSEffect))), .a] (sl 8 [(2, .c (.osl [5]))] [rw_ [5] 140 64 (encSEffect) a0]) (aC (show (a0.flatMap (encSEffect)).length = a0.length * 64 from flat_len (enc := encSEffect) (n := 64) lenSEffect _) <| aC (ap1 hr (encSEffect)) <| aC (app_b hr) <| aN) ?_
      refine Holds.ret ?_
      exact ⟨.inr rfl, .inl ⟨[5], rw_ [5] 140 64 (encSEffect) a0, a0.length, by kernel_rfl, by kernel_rfl, by kernel_rfl, pureL_flatMap _ (fun _ => rfl) _, ⟨rfl, rfl⟩⟩⟩
  · cases h
def slices_Clone_api_Target_api_Target (a0 : List (STarget)) : Option (List (STarget)) := if a0.length * 16 ≤ 140737488355328 ∧ a0.length ≤ maxLen then some a0 else none
theorem slices_Clone_api_Target_api_Target_okO {a0 r : List (STarget)} (h : slices_Clone_api_Target_api_Target a0 = some r) : PCallO Tryz.prog I0 92 [vL (encSTarget) a0] 107 2 (fun len cs => len = r.length ∧ cs = r.flatMap (encSTarget)) := by
  refine PCallO.of (t := 2) (m := 8) I0_stable (by kernel_rfl) Tryz.func92 rfl rfl Tryz.ntmps92 ?_
  intro w0 av old gv
  unfold slices_Clone_api_Target_api_Target at h
  split at h
  · rename_i hb
    injection h with h; subst h
    refine Rg [.a] (sl 8 [(0, vL (encSTarget) a0)] []) (aN) ?_
    refine Holds.seq ?_
    refine Holds.seq ?_
    refine Holds.region ?_
    refine Rp 1 [.a] (sl 8 [(0, vL (encSTarget) a0), (3, vL (encSTarget) a0)] []) (aN) ?_
    refine Run.inl rfl rfl (Esc.nilq (len := a0.length) (cs := a0.flatMap (encSTarget)) rfl (fun b hbn => ?_))
    refine Rw [] (sl 8 [(0, vL (encSTarget) a0), (3, vL (encSTarget) a0), (4, vB b)] []) (aN) ?_
    refine Tn ?_
    refine Holds.ifB b (by kernel_rfl) (fun hb1 => ?_) (fun hb1 => ?_)
    · have h0 : a0 = [] := List.length_eq_zero_iff.1 (hbn hb1)
      refine Rg [.a] (sl 8 [(2, .c (.osl [2]))] [rw_ [2] 107 2 (encSTarget) ([] : List (STarget))]) (aN) ?_
      refine Holds.ret ?_
      refine Tr ?_
      exact ⟨.inr rfl, .inl ⟨[2], rw_ [2] 107 2 (encSTarget) ([] : List (STarget)), 0, by kernel_rfl, by kernel_rfl, by kernel_rfl, by kernel_rfl, by rw [h0]; exact ⟨rfl, rfl⟩⟩⟩
    · refine Holds.skip ?_
      refine Tn ?_
      have hr : app 16 ([] : List (STarget)) a0 = some a0 := by unfold app; rw [if_pos ⟨by simpa using hb.1, by simpa using hb.2⟩]; rfl
      refine Rg [.a, .a, (.e a0.length (a0.flatMap (encSTarget))), .a] (sl 8 [(2, .c (.osl [5]))] [rw_ [5] 107 2 (encSTarget) a0]) (aC (show (a0.flatMap (encSTarget)).length = a0.length * 2 from flat_len (enc := encSTarget) (n := 2) lenSTarget _) <| aC (ap1 hr (encSTarget)) <| aC (app_b hr) <| aN) ?_
      refine Holds.ret ?_
      exact ⟨.inr rfl, .inl ⟨[5], rw_ [5] 107 2 (encSTarget) a0, a0.length, by kernel_rfl, by kernel_rfl, by kernel_rfl, pureL_flatMap _ (fun _ => rfl) _, ⟨rfl, rfl⟩⟩⟩
  · cases h
def slices_Clone_api_Target_api_Target_C (a0 r : List (STarget)) : Prop := PCall Tryz.prog I0 92 [vL (encSTarget) a0] (· = vL (encSTarget) r)
theorem slices_Clone_api_Target_api_Target_ok {a0 r : List (STarget)} (h : slices_Clone_api_Target_api_Target a0 = some r) : slices_Clone_api_Target_api_Target_C a0 r := PCallO.flat (slices_Clone_api_Target_api_Target_okO h)

def slices_Clone_api_Waiting_api_Waiting (a0 : List (SWaiting)) : Option (List (SWaiting)) := if a0.length * 768 ≤ 140737488355328 ∧ a0.length ≤ maxLen then some a0 else none
theorem slices_Clone_api_Waiting_api_Waiting_okO {a0 r : List (SWaiting)} (h : slices_Clone_api_Waiting_api_Waiting a0 = some r) : PCallO Tryz.prog I0 93 [vL (encSWaiting) a0] 85 89 (fun len cs => len = r.length ∧ cs = r.flatMap (encSWaiting)) := by
  refine PCallO.of (t := 2) (m := 8) I0_stable (by kernel_rfl) Tryz.func93 rfl rfl Tryz.ntmps93 ?_
  intro w0 av old gv
  unfold slices_Clone_api_Waiting_api_Waiting at h
  split at h
  · rename_i hb
    injection h with h; subst h
    refine Rg [.a] (sl 8 [(0, vL (encSWaiting) a0)] []) (aN) ?_
    refine Holds.seq ?_
    refine Holds.seq ?_
    refine Holds.region ?_
    refine Rp 1 [.a] (sl 8 [(0, vL (encSWaiting) a0), (3, vL (encSWaiting) a0)] []) (aN) ?_
    refine Run.inl rfl rfl (Esc.nilq (len := a0.length) (cs := a0.flatMap (encSWaiting)) rfl (fun b hbn => ?_))
    refine Rw [] (sl 8 [(0, vL (encSWaiting) a0), (3, vL (encSWaiting) a0), (4, vB b)] []) (aN) ?_
    refine Tn ?_
    refine Holds.ifB b (by kernel_rfl) (fun hb1 => ?_) (fun hb1 => ?_)
    · have h0 : a0 = [] := List.length_eq_zero_iff.1 (hbn hb1)
      refine Rg [.a] (sl 8 [(2, .c (.osl [2]))] [rw_ [2] 85 89 (encSWaiting) ([] : List (SWaiting))]) (aN) ?_
      refine Holds.ret ?_
      refine Tr ?_
      exact ⟨.inr rfl, .inl ⟨[2], rw_ [2] 85 89 (encSWaiting) ([] : List (SWaiting)), 0, by kernel_rfl, by kernel_rfl, by kernel_rfl, by kernel_rfl, by rw [h0]; exact ⟨rfl, rfl⟩⟩⟩
    · refine Holds.skip ?_
      refine Tn ?_
      have hr : app 768 ([] : List (SWaiting)) a0 = some a0 := by unfold app; rw [if_pos ⟨by simpa using hb.1, by simpa using hb.2⟩]; rfl
      refine Rg [.a, .a, (.e a0.length (a0.flatMap (encSWaiting))), .a] (sl 8 [(2, .c (.osl [5]))] [rw_ [5] 85 89 (encSWaiting) a0]) (aC (show (a0.flatMap (encSWaiting)).length = a0.length * 89 from flat_len (enc := encSWaiting) (n := 89) lenSWaiting _) <| aC (ap1 hr (encSWaiting)) <| aC (app_b hr) <| aN) ?_
      refine Holds.ret ?_
      exact ⟨.inr rfl, .inl ⟨[5], rw_ [5] 85 89 (encSWaiting) a0, a0.length, by kernel_rfl, by kernel_rfl, by kernel_rfl, pureL_flatMap _ (fun _ => rfl) _, ⟨rfl, rfl⟩⟩⟩
  · cases h
def slices_Clone_api_Cont_api_Cont (a0 : List (SCont)) : Option (List (SCont)) := if a0.length * 80 ≤ 140737488355328 ∧ a0.length ≤ maxLen then some a0 else none
theorem slices_Clone_api_Cont_api_Cont_okO {a0 r : List (SCont)} (h : slices_Clone_api_Cont_api_Cont a0 = some r) : PCallO Tryz.prog I0 94 [vL (encSCont) a0] 89 6 (fun len cs => len = r.length ∧ cs = r.flatMap (encSCont)) := by
  refine PCallO.of (t := 2) (m := 8) I0_stable (by kernel_rfl) Tryz.func94 rfl rfl Tryz.ntmps94 ?_
  intro w0 av old gv
  unfold slices_Clone_api_Cont_api_Cont at h
  split at h
  · rename_i hb
    injection h with h; subst h
    refine Rg [.a] (sl 8 [(0, vL (encSCont) a0)] []) (aN) ?_
    refine Holds.seq ?_
    refine Holds.seq ?_
    refine Holds.region ?_
    refine Rp 1 [.a] (sl 8 [(0, vL (encSCont) a0), (3, vL (encSCont) a0)] []) (aN) ?_
    refine Run.inl rfl rfl (Esc.nilq (len := a0.length) (cs := a0.flatMap (encSCont)) rfl (fun b hbn => ?_))
    refine Rw [] (sl 8 [(0, vL (encSCont) a0), (3, vL (encSCont) a0), (4, vB b)] []) (aN) ?_
    refine Tn ?_
    refine Holds.ifB b (by kernel_rfl) (fun hb1 => ?_) (fun hb1 => ?_)
    · have h0 : a0 = [] := List.length_eq_zero_iff.1 (hbn hb1)
      refine Rg [.a] (sl 8 [(2, .c (.osl [2]))] [rw_ [2] 89 6 (encSCont) ([] : List (SCont))]) (aN) ?_
      refine Holds.ret ?_
      refine Tr ?_
      exact ⟨.inr rfl, .inl ⟨[2], rw_ [2] 89 6 (encSCont) ([] : List (SCont)), 0, by kernel_rfl, by kernel_rfl, by kernel_rfl, by kernel_rfl, by rw [h0]; exact ⟨rfl, rfl⟩⟩⟩
    · refine Holds.skip ?_
      refine Tn ?_
      have hr : app 80 ([] : List (SCont)) a0 = some a0 := by unfold app; rw [if_pos ⟨by simpa using hb.1, by simpa using hb.2⟩]; rfl
      refine Rg [.a, .a, (.e a0.length (a0.flatMap (encSCont))), .a] (sl 8 [(2, .c (.osl [5]))] [rw_ [5] 89 6 (encSCont) a0]) (aC (show (a0.flatMap (encSCont)).length = a0.length * 6 from flat_len (enc := encSCont) (n := 6) lenSCont _) <| aC (ap1 hr (encSCont)) <| aC (app_b hr) <| aN) ?_
      refine Holds.ret ?_
      exact ⟨.inr rfl, .inl ⟨[5], rw_ [5] 89 6 (encSCont) a0, a0.length, by kernel_rfl, by kernel_rfl, by kernel_rfl, pureL_flatMap _ (fun _ => rfl) _, ⟨rfl, rfl⟩⟩⟩
  · cases h
def r03_Same_J2  : Option (Bool) :=
 some true
def r03_Same_B5 (a0 : List (Int)) (a1 : List (Int)) (i_t5_4 : Int) : Option ((Int) ⊕ (Unit ⊕ Unit)) :=
 (if (decide (i_t5_4 < (a0.length : Int))) = true then
  (idx a0 i_t5_4).bind fun e7 =>
  (idx a1 i_t5_4).bind fun e8 =>
  (if (e7 != e8) = true then
   some (.inr (.inl ()))
  else
   some (.inl (wrap64 (i_t5_4 + (1 : Int)))))
 else
  some (.inr (.inr ())))
/-- cardgame/cardgameref03.Same -/
def r03_Same (a0 : List (Int)) (a1 : List (Int)) : Option (Bool) :=
 (if ((a0.length : Int) != (a1.length : Int)) = true then
  some false
 else
  (iter (fun (v : Int) => r03_Same_B5 a0 a1 v) FU (0 : Int)).bind (Sum.elim (fun o0 => some false) (fun o1 => r03_Same_J2)))
def r03_Same_C (a0 : List (Int)) (a1 : List (Int)) (r : Bool) : Prop := PCall Tryz.prog I0 16 [vL (eI .i64) a0, vL (eI .i64) a1] (· = vB r)
theorem r03_Same_ok {a0 : List (Int)} {a1 : List (Int)} {r : Bool} (h : r03_Same a0 a1 = some r) : r03_Same_C a0 a1 r := by
 refine PCall.body I0_stable (by kernel_rfl) Tryz.func16 rfl Tryz.ntmps16 (rs := [.tmp 4]) rfl rfl ?_
 intro w0 av old gv
 unfold r03_Same at h
 refine Rg [.a] (sl 26 [(0, vL (eI .i64) a0), (1, vL (eI .i64) a1)] []) (aN) ?_
 refine Holds.seq ?_
 refine Rg [.a, .a, .a, .a, .a] (sl 26 [(0, vL (eI .i64) a0), (1, vL (eI .i64) a1), (10, vB ((a0.length : Int) != (a1.length : Int)))] []) (aN) ?_
 refine iB h (fun b1 h => ?_) (fun b1 h => ?_)
 · refine Rg [.a] (sl 26 [(4, vB false)] []) (aN) ?_
   refine Holds.ret ?_
   refine Tr ?_
   exact bQ (vB false) (congrArg vB (sI h))
 · refine Holds.skip ?_
   refine Tn ?_
   refine Sj (X := Unit) (fun v => (sl 26 [] [])) (fun v => r03_Same_J2 = some r) ?_ ?_
   · refine Rg [.a] (sl 26 [(0, vL (eI .i64) a0), (1, vL (eI .i64) a1), (5, vI (0 : Int))] []) (aN) ?_
     refine Holds.block ?_
     obtain ⟨oB5, hiB5, h⟩ := bS h
     refine It (fun (v : Int) => (sl 26 [(0, vL (eI .i64) a0), (1, vL (eI .i64) a1), (5, vI v)] [])) hiB5 (wT) ?_
     rintro i_t5_4 zB5 hzB5 hoB5
     replace hzB5 : r03_Same_B5 a0 a1 i_t5_4 = some zB5 := hzB5
     unfold r03_Same_B5 at hzB5
     refine Holds.seq ?_
     refine Rg [.a, .a, .a, .a] (sl 26 [(0, vL (eI .i64) a0), (1, vL (eI .i64) a1), (5, vI i_t5_4), (14, vB (decide (i_t5_4 < (a0.length : Int))))] []) (aN) ?_
     refine iB hzB5 (fun b6 hzB5 => ?_) (fun b6 hzB5 => ?_)
     · refine Holds.skip ?_
       refine Tn ?_
       refine Holds.seq ?_
       refine Holds.block ?_
       obtain ⟨e7, he7, hzB5⟩ := bS hzB5
       obtain ⟨e8, he8, hzB5⟩ := bS hzB5
       refine Rq followsP [.a, .a, .a, (.v (vI e7)), .a, .a, .a, (.v (vI e8)), .a] (sl 26 [(0, vL (eI .i64) a0), (1, vL (eI .i64) a1), (5, vI i_t5_4), (25, vB (e7 != e8))] []) (aC (idx_b he7) <| aC (eld he7 (lenI .i64) 0 1 false (vI e7)) <| aC (Eq.refl (vI e7)) <| aC (idx_b he8) <| aC (eld he8 (lenI .i64) 0 1 false (vI e8)) <| aC (Eq.refl (vI e8)) <| aN) ?_
       refine iB hzB5 (fun b9 hzB5 => ?_) (fun b9 hzB5 => ?_)
       · refine Rg [.a] (sl 26 [(4, vB false)] []) (aN) ?_
         refine Holds.ret ?_
         refine blockQ.ret ?_
         refine Tr ?_
         have hoB5_ := hoB5 _ (sI hzB5).symm
         subst hoB5_
         replace h := sumL h
         refine Tr ?_
         refine blockQ.ret ?_
         refine Tr ?_
         exact bQ (vB false) (congrArg vB (sI h))
       · refine Holds.skip ?_
         refine blockQ.normal ?_
         refine Tn ?_
         refine Re [.a, .a, .a] (sl 26 [(0, vL (eI .i64) a0), (1, vL (eI .i64) a1), (5, vI (wrap64 (i_t5_4 + (1 : Int)))), (15, vI i_t5_4), (16, vI (wrap64 (i_t5_4 + (1 : Int)))), (25, vB (e7 != e8))] []) (aN) ?_
         refine Tn ⟨(wrap64 (i_t5_4 + (1 : Int))), (sI hzB5).symm, wT⟩
     · refine Holds.exit ?_
       refine thenQ.exit ?_
       have hoB5_ := hoB5 _ (sI hzB5).symm
       subst hoB5_
       replace h := sumR h
       refine thenQ.exit ?_
       refine blockQ.out ?_
       refine Tn ⟨(), h, wT⟩
   · rintro _ hJ2
     replace hJ2 : r03_Same_J2 = some r := hJ2
     unfold r03_Same_J2 at hJ2
     refine Rg [.a] (sl 26 [(4, vB true)] []) (aN) ?_
     refine Holds.ret ?_
     exact bQ (vB true) (congrArg vB (sI hJ2))
def r17_SameMods_J2  : Option (Bool) :=
 some true
def r17_SameMods_B5 (a0 : List (SMod)) (a1 : List (SMod)) (i_t5_4 : Int) : Option ((Int) ⊕ (Unit ⊕ Unit)) :=
 (if (decide (i_t5_4 < (a0.length : Int))) = true then
  (idx a0 i_t5_4).bind fun e7 =>
  (idx a1 i_t5_4).bind fun e8 =>
  (if (!(e7 == e8)) = true then
   some (.inr (.inl ()))
  else
   some (.inl (wrap64 (i_t5_4 + (1 : Int)))))
 else
  some (.inr (.inr ())))
/-- cardgame/cardgameref17.SameMods -/
def r17_SameMods (a0 : List (SMod)) (a1 : List (SMod)) : Option (Bool) :=
 (if ((a0.length : Int) != (a1.length : Int)) = true then
  some false
 else
  (iter (fun (v : Int) => r17_SameMods_B5 a0 a1 v) FU (0 : Int)).bind (Sum.elim (fun o0 => some false) (fun o1 => r17_SameMods_J2)))
def r17_SameMods_C (a0 : List (SMod)) (a1 : List (SMod)) (r : Bool) : Prop := PCall Tryz.prog I0 140 [vL encSMod a0, vL encSMod a1] (· = vB r)
theorem r17_SameMods_ok {a0 : List (SMod)} {a1 : List (SMod)} {r : Bool} (h : r17_SameMods a0 a1 = some r) : r17_SameMods_C a0 a1 r := by
 refine PCall.body I0_stable (by kernel_rfl) Tryz.func140 rfl Tryz.ntmps140 (rs := [.tmp 4]) rfl rfl ?_
 intro w0 av old gv
 unfold r17_SameMods at h
 refine Rg [.a] (sl 26 [(0, vL encSMod a0), (1, vL encSMod a1)] []) (aN) ?_
 refine Holds.seq ?_
 refine Rg [.a, .a, .a, .a, .a] (sl 26 [(0, vL encSMod a0), (1, vL encSMod a1), (10, vB ((a0.length : Int) != (a1.length : Int)))] []) (aN) ?_
 refine iB h (fun b1 h => ?_) (fun b1 h => ?_)
 · refine Rg [.a] (sl 26 [(4, vB false)] []) (aN) ?_
   refine Holds.ret ?_
   refine Tr ?_
   exact bQ (vB false) (congrArg vB (sI h))
 · refine Holds.skip ?_
   refine Tn ?_
   refine Sj (X := Unit) (fun v => (sl 26 [] [])) (fun v => r17_SameMods_J2 = some r) ?_ ?_
   · refine Rg [.a] (sl 26 [(0, vL encSMod a0), (1, vL encSMod a1), (5, vI (0 : Int))] []) (aN) ?_
     refine Holds.block ?_
     obtain ⟨oB5, hiB5, h⟩ := bS h
     refine It (fun (v : Int) => (sl 26 [(0, vL encSMod a0), (1, vL encSMod a1), (5, vI v)] [])) hiB5 (wT) ?_
     rintro i_t5_4 zB5 hzB5 hoB5
     replace hzB5 : r17_SameMods_B5 a0 a1 i_t5_4 = some zB5 := hzB5
     unfold r17_SameMods_B5 at hzB5
     refine Holds.seq ?_
     refine Rg [.a, .a, .a, .a] (sl 26 [(0, vL encSMod a0), (1, vL encSMod a1), (5, vI i_t5_4), (14, vB (decide (i_t5_4 < (a0.length : Int))))] []) (aN) ?_
     refine iB hzB5 (fun b6 hzB5 => ?_) (fun b6 hzB5 => ?_)
     · refine Holds.skip ?_
       refine Tn ?_
       refine Holds.seq ?_
       refine Holds.block ?_
       obtain ⟨e7, he7, hzB5⟩ := bS hzB5
       obtain ⟨e8, he8, hzB5⟩ := bS hzB5
       refine Rq followsP [.a, .a, .a, (.v (vA encSMod e7)), .a, .a, .a, (.v (vA encSMod e8)), (.v (vB (!(e7 == e8))))] (sl 26 [(0, vL encSMod a0), (1, vL encSMod a1), (5, vI i_t5_4), (25, vB (!(e7 == e8)))] []) (aC (idx_b he7) <| aC (eld he7 lenSMod 0 20 true (vA encSMod e7)) <| aC (Eq.refl (vA encSMod e7)) <| aC (idx_b he8) <| aC (eld he8 lenSMod 0 20 true (vA encSMod e8)) <| aC (Eq.refl (vA encSMod e8)) <| aC (congrArg (fun z => V.c (.bool (!z))) (eqT111 e7 e8)) <| aN) ?_
       refine iB hzB5 (fun b9 hzB5 => ?_) (fun b9 hzB5 => ?_)
       · refine Rg [.a] (sl 26 [(4, vB false)] []) (aN) ?_
         refine Holds.ret ?_
         refine blockQ.ret ?_
         refine Tr ?_
         have hoB5_ := hoB5 _ (sI hzB5).symm
         subst hoB5_
         replace h := sumL h
         refine Tr ?_
         refine blockQ.ret ?_
         refine Tr ?_
         exact bQ (vB false) (congrArg vB (sI h))
       · refine Holds.skip ?_
         refine blockQ.normal ?_
         refine Tn ?_
         refine Re [.a, .a, .a] (sl 26 [(0, vL encSMod a0), (1, vL encSMod a1), (5, vI (wrap64 (i_t5_4 + (1 : Int)))), (15, vI i_t5_4), (16, vI (wrap64 (i_t5_4 + (1 : Int)))), (25, vB (!(e7 == e8)))] []) (aN) ?_
         refine Tn ⟨(wrap64 (i_t5_4 + (1 : Int))), (sI hzB5).symm, wT⟩
     · refine Holds.exit ?_
       refine thenQ.exit ?_
       have hoB5_ := hoB5 _ (sI hzB5).symm
       subst hoB5_
       replace h := sumR h
       refine thenQ.exit ?_
       refine blockQ.out ?_
       refine Tn ⟨(), h, wT⟩
   · rintro _ hJ2
     replace hJ2 : r17_SameMods_J2 = some r := hJ2
     unfold r17_SameMods_J2 at hJ2
     refine Rg [.a] (sl 26 [(4, vB true)] []) (aN) ?_
     refine Holds.ret ?_
     exact bQ (vB true) (congrArg vB (sI hJ2))
def r26_SameMods_J2  : Option (Bool) :=
 some true
def r26_SameMods_B5 (a0 : List (SMod)) (a1 : List (SMod)) (i_t5_4 : Int) : Option ((Int) ⊕ (Unit ⊕ Unit)) :=
 (if (decide (i_t5_4 < (a0.length : Int))) = true then
  (idx a0 i_t5_4).bind fun e7 =>
  (idx a1 i_t5_4).bind fun e8 =>
  (if (!(e7 == e8)) = true then
   some (.inr (.inl ()))
  else
   some (.inl (wrap64 (i_t5_4 + (1 : Int)))))
 else
  some (.inr (.inr ())))
/-- cardgame/cardgameref26.SameMods -/
def r26_SameMods (a0 : List (SMod)) (a1 : List (SMod)) : Option (Bool) :=
 (if ((a0.length : Int) != (a1.length : Int)) = true then
  some false
 else
  (iter (fun (v : Int) => r26_SameMods_B5 a0 a1 v) FU (0 : Int)).bind (Sum.elim (fun o0 => some false) (fun o1 => r26_SameMods_J2)))
def r26_SameMods_C (a0 : List (SMod)) (a1 : List (SMod)) (r : Bool) : Prop := PCall Tryz.prog I0 99 [vL encSMod a0, vL encSMod a1] (· = vB r)
theorem r26_SameMods_ok {a0 : List (SMod)} {a1 : List (SMod)} {r : Bool} (h : r26_SameMods a0 a1 = some r) : r26_SameMods_C a0 a1 r := by
 refine PCall.body I0_stable (by kernel_rfl) Tryz.func99 rfl Tryz.ntmps99 (rs := [.tmp 4]) rfl rfl ?_
 intro w0 av old gv
 unfold r26_SameMods at h
 refine Rg [.a] (sl 26 [(0, vL encSMod a0), (1, vL encSMod a1)] []) (aN) ?_
 refine Holds.seq ?_
 refine Rg [.a, .a, .a, .a, .a] (sl 26 [(0, vL encSMod a0), (1, vL encSMod a1), (10, vB ((a0.length : Int) != (a1.length : Int)))] []) (aN) ?_
 refine iB h (fun b1 h => ?_) (fun b1 h => ?_)
 · refine Rg [.a] (sl 26 [(4, vB false)] []) (aN) ?_
   refine Holds.ret ?_
   refine Tr ?_
   exact bQ (vB false) (congrArg vB (sI h))
 · refine Holds.skip ?_
   refine Tn ?_
   refine Sj (X := Unit) (fun v => (sl 26 [] [])) (fun v => r26_SameMods_J2 = some r) ?_ ?_
   · refine Rg [.a] (sl 26 [(0, vL encSMod a0), (1, vL encSMod a1), (5, vI (0 : Int))] []) (aN) ?_
     refine Holds.block ?_
     obtain ⟨oB5, hiB5, h⟩ := bS h
     refine It (fun (v : Int) => (sl 26 [(0, vL encSMod a0), (1, vL encSMod a1), (5, vI v)] [])) hiB5 (wT) ?_
     rintro i_t5_4 zB5 hzB5 hoB5
     replace hzB5 : r26_SameMods_B5 a0 a1 i_t5_4 = some zB5 := hzB5
     unfold r26_SameMods_B5 at hzB5
     refine Holds.seq ?_
     refine Rg [.a, .a, .a, .a] (sl 26 [(0, vL encSMod a0), (1, vL encSMod a1), (5, vI i_t5_4), (14, vB (decide (i_t5_4 < (a0.length : Int))))] []) (aN) ?_
     refine iB hzB5 (fun b6 hzB5 => ?_) (fun b6 hzB5 => ?_)
     · refine Holds.skip ?_
       refine Tn ?_
       refine Holds.seq ?_
       refine Holds.block ?_
       obtain ⟨e7, he7, hzB5⟩ := bS hzB5
       obtain ⟨e8, he8, hzB5⟩ := bS hzB5
       refine Rq followsP [.a, .a, .a, (.v (vA encSMod e7)), .a, .a, .a, (.v (vA encSMod e8)), (.v (vB (!(e7 == e8))))] (sl 26 [(0, vL encSMod a0), (1, vL encSMod a1), (5, vI i_t5_4), (25, vB (!(e7 == e8)))] []) (aC (idx_b he7) <| aC (eld he7 lenSMod 0 20 true (vA encSMod e7)) <| aC (Eq.refl (vA encSMod e7)) <| aC (idx_b he8) <| aC (eld he8 lenSMod 0 20 true (vA encSMod e8)) <| aC (Eq.refl (vA encSMod e8)) <| aC (congrArg (fun z => V.c (.bool (!z))) (eqT111 e7 e8)) <| aN) ?_
       refine iB hzB5 (fun b9 hzB5 => ?_) (fun b9 hzB5 => ?_)
       · refine Rg [.a] (sl 26 [(4, vB false)] []) (aN) ?_
         refine Holds.ret ?_
         refine blockQ.ret ?_
         refine Tr ?_
         have hoB5_ := hoB5 _ (sI hzB5).symm
         subst hoB5_
         replace h := sumL h
         refine Tr ?_
         refine blockQ.ret ?_
         refine Tr ?_
         exact bQ (vB false) (congrArg vB (sI h))
       · refine Holds.skip ?_
         refine blockQ.normal ?_
         refine Tn ?_
         refine Re [.a, .a, .a] (sl 26 [(0, vL encSMod a0), (1, vL encSMod a1), (5, vI (wrap64 (i_t5_4 + (1 : Int)))), (15, vI i_t5_4), (16, vI (wrap64 (i_t5_4 + (1 : Int)))), (25, vB (!(e7 == e8)))] []) (aN) ?_
         refine Tn ⟨(wrap64 (i_t5_4 + (1 : Int))), (sI hzB5).symm, wT⟩
     · refine Holds.exit ?_
       refine thenQ.exit ?_
       have hoB5_ := hoB5 _ (sI hzB5).symm
       subst hoB5_
       replace h := sumR h
       refine thenQ.exit ?_
       refine blockQ.out ?_
       refine Tn ⟨(), h, wT⟩
   · rintro _ hJ2
     replace hJ2 : r26_SameMods_J2 = some r := hJ2
     unfold r26_SameMods_J2 at hJ2
     refine Rg [.a] (sl 26 [(4, vB true)] []) (aN) ?_
     refine Holds.ret ?_
     exact bQ (vB true) (congrArg vB (sI hJ2))
end Go.PL
