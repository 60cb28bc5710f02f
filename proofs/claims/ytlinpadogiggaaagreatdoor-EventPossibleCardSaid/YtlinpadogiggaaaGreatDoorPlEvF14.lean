/- Functions of the program, as partial functions in Lean, with proofs. -/
import Derived.Test.YtlinpadogiggaaaGreatDoorPlEvB
import Derived.Test.YtlinpadogiggaaaGreatDoorPlEvF0
import Derived.Test.YtlinpadogiggaaaGreatDoorPlEvF1
import Derived.Test.YtlinpadogiggaaaGreatDoorPlEvF12
import Derived.Test.YtlinpadogiggaaaGreatDoorPlEvF13
import Derived.Test.YtlinpadogiggaaaGreatDoorPlEvF2
import Derived.Test.YtlinpadogiggaaaGreatDoorPlEvF8
namespace Go.PL
open Go Go.RowKit Go.Proofs
set_option maxRecDepth 100000
set_option linter.all false
set_option maxHeartbeats 1000000
attribute [local irreducible] Holds thenQ blockQ
def r22_Check_J2  : Option (Int × Int) :=
 some ((-1 : Int), (0 : Int))
def r22_Check_B7 (a0 : List (SCard)) (i_t4_4 : Int) : Option ((Int) ⊕ ((Int × Int) ⊕ Unit)) :=
 (if (decide (i_t4_4 < (a0.length : Int))) = true then
  (idx a0 i_t4_4).bind fun e9 =>
  (r21_Is e9).bind fun r10 =>
  (if (!r10) = true then
   some (.inr (.inl (i_t4_4, (9 : Int))))
  else
   (idx a0 i_t4_4).bind fun e12 =>
   (r22_Find a0 e12.Name).bind fun r13 =>
   (if (decide (r13 < i_t4_4)) = true then
    some (.inr (.inl (i_t4_4, (6 : Int))))
   else
    (idx a0 i_t4_4).bind fun e15 =>
    (r22_creates a0 e15).bind fun r16 =>
    (if (!r16) = true then
     some (.inr (.inl (i_t4_4, (7 : Int))))
    else
     some (.inl (wrap64 (i_t4_4 + (1 : Int)))))))
 else
  some (.inr (.inr ())))
/-- cardgame/cardgameref22.Check -/
def r22_Check (a0 : List (SCard)) : Option (Int × Int) :=
 (if (decide ((256 : Int) < (a0.length : Int))) = true then
  some ((-1 : Int), (5 : Int))
 else
  (iter (fun (v : Int) => r22_Check_B7 a0 v) FU (0 : Int)).bind (Sum.elim (fun o0 => some (o0.1, o0.2)) (fun o1 => r22_Check_J2)))
def r22_Check_C (a0 : List (SCard)) (r : Int × Int) : Prop := PCall Tryz.prog I0 15 [vL encSCard a0] (· = .tup [vI r.1, vI r.2])
theorem r22_Check_ok {a0 : List (SCard)} {r : Int × Int} (h : r22_Check a0 = some r) : r22_Check_C a0 r := by
 refine PCall.body I0_stable (by kernel_rfl) Tryz.func15 rfl Tryz.ntmps15 (rs := [.tmp 2, .tmp 3]) rfl rfl ?_
 intro w0 av old gv
 unfold r22_Check at h
 refine Rg [.a, .a] (sl 39 [(0, vL encSCard a0)] []) (aN) ?_
 refine Holds.seq ?_
 refine Rg [.a, .a, .a] (sl 39 [(0, vL encSCard a0), (7, vB (decide ((256 : Int) < (a0.length : Int))))] []) (aN) ?_
 refine iB h (fun b1 h => ?_) (fun b1 h => ?_)
 · refine Rg [.a, .a] (sl 39 [(2, vI (-1 : Int)), (3, vI (5 : Int))] []) (aN) ?_
   refine Holds.ret ?_
   refine Tr ?_
   exact bQ (.tup [vI (-1 : Int), vI (5 : Int)]) (congrArg (fun (q : Int × Int) => (.tup [vI q.1, vI q.2] : V)) (sI h))
 · refine Holds.skip ?_
   refine Tn ?_
   refine Holds.seqJ (X := Unit) (fun v => (sl 39 [] [])) (fun v => r22_Check_J2 = some r) ?_ ?_
   · refine Rg [.a] (sl 39 [(0, vL encSCard a0), (4, vI (0 : Int))] []) (aN) ?_
     refine Holds.block ?_
     obtain ⟨oB7, hiB7, h⟩ := bS h
     refine Holds.iter (fun (v : Int) => (sl 39 [(0, vL encSCard a0), (4, vI v)] [])) hiB7 (lT) ?_
     rintro i_t4_4 zB7 hzB7 hoB7
     replace hzB7 : r22_Check_B7 a0 i_t4_4 = some zB7 := hzB7
     unfold r22_Check_B7 at hzB7
     refine Holds.seq ?_
     refine Rg [.a, .a, .a, .a] (sl 39 [(0, vL encSCard a0), (4, vI i_t4_4), (11, vB (decide (i_t4_4 < (a0.length : Int))))] []) (aN) ?_
     refine iB hzB7 (fun b8 hzB7 => ?_) (fun b8 hzB7 => ?_)
     · refine Holds.skip ?_
       refine Tn ?_
       refine Holds.seq ?_
       refine Holds.block ?_
       refine Holds.seq ?_
       obtain ⟨e9, he9, hzB7⟩ := bS hzB7
       obtain ⟨r10, hr10, hzB7⟩ := bS hzB7
       refine Rg [.a, .a, .a, (.v (vA encSCard e9)), (.c (vB r10)), .a] (sl 39 [(0, vL encSCard a0), (4, vI i_t4_4), (19, vB (!r10))] []) (aC (idx_b he9) <| aC (eld he9 lenSCard 0 17 true (vA encSCard e9)) <| aC (Eq.refl (vA encSCard e9)) <| aC (r21_Is_ok hr10) <| aN) ?_
       refine iB hzB7 (fun b11 hzB7 => ?_) (fun b11 hzB7 => ?_)
       · refine Rg [.a, .a, .a] (sl 39 [(2, vI i_t4_4), (3, vI (9 : Int))] []) (aN) ?_
         refine Holds.ret ?_
         refine Tr ?_
         refine blockQ.ret ?_
         refine Tr ?_
         have hoB7_ := hoB7 _ (sI hzB7).symm
         subst hoB7_
         replace h := sumL h
         refine Tr ?_
         refine blockQ.ret ?_
         refine Tr ?_
         exact bQ (.tup [vI i_t4_4, vI (9 : Int)]) (congrArg (fun (q : Int × Int) => (.tup [vI q.1, vI q.2] : V)) (sI h))
       · refine Holds.skip ?_
         refine Tn ?_
         refine Holds.seq ?_
         obtain ⟨e12, he12, hzB7⟩ := bS hzB7
         obtain ⟨r13, hr13, hzB7⟩ := bS hzB7
         refine Rg [.a, .a, .a, .a, .a, (.v (vS e12.Name)), (.c (vI r13)), .a, .a] (sl 39 [(0, vL encSCard a0), (4, vI i_t4_4), (29, vB (decide (r13 < i_t4_4)))] []) (aC (idx_b he12) <| aC (eld he12 lenSCard 0 1 false (vS e12.Name)) <| aC (Eq.refl (vS e12.Name)) <| aC (r22_Find_ok hr13) <| aN) ?_
         refine iB hzB7 (fun b14 hzB7 => ?_) (fun b14 hzB7 => ?_)
         · refine Rg [.a, .a, .a] (sl 39 [(2, vI i_t4_4), (3, vI (6 : Int))] []) (aN) ?_
           refine Holds.ret ?_
           refine Tr ?_
           refine blockQ.ret ?_
           refine Tr ?_
           have hoB7_ := hoB7 _ (sI hzB7).symm
           subst hoB7_
           replace h := sumL h
           refine Tr ?_
           refine blockQ.ret ?_
           refine Tr ?_
           exact bQ (.tup [vI i_t4_4, vI (6 : Int)]) (congrArg (fun (q : Int × Int) => (.tup [vI q.1, vI q.2] : V)) (sI h))
         · refine Holds.skip ?_
           refine Tn ?_
           obtain ⟨e15, he15, hzB7⟩ := bS hzB7
           obtain ⟨r16, hr16, hzB7⟩ := bS hzB7
           refine Rg [.a, .a, .a, .a, (.v (vA encSCard e15)), (.c (vB r16)), .a] (sl 39 [(0, vL encSCard a0), (4, vI i_t4_4), (37, vB (!r16))] []) (aC (idx_b he15) <| aC (eld he15 lenSCard 0 17 true (vA encSCard e15)) <| aC (Eq.refl (vA encSCard e15)) <| aC (r22_creates_ok hr16) <| aN) ?_
           refine iB hzB7 (fun b17 hzB7 => ?_) (fun b17 hzB7 => ?_)
           · refine Rg [.a, .a, .a] (sl 39 [(2, vI i_t4_4), (3, vI (7 : Int))] []) (aN) ?_
             refine Holds.ret ?_
             refine blockQ.ret ?_
             refine Tr ?_
             have hoB7_ := hoB7 _ (sI hzB7).symm
             subst hoB7_
             replace h := sumL h
             refine Tr ?_
             refine blockQ.ret ?_
             refine Tr ?_
             exact bQ (.tup [vI i_t4_4, vI (7 : Int)]) (congrArg (fun (q : Int × Int) => (.tup [vI q.1, vI q.2] : V)) (sI h))
           · refine Holds.skip ?_
             refine blockQ.normal ?_
             refine Tn ?_
             refine Re [.a, .a, .a] (sl 39 [(0, vL encSCard a0), (4, vI (wrap64 (i_t4_4 + (1 : Int)))), (12, vI i_t4_4), (13, vI (wrap64 (i_t4_4 + (1 : Int)))), (37, vB (!r16))] []) (aN) ?_
             refine Tn ⟨(wrap64 (i_t4_4 + (1 : Int))), (sI hzB7).symm, lT⟩
     · refine Holds.exit ?_
       refine thenQ.exit ?_
       have hoB7_ := hoB7 _ (sI hzB7).symm
       subst hoB7_
       replace h := sumR h
       refine thenQ.exit ?_
       refine blockQ.out ?_
       refine Tn ⟨(), h, lT⟩
   · rintro _ hJ2
     replace hJ2 : r22_Check_J2 = some r := hJ2
     unfold r22_Check_J2 at hJ2
     refine Rg [.a, .a] (sl 39 [(2, vI (-1 : Int)), (3, vI (0 : Int))] []) (aN) ?_
     refine Holds.ret ?_
     exact bQ (.tup [vI (-1 : Int), vI (0 : Int)]) (congrArg (fun (q : Int × Int) => (.tup [vI q.1, vI q.2] : V)) (sI hJ2))
def r26_stack_J6  : Option (Bool) :=
 some true
def r26_stack_B9 (a0 : SState) (vt7_8 : Int) : Option ((Int) ⊕ (Unit ⊕ Unit)) :=
 (if (decide (vt7_8 < (a0.Conts.length : Int))) = true then
  (idx a0.Conts vt7_8).bind fun e11 =>
  (r26_player a0 e11.Control).bind fun r12 =>
  (some (if (!r12) = true then true else decide (a0.NextStamp ≤ e11.Stamp))).bind fun b13 =>
  (gd (b13 == false) (r26_in e11.Until (1 : Int) (2 : Int))).bind fun r14 =>
  (some (if b13 = true then true else !r14)).bind fun b15 =>
  (gd (b15 == false) (r03_Is e11.Objects)).bind fun r16 =>
  (some (if b15 = true then true else !r16)).bind fun b17 =>
  (gd (b17 == false) (r15_ListText e11.Mods)).bind fun r18 =>
  (some (if b17 = true then true else r18 == ([] : List UInt8))).bind fun b19 =>
  (if b19 = true then
   some (.inr (.inl ()))
  else
   some (.inl (wrap64 (vt7_8 + (1 : Int)))))
 else
  some (.inr (.inr ())))
def r26_stack_J5 (a0 : SState) : Option (Bool) :=
 (iter (fun (v : Int) => r26_stack_B9 a0 v) FU (0 : Int)).bind (Sum.elim (fun o0 => some false) (fun o1 => r26_stack_J6))
def r26_stack_B23 (a0 : SState) (vt5_22 : Int) : Option ((Int) ⊕ (Unit ⊕ Unit)) :=
 (if (decide (vt5_22 < (a0.Waiting.length : Int))) = true then
  (idx a0.Waiting vt5_22).bind fun e25 =>
  (r26_player a0 e25.Control).bind fun r26 =>
  (some (if (!r26) = true then true else e25.Ability.Kind != (4 : Int))).bind fun b27 =>
  (gd (b27 == false) (r20_Is e25.Ability)).bind fun r28 =>
  (some (if b27 = true then true else !r28)).bind fun b29 =>
  (if b29 = true then
   some (.inr (.inl ()))
  else
   some (.inl (wrap64 (vt5_22 + (1 : Int)))))
 else
  some (.inr (.inr ())))
def r26_stack_J4 (a0 : SState) : Option (Bool) :=
 (iter (fun (v : Int) => r26_stack_B23 a0 v) FU (0 : Int)).bind (Sum.elim (fun o0 => some false) (fun o1 => r26_stack_J5 a0))
def r26_stack_J35 (vt3_32 : Int) : Option ((Int) ⊕ (Unit ⊕ Unit)) :=
 some (.inl (wrap64 (vt3_32 + (1 : Int))))
def r26_stack_B41 (a0 : SState) (vt3_32 : Int) (vt4_40 : Int) : Option ((Int) ⊕ (Unit ⊕ Unit)) :=
 (if (decide (vt4_40 < vt3_32)) = true then
  (idx a0.Stack vt4_40).bind fun e43 =>
  (idx a0.Stack vt3_32).bind fun e44 =>
  (if (e43.Id == e44.Id) = true then
   some (.inr (.inl ()))
  else
   some (.inl (wrap64 (vt4_40 + (1 : Int)))))
 else
  some (.inr (.inr ())))
def r26_stack_B33 (a0 : SState) (vt3_32 : Int) : Option ((Int) ⊕ (Unit ⊕ Unit)) :=
 (if (decide (vt3_32 < (a0.Stack.length : Int))) = true then
  (idx a0.Stack vt3_32).bind fun e36 =>
  (r26_item a0 e36).bind fun r37 =>
  (if (!r37) = true then
   some (.inr (.inl ()))
  else
   (iter (fun (v : Int) => r26_stack_B41 a0 vt3_32 v) FU (0 : Int)).bind (Sum.elim (fun o0 => some (.inr (.inl ()))) (fun o1 => r26_stack_J35 vt3_32)))
 else
  some (.inr (.inr ())))
/-- cardgame/cardgameref26.stack -/
def r26_stack (a0 : SState) : Option (Bool) :=
 (some (if (decide ((64 : Int) < (a0.Stack.length : Int))) = true then true else decide ((64 : Int) < (a0.Waiting.length : Int)))).bind fun b1 =>
 (some (if b1 = true then true else decide ((64 : Int) < (a0.Conts.length : Int)))).bind fun b2 =>
 (if b2 = true then
  some false
 else
  (iter (fun (v : Int) => r26_stack_B33 a0 v) FU (0 : Int)).bind (Sum.elim (fun o0 => some false) (fun o1 => r26_stack_J4 a0)))
def r26_stack_C (a0 : SState) (r : Bool) : Prop := PCall Tryz.prog I0 41 [vA encSState a0] (· = vB r)
theorem r26_stack_ok {a0 : SState} {r : Bool} (h : r26_stack a0 = some r) : r26_stack_C a0 r := by
 refine PCall.body I0_stable (by kernel_rfl) Tryz.func41 rfl Tryz.ntmps41 (rs := [.tmp 2]) rfl rfl ?_
 intro w0 av old gv
 unfold r26_stack at h
 refine Rg [.a, .a] (sl 129 [(1, vP [1] (0))] [bx [1] (encSState a0)]) (aN) ?_
 refine Holds.seq ?_
 obtain ⟨b1, hb1, h⟩ := bS h
 obtain ⟨b2, hb2, h⟩ := bS h
 refine Rg [.a, .a, .a, .a, .a, .a, .a, .a, .a, (.v (vB b1)), .a, .a, .a, .a, .a, (.v (vB b2))] (sl 129 [(1, vP [1] (0)), (24, vB b2)] [bx [1] (encSState a0)]) (aG ((decide ((64 : Int) < (a0.Stack.length : Int))) == false) <| aG ((decide ((64 : Int) < (a0.Stack.length : Int))) == false) <| aG ((decide ((64 : Int) < (a0.Stack.length : Int))) == false) <| aF (decide ((64 : Int) < (a0.Stack.length : Int))) <| aB hb1 <| aG (b1 == false) <| aG (b1 == false) <| aG (b1 == false) <| aF b1 <| aB hb2 <| aN) ?_
 refine iB h (fun b3 h => ?_) (fun b3 h => ?_)
 · refine Rg [.a] (sl 129 [(2, vB false)] []) (aN) ?_
   refine Holds.ret ?_
   refine Tr ?_
   exact bQ (vB false) (congrArg vB (sI h))
 · refine Holds.skip ?_
   refine Tn ?_
   refine Holds.seqJ (X := Unit) (fun v => (sl 129 [(1, vP [1] (0))] [bx [1] (encSState a0)])) (fun v => r26_stack_J4 a0 = some r) ?_ ?_
   · refine Rg [.a] (sl 129 [(1, vP [1] (0)), (3, vI (0 : Int))] [bx [1] (encSState a0)]) (aN) ?_
     refine Holds.block ?_
     obtain ⟨oB33, hiB33, h⟩ := bS h
     refine Holds.iter (fun (v : Int) => (sl 129 [(1, vP [1] (0)), (3, vI v)] [bx [1] (encSState a0)])) hiB33 (lT) ?_
     rintro vt3_32 zB33 hzB33 hoB33
     replace hzB33 : r26_stack_B33 a0 vt3_32 = some zB33 := hzB33
     unfold r26_stack_B33 at hzB33
     refine Holds.seq ?_
     refine Rg [.a, .a, .a, .a, .a] (sl 129 [(1, vP [1] (0)), (3, vI vt3_32), (29, vB (decide (vt3_32 < (a0.Stack.length : Int))))] [bx [1] (encSState a0)]) (aN) ?_
     refine iB hzB33 (fun b34 hzB33 => ?_) (fun b34 hzB33 => ?_)
     · refine Holds.skip ?_
       refine Tn ?_
       refine Holds.seqJ (X := Unit) (fun v => (sl 129 [(1, vP [1] (0)), (3, vI vt3_32)] [bx [1] (encSState a0)])) (fun v => r26_stack_J35 vt3_32 = some zB33) ?_ ?_
       · refine Holds.block ?_
         refine Holds.seq ?_
         obtain ⟨e36, he36, hzB33⟩ := bS hzB33
         obtain ⟨r37, hr37, hzB33⟩ := bS hzB33
         refine Rq followsP [.a, .a, .a, .a, .a, (.v (vA encSItem e36)), (.c (vB r37)), .a] (sl 129 [(1, vP [1] (0)), (3, vI vt3_32), (39, vB (!r37))] [bx [1] (encSState a0)]) (aC (idx_b he36) <| aC (eld he36 lenSItem 0 94 true (vA encSItem e36)) <| aC (Eq.refl (vA encSItem e36)) <| aC (r26_item_ok hr37) <| aN) ?_
         refine iB hzB33 (fun b38 hzB33 => ?_) (fun b38 hzB33 => ?_)
         · refine Rg [.a] (sl 129 [(2, vB false)] []) (aN) ?_
           refine Holds.ret ?_
           refine Tr ?_
           refine blockQ.ret ?_
           refine Tr ?_
           have hoB33_ := hoB33 _ (sI hzB33).symm
           subst hoB33_
           replace h := sumL h
           refine Tr ?_
           refine blockQ.ret ?_
           refine Tr ?_
           exact bQ (vB false) (congrArg vB (sI h))
         · refine Holds.skip ?_
           refine Tn ?_
           refine Rg [.a] (sl 129 [(1, vP [1] (0)), (3, vI vt3_32), (4, vI (0 : Int))] [bx [1] (encSState a0)]) (aN) ?_
           refine Holds.block ?_
           obtain ⟨oB41, hiB41, hzB33⟩ := bS hzB33
           refine Holds.iter (fun (v : Int) => (sl 129 [(1, vP [1] (0)), (3, vI vt3_32), (4, vI v)] [bx [1] (encSState a0)])) hiB41 (lT) ?_
           rintro vt4_40 zB41 hzB41 hoB41
           replace hzB41 : r26_stack_B41 a0 vt3_32 vt4_40 = some zB41 := hzB41
           unfold r26_stack_B41 at hzB41
           refine Holds.seq ?_
           refine Rg [.a, .a, .a] (sl 129 [(1, vP [1] (0)), (3, vI vt3_32), (4, vI vt4_40), (42, vB (decide (vt4_40 < vt3_32)))] [bx [1] (encSState a0)]) (aN) ?_
           refine iB hzB41 (fun b42 hzB41 => ?_) (fun b42 hzB41 => ?_)
           · refine Holds.skip ?_
             refine Tn ?_
             refine Holds.seq ?_
             refine Holds.block ?_
             obtain ⟨e43, he43, hzB41⟩ := bS hzB41
             obtain ⟨e44, he44, hzB41⟩ := bS hzB41
             refine Rq followsP [.a, .a, .a, .a, .a, (.v (vI e43.Id)), .a, .a, .a, .a, .a, (.v (vI e44.Id)), .a] (sl 129 [(1, vP [1] (0)), (3, vI vt3_32), (4, vI vt4_40), (57, vB (e43.Id == e44.Id))] [bx [1] (encSState a0)]) (aC (idx_b he43) <| aC (eld he43 lenSItem 0 1 false (vI e43.Id)) <| aC (Eq.refl (vI e43.Id)) <| aC (idx_b he44) <| aC (eld he44 lenSItem 0 1 false (vI e44.Id)) <| aC (Eq.refl (vI e44.Id)) <| aN) ?_
             refine iB hzB41 (fun b45 hzB41 => ?_) (fun b45 hzB41 => ?_)
             · refine Rg [.a] (sl 129 [(2, vB false)] []) (aN) ?_
               refine Holds.ret ?_
               refine blockQ.ret ?_
               refine Tr ?_
               have hoB41_ := hoB41 _ (sI hzB41).symm
               subst hoB41_
               replace hzB33 := sumL hzB33
               refine Tr ?_
               refine blockQ.ret ?_
               refine blockQ.ret ?_
               refine Tr ?_
               have hoB33_ := hoB33 _ (sI hzB33).symm
               subst hoB33_
               replace h := sumL h
               refine Tr ?_
               refine blockQ.ret ?_
               refine Tr ?_
               exact bQ (vB false) (congrArg vB (sI h))
             · refine Holds.skip ?_
               refine blockQ.normal ?_
               refine Tn ?_
               refine Re [.a, .a, .a] (sl 129 [(1, vP [1] (0)), (3, vI vt3_32), (4, vI (wrap64 (vt4_40 + (1 : Int)))), (43, vI vt4_40), (44, vI (wrap64 (vt4_40 + (1 : Int)))), (57, vB (e43.Id == e44.Id))] [bx [1] (encSState a0)]) (aN) ?_
               refine Tn ⟨(wrap64 (vt4_40 + (1 : Int))), (sI hzB41).symm, lT⟩
           · refine Holds.exit ?_
             refine thenQ.exit ?_
             have hoB41_ := hoB41 _ (sI hzB41).symm
             subst hoB41_
             replace hzB33 := sumR hzB33
             refine thenQ.exit ?_
             refine blockQ.out ?_
             refine blockQ.normal ?_
             refine Tn ⟨(), hzB33, lT⟩
       · rintro _ hJ35
         replace hJ35 : r26_stack_J35 vt3_32 = some zB33 := hJ35
         unfold r26_stack_J35 at hJ35
         refine Re [.a, .a, .a] (sl 129 [(1, vP [1] (0)), (3, vI (wrap64 (vt3_32 + (1 : Int)))), (30, vI vt3_32), (31, vI (wrap64 (vt3_32 + (1 : Int))))] [bx [1] (encSState a0)]) (aN) ?_
         refine Tn ⟨(wrap64 (vt3_32 + (1 : Int))), (sI hJ35).symm, lT⟩
     · refine Holds.exit ?_
       refine thenQ.exit ?_
       have hoB33_ := hoB33 _ (sI hzB33).symm
       subst hoB33_
       replace h := sumR h
       refine thenQ.exit ?_
       refine blockQ.out ?_
       refine Tn ⟨(), h, lT⟩
   · rintro _ hJ4
     replace hJ4 : r26_stack_J4 a0 = some r := hJ4
     unfold r26_stack_J4 at hJ4
     refine Holds.seqJ (X := Unit) (fun v => (sl 129 [(1, vP [1] (0))] [bx [1] (encSState a0)])) (fun v => r26_stack_J5 a0 = some r) ?_ ?_
     · refine Rg [.a] (sl 129 [(1, vP [1] (0)), (5, vI (0 : Int))] [bx [1] (encSState a0)]) (aN) ?_
       refine Holds.block ?_
       obtain ⟨oB23, hiB23, hJ4⟩ := bS hJ4
       refine Holds.iter (fun (v : Int) => (sl 129 [(1, vP [1] (0)), (5, vI v)] [bx [1] (encSState a0)])) hiB23 (lT) ?_
       rintro vt5_22 zB23 hzB23 hoB23
       replace hzB23 : r26_stack_B23 a0 vt5_22 = some zB23 := hzB23
       unfold r26_stack_B23 at hzB23
       refine Holds.seq ?_
       refine Rg [.a, .a, .a, .a, .a] (sl 129 [(1, vP [1] (0)), (5, vI vt5_22), (62, vB (decide (vt5_22 < (a0.Waiting.length : Int))))] [bx [1] (encSState a0)]) (aN) ?_
       refine iB hzB23 (fun b24 hzB23 => ?_) (fun b24 hzB23 => ?_)
       · refine Holds.skip ?_
         refine Tn ?_
         refine Holds.seq ?_
         refine Holds.block ?_
         obtain ⟨e25, he25, hzB23⟩ := bS hzB23
         refine Rg [.a, .a, .a, .a, (.v (vA encSWaiting e25)), .a, .a] (sl 129 [(1, vP [1] (0)), (5, vI vt5_22), (6, vP [6] (0))] [bx [6] (encSWaiting e25), bx [1] (encSState a0)]) (aC (idx_b he25) <| aC (eld he25 lenSWaiting 0 89 true (vA encSWaiting e25)) <| aC (Eq.refl (vA encSWaiting e25)) <| aN) ?_
         obtain ⟨r26, hr26, hzB23⟩ := bS hzB23
         obtain ⟨b27, hb27, hzB23⟩ := bS hzB23
         obtain ⟨r28, hr28, hzB23⟩ := bS hzB23
         obtain ⟨b29, hb29, hzB23⟩ := bS hzB23
         refine Rg [.a, .a, .a, (.c (vB r26)), .a, .a, .a, .a, .a, .a, (.v (vB b27)), .a, .a, .a, (.c (vB r28)), .a, (.v (vB b29))] (sl 129 [(1, vP [1] (0)), (5, vI vt5_22), (86, vB b29)] [bx [1] (encSState a0)]) (aC (r26_player_ok hr26) <| aG ((!r26) == false) <| aG ((!r26) == false) <| aG ((!r26) == false) <| aF (!r26) <| aB hb27 <| aG (b27 == false) <| aC (c1 hr28 r20_Is_ok) <| aG (b27 == false) <| aF b27 <| aB hb29 <| aN) ?_
         refine iB hzB23 (fun b30 hzB23 => ?_) (fun b30 hzB23 => ?_)
         · refine Rg [.a] (sl 129 [(2, vB false)] []) (aN) ?_
           refine Holds.ret ?_
           refine blockQ.ret ?_
           refine Tr ?_
           have hoB23_ := hoB23 _ (sI hzB23).symm
           subst hoB23_
           replace hJ4 := sumL hJ4
           refine Tr ?_
           refine blockQ.ret ?_
           refine Tr ?_
           exact bQ (vB false) (congrArg vB (sI hJ4))
         · refine Holds.skip ?_
           refine blockQ.normal ?_
           refine Tn ?_
           refine Re [.a, .a, .a] (sl 129 [(1, vP [1] (0)), (5, vI (wrap64 (vt5_22 + (1 : Int)))), (63, vI vt5_22), (64, vI (wrap64 (vt5_22 + (1 : Int)))), (86, vB b29)] [bx [1] (encSState a0)]) (aN) ?_
           refine Tn ⟨(wrap64 (vt5_22 + (1 : Int))), (sI hzB23).symm, lT⟩
       · refine Holds.exit ?_
         refine thenQ.exit ?_
         have hoB23_ := hoB23 _ (sI hzB23).symm
         subst hoB23_
         replace hJ4 := sumR hJ4
         refine thenQ.exit ?_
         refine blockQ.out ?_
         refine Tn ⟨(), hJ4, lT⟩
     · rintro _ hJ5
       replace hJ5 : r26_stack_J5 a0 = some r := hJ5
       unfold r26_stack_J5 at hJ5
       refine Holds.seqJ (X := Unit) (fun v => (sl 129 [] [])) (fun v => r26_stack_J6 = some r) ?_ ?_
       · refine Rg [.a] (sl 129 [(1, vP [1] (0)), (7, vI (0 : Int))] [bx [1] (encSState a0)]) (aN) ?_
         refine Holds.block ?_
         obtain ⟨oB9, hiB9, hJ5⟩ := bS hJ5
         refine Holds.iter (fun (v : Int) => (sl 129 [(1, vP [1] (0)), (7, vI v)] [bx [1] (encSState a0)])) hiB9 (lT) ?_
         rintro vt7_8 zB9 hzB9 hoB9
         replace hzB9 : r26_stack_B9 a0 vt7_8 = some zB9 := hzB9
         unfold r26_stack_B9 at hzB9
         refine Holds.seq ?_
         refine Rg [.a, .a, .a, .a, .a] (sl 129 [(1, vP [1] (0)), (7, vI vt7_8), (91, vB (decide (vt7_8 < (a0.Conts.length : Int))))] [bx [1] (encSState a0)]) (aN) ?_
         refine iB hzB9 (fun b10 hzB9 => ?_) (fun b10 hzB9 => ?_)
         · refine Holds.skip ?_
           refine Tn ?_
           refine Holds.seq ?_
           refine Holds.block ?_
           obtain ⟨e11, he11, hzB9⟩ := bS hzB9
           refine Rg [.a, .a, .a, .a, (.v (vA encSCont e11)), .a, .a] (sl 129 [(1, vP [1] (0)), (7, vI vt7_8), (8, vP [8] (0))] [bx [8] (encSCont e11), bx [1] (encSState a0)]) (aC (idx_b he11) <| aC (eld he11 lenSCont 0 6 true (vA encSCont e11)) <| aC (Eq.refl (vA encSCont e11)) <| aN) ?_
           obtain ⟨r12, hr12, hzB9⟩ := bS hzB9
           obtain ⟨b13, hb13, hzB9⟩ := bS hzB9
           obtain ⟨r14, hr14, hzB9⟩ := bS hzB9
           obtain ⟨b15, hb15, hzB9⟩ := bS hzB9
           obtain ⟨r16, hr16, hzB9⟩ := bS hzB9
           obtain ⟨b17, hb17, hzB9⟩ := bS hzB9
           obtain ⟨r18, hr18, hzB9⟩ := bS hzB9
           obtain ⟨b19, hb19, hzB9⟩ := bS hzB9
           refine Rg [.a, .a, .a, (.c (vB r12)), .a, .a, .a, .a, .a, .a, .a, (.v (vB b13)), .a, .a, .a, (.c (vB r14)), .a, (.v (vB b15)), .a, .a, .a, (.c (vB r16)), .a, (.v (vB b17)), .a, .a, .a, (.c (vS r18)), .a, (.v (vB b19))] (sl 129 [(1, vP [1] (0)), (7, vI vt7_8), (128, vB b19)] [bx [1] (encSState a0)]) (aC (r26_player_ok hr12) <| aG ((!r12) == false) <| aG ((!r12) == false) <| aH ((!r12) == false) <| aF (!r12) <| aB hb13 <| aG (b13 == false) <| aC (c1 hr14 r26_in_ok) <| aG (b13 == false) <| aF b13 <| aB hb15 <| aG (b15 == false) <| aC (c1 hr16 r03_Is_ok) <| aG (b15 == false) <| aF b15 <| aB hb17 <| aG (b17 == false) <| aC (c1 hr18 r15_ListText_ok) <| aG (b17 == false) <| aF b17 <| aB hb19 <| aN) ?_
           refine iB hzB9 (fun b20 hzB9 => ?_) (fun b20 hzB9 => ?_)
           · refine Rg [.a] (sl 129 [(2, vB false)] []) (aN) ?_
             refine Holds.ret ?_
             refine blockQ.ret ?_
             refine Tr ?_
             have hoB9_ := hoB9 _ (sI hzB9).symm
             subst hoB9_
             replace hJ5 := sumL hJ5
             refine Tr ?_
             refine blockQ.ret ?_
             refine Tr ?_
             exact bQ (vB false) (congrArg vB (sI hJ5))
           · refine Holds.skip ?_
             refine blockQ.normal ?_
             refine Tn ?_
             refine Re [.a, .a, .a] (sl 129 [(1, vP [1] (0)), (7, vI (wrap64 (vt7_8 + (1 : Int)))), (92, vI vt7_8), (93, vI (wrap64 (vt7_8 + (1 : Int)))), (128, vB b19)] [bx [1] (encSState a0)]) (aN) ?_
             refine Tn ⟨(wrap64 (vt7_8 + (1 : Int))), (sI hzB9).symm, lT⟩
         · refine Holds.exit ?_
           refine thenQ.exit ?_
           have hoB9_ := hoB9 _ (sI hzB9).symm
           subst hoB9_
           replace hJ5 := sumR hJ5
           refine thenQ.exit ?_
           refine blockQ.out ?_
           refine Tn ⟨(), hJ5, lT⟩
       · rintro _ hJ6
         replace hJ6 : r26_stack_J6 = some r := hJ6
         unfold r26_stack_J6 at hJ6
         refine Rg [.a] (sl 129 [(2, vB true)] []) (aN) ?_
         refine Holds.ret ?_
         exact bQ (vB true) (congrArg vB (sI hJ6))
end Go.PL
