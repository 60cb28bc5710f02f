/- Functions of the program, as partial functions in Lean, with proofs. -/
import Derived.Test.YtedobbmpljbccaaGreatDoorPlDkB
import Derived.Test.YtedobbmpljbccaaGreatDoorPlDkF0
import Derived.Test.YtedobbmpljbccaaGreatDoorPlDkF13
import Derived.Test.YtedobbmpljbccaaGreatDoorPlDkF2
namespace Go.PL
open Go Go.RowKit Go.Proofs
set_option maxRecDepth 100000
set_option linter.all false
set_option maxHeartbeats 1000000
attribute [local irreducible] Holds thenQ blockQ
def r22_Check_J2  : Option (Int × Int) :=
 some ((-1 : Int), (0 : Int))
def r22_Check_B7 (a0 : List (SCard)) (i_t4_4 : Int) : Option ((Int) ⊕ ((Int × Int) ⊕ Unit)) :=
 (if (decide (i_t4_4 < (a0.length : Int))) = true then
  (idx a0 i_t4_4).bind fun e9 =>
  (r21_Is e9).bind fun r10 =>
  (if (!r10) = true then
   some (.inr (.inl (i_t4_4, (9 : Int))))
  else
   (idx a0 i_t4_4).bind fun e12 =>
   (r22_Find a0 e12.Name).bind fun r13 =>
   (if (decide (r13 < i_t4_4)) = true then
    some (.inr (.inl (i_t4_4, (6 : Int))))
   else
    (idx a0 i_t4_4).bind fun e15 =>
    (r22_creates a0 e15).bind fun r16 =>
    (if (!r16) = true then
     some (.inr (.inl (i_t4_4, (7 : Int))))
    else
     some (.inl (wrap64 (i_t4_4 + (1 : Int)))))))
 else
  some (.inr (.inr ())))
/-- cardgame/cardgameref22.Check -/
def r22_Check (a0 : List (SCard)) : Option (Int × Int) :=
 (if (decide ((256 : Int) < (a0.length : Int))) = true then
  some ((-1 : Int), (5 : Int))
 else
  (iter (fun (v : Int) => r22_Check_B7 a0 v) FU (0 : Int)).bind (Sum.elim (fun o0 => some (o0.1, o0.2)) (fun o1 => r22_Check_J2)))
def r22_Check_C (a0 : List (SCard)) (r : Int × Int) : Prop := PCall Tryz.prog I0 35 [vL encSCard a0] (· = .tup [vI r.1, vI r.2])
theorem r22_Check_ok {a0 : List (SCard)} {r : Int × Int} (h : r22_Check a0 = some r) : r22_Check_C a0 r := by
 refine PCall.body I0_stable (by kernel_rfl) Tryz.func35 rfl Tryz.ntmps35 (rs := [.tmp 2, .tmp 3]) rfl rfl ?_
 intro w0 av old gv
 unfold r22_Check at h
 refine Rg [.a, .a] (sl 39 [(0, vL encSCard a0)] []) (aN) ?_
 refine Holds.seq ?_
 refine Rg [.a, .a, .a] (sl 39 [(0, vL encSCard a0), (7, vB (decide ((256 : Int) < (a0.length : Int))))] []) (aN) ?_
 refine iB h (fun b1 h => ?_) (fun b1 h => ?_)
 · refine Rg [.a, .a] (sl 39 [(2, vI (-1 : Int)), (3, vI (5 : Int))] []) (aN) ?_
   refine Holds.ret ?_
   refine Tr ?_
   exact bQ (.tup [vI (-1 : Int), vI (5 : Int)]) (congrArg (fun (q : Int × Int) => (.tup [vI q.1, vI q.2] : V)) (sI h))
 · refine Holds.skip ?_
   refine Tn ?_
   refine Sj (X := Unit) (fun v => (sl 39 [] [])) (fun v => r22_Check_J2 = some r) ?_ ?_
   · refine Rg [.a] (sl 39 [(0, vL encSCard a0), (4, vI (0 : Int))] []) (aN) ?_
     refine Holds.block ?_
     obtain ⟨oB7, hiB7, h⟩ := bS h
     refine It (fun (v : Int) => (sl 39 [(0, vL encSCard a0), (4, vI v)] [])) hiB7 (wT) ?_
     rintro i_t4_4 zB7 hzB7 hoB7
     replace hzB7 : r22_Check_B7 a0 i_t4_4 = some zB7 := hzB7
     unfold r22_Check_B7 at hzB7
     refine Holds.seq ?_
     refine Rg [.a, .a, .a, .a] (sl 39 [(0, vL encSCard a0), (4, vI i_t4_4), (11, vB (decide (i_t4_4 < (a0.length : Int))))] []) (aN) ?_
     refine iB hzB7 (fun b8 hzB7 => ?_) (fun b8 hzB7 => ?_)
     · refine Holds.skip ?_
       refine Tn ?_
       refine Holds.seq ?_
       refine Holds.block ?_
       refine Holds.seq ?_
       obtain ⟨e9, he9, hzB7⟩ := bS hzB7
       obtain ⟨r10, hr10, hzB7⟩ := bS hzB7
       refine Rg [.a, .a, .a, (.v (vA encSCard e9)), (.c (vB r10)), .a] (sl 39 [(0, vL encSCard a0), (4, vI i_t4_4), (19, vB (!r10))] []) (aC (idx_b he9) <| aC (eld he9 lenSCard 0 17 true (vA encSCard e9)) <| aC (Eq.refl (vA encSCard e9)) <| aC (r21_Is_ok hr10) <| aN) ?_
       refine iB hzB7 (fun b11 hzB7 => ?_) (fun b11 hzB7 => ?_)
       · refine Rg [.a, .a, .a] (sl 39 [(2, vI i_t4_4), (3, vI (9 : Int))] []) (aN) ?_
         refine Holds.ret ?_
         refine Tr ?_
         refine blockQ.ret ?_
         refine Tr ?_
         have hoB7_ := hoB7 _ (sI hzB7).symm
         subst hoB7_
         replace h := sumL h
         refine Tr ?_
         refine blockQ.ret ?_
         refine Tr ?_
         exact bQ (.tup [vI i_t4_4, vI (9 : Int)]) (congrArg (fun (q : Int × Int) => (.tup [vI q.1, vI q.2] : V)) (sI h))
       · refine Holds.skip ?_
         refine Tn ?_
         refine Holds.seq ?_
         obtain ⟨e12, he12, hzB7⟩ := bS hzB7
         obtain ⟨r13, hr13, hzB7⟩ := bS hzB7
         refine Rg [.a, .a, .a, .a, .a, (.v (vS e12.Name)), (.c (vI r13)), .a, .a] (sl 39 [(0, vL encSCard a0), (4, vI i_t4_4), (29, vB (decide (r13 < i_t4_4)))] []) (aC (idx_b he12) <| aC (eld he12 lenSCard 0 1 false (vS e12.Name)) <| aC (Eq.refl (vS e12.Name)) <| aC (r22_Find_ok hr13) <| aN) ?_
         refine iB hzB7 (fun b14 hzB7 => ?_) (fun b14 hzB7 => ?_)
         · refine Rg [.a, .a, .a] (sl 39 [(2, vI i_t4_4), (3, vI (6 : Int))] []) (aN) ?_
           refine Holds.ret ?_
           refine Tr ?_
           refine blockQ.ret ?_
           refine Tr ?_
           have hoB7_ := hoB7 _ (sI hzB7).symm
           subst hoB7_
           replace h := sumL h
           refine Tr ?_
           refine blockQ.ret ?_
           refine Tr ?_
           exact bQ (.tup [vI i_t4_4, vI (6 : Int)]) (congrArg (fun (q : Int × Int) => (.tup [vI q.1, vI q.2] : V)) (sI h))
         · refine Holds.skip ?_
           refine Tn ?_
           obtain ⟨e15, he15, hzB7⟩ := bS hzB7
           obtain ⟨r16, hr16, hzB7⟩ := bS hzB7
           refine Rg [.a, .a, .a, .a, (.v (vA encSCard e15)), (.c (vB r16)), .a] (sl 39 [(0, vL encSCard a0), (4, vI i_t4_4), (37, vB (!r16))] []) (aC (idx_b he15) <| aC (eld he15 lenSCard 0 17 true (vA encSCard e15)) <| aC (Eq.refl (vA encSCard e15)) <| aC (r22_creates_ok hr16) <| aN) ?_
           refine iB hzB7 (fun b17 hzB7 => ?_) (fun b17 hzB7 => ?_)
           · refine Rg [.a, .a, .a] (sl 39 [(2, vI i_t4_4), (3, vI (7 : Int))] []) (aN) ?_
             refine Holds.ret ?_
             refine blockQ.ret ?_
             refine Tr ?_
             have hoB7_ := hoB7 _ (sI hzB7).symm
             subst hoB7_
             replace h := sumL h
             refine Tr ?_
             refine blockQ.ret ?_
             refine Tr ?_
             exact bQ (.tup [vI i_t4_4, vI (7 : Int)]) (congrArg (fun (q : Int × Int) => (.tup [vI q.1, vI q.2] : V)) (sI h))
           · refine Holds.skip ?_
             refine blockQ.normal ?_
             refine Tn ?_
             refine Re [.a, .a, .a] (sl 39 [(0, vL encSCard a0), (4, vI (wrap64 (i_t4_4 + (1 : Int)))), (12, vI i_t4_4), (13, vI (wrap64 (i_t4_4 + (1 : Int)))), (37, vB (!r16))] []) (aN) ?_
             refine Tn ⟨(wrap64 (i_t4_4 + (1 : Int))), (sI hzB7).symm, wT⟩
     · refine Holds.exit ?_
       refine thenQ.exit ?_
       have hoB7_ := hoB7 _ (sI hzB7).symm
       subst hoB7_
       replace h := sumR h
       refine thenQ.exit ?_
       refine blockQ.out ?_
       refine Tn ⟨(), h, wT⟩
   · rintro _ hJ2
     replace hJ2 : r22_Check_J2 = some r := hJ2
     unfold r22_Check_J2 at hJ2
     refine Rg [.a, .a] (sl 39 [(2, vI (-1 : Int)), (3, vI (0 : Int))] []) (aN) ?_
     refine Holds.ret ?_
     exact bQ (.tup [vI (-1 : Int), vI (0 : Int)]) (congrArg (fun (q : Int × Int) => (.tup [vI q.1, vI q.2] : V)) (sI hJ2))
end Go.PL
