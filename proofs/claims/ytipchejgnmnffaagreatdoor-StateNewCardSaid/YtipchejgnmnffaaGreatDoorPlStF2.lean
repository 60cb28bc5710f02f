/- Functions of the program, as partial functions in Lean, with proofs. -/
import Derived.Test.YtipchejgnmnffaaGreatDoorPlStB
namespace Go.PL
open Go Go.RowKit Go.Proofs
set_option maxRecDepth 100000
set_option linter.all false
set_option maxHeartbeats 1000000
attribute [local irreducible] Holds thenQ blockQ
def r25_place_J1  : Option (Int) :=
 some (-1 : Int)
def r25_place_B5 (a0 : SState) (a1 : Int) (i_t5_3 : Int) : Option ((Int) ⊕ (Int ⊕ Unit)) :=
 (if (decide (i_t5_3 < (a0.Objects.length : Int))) = true then
  (idx a0.Objects i_t5_3).bind fun e7 =>
  (if (e7.Id == a1) = true then
   some (.inr (.inl i_t5_3))
  else
   some (.inl (wrap64 (i_t5_3 + (1 : Int)))))
 else
  some (.inr (.inr ())))
/-- cardgame/cardgameref25.place -/
def r25_place (a0 : SState) (a1 : Int) : Option (Int) :=
 (iter (fun (v : Int) => r25_place_B5 a0 a1 v) FU (0 : Int)).bind (Sum.elim (fun o0 => some o0) (fun o1 => r25_place_J1))
def r25_place_C (a0 : SState) (a1 : Int) (r : Int) : Prop := PCall Tryz.prog I0 213 [vA encSState a0, vI a1] (· = vI r)
theorem r25_place_ok {a0 : SState} {a1 : Int} {r : Int} (h : r25_place a0 a1 = some r) : r25_place_C a0 a1 r := by
 refine PCall.body I0_stable (by kernel_rfl) Tryz.func213 rfl Tryz.ntmps213 (rs := [.tmp 4]) rfl rfl ?_
 intro w0 av old gv
 unfold r25_place at h
 refine Rg [.a, .a] (sl 22 [(1, vI a1), (2, vP [2] (0))] [bx [2] (encSState a0)]) (aN) ?_
 refine Sj (X := Unit) (fun v => (sl 22 [] [])) (fun v => r25_place_J1 = some r) ?_ ?_
 · refine Rg [.a] (sl 22 [(1, vI a1), (2, vP [2] (0)), (5, vI (0 : Int))] [bx [2] (encSState a0)]) (aN) ?_
   refine Holds.block ?_
   obtain ⟨oB5, hiB5, h⟩ := bS h
   refine It (fun (v : Int) => (sl 22 [(1, vI a1), (2, vP [2] (0)), (5, vI v)] [bx [2] (encSState a0)])) hiB5 (wT) ?_
   rintro i_t5_3 zB5 hzB5 hoB5
   replace hzB5 : r25_place_B5 a0 a1 i_t5_3 = some zB5 := hzB5
   unfold r25_place_B5 at hzB5
   refine Holds.seq ?_
   refine Rg [.a, .a, .a, .a, .a] (sl 22 [(1, vI a1), (2, vP [2] (0)), (5, vI i_t5_3), (10, vB (decide (i_t5_3 < (a0.Objects.length : Int))))] [bx [2] (encSState a0)]) (aN) ?_
   refine iB hzB5 (fun b6 hzB5 => ?_) (fun b6 hzB5 => ?_)
   · refine Holds.skip ?_
     refine Tn ?_
     refine Holds.seq ?_
     refine Holds.block ?_
     obtain ⟨e7, he7, hzB5⟩ := bS hzB5
     refine Rg [.a, .a, .a, .a, .a, (.v (vI e7.Id)), .a, .a] (sl 22 [(1, vI a1), (2, vP [2] (0)), (5, vI i_t5_3), (20, vB (e7.Id == a1))] [bx [2] (encSState a0)]) (aC (idx_b he7) <| aC (eld he7 lenSObject 0 1 false (vI e7.Id)) <| aC (Eq.refl (vI e7.Id)) <| aN) ?_
     refine iB hzB5 (fun b8 hzB5 => ?_) (fun b8 hzB5 => ?_)
     · refine Rg [.a, .a] (sl 22 [(4, vI i_t5_3)] []) (aN) ?_
       refine Holds.ret ?_
       refine blockQ.ret ?_
       refine Tr ?_
       have hoB5_ := hoB5 _ (sI hzB5).symm
       subst hoB5_
       replace h := sumL h
       refine Tr ?_
       refine blockQ.ret ?_
       refine Tr ?_
       exact bQ (vI i_t5_3) (congrArg vI (sI h))
     · refine Holds.skip ?_
       refine blockQ.normal ?_
       refine Tn ?_
       refine Re [.a, .a, .a] (sl 22 [(1, vI a1), (2, vP [2] (0)), (5, vI (wrap64 (i_t5_3 + (1 : Int)))), (11, vI i_t5_3), (12, vI (wrap64 (i_t5_3 + (1 : Int)))), (20, vB (e7.Id == a1))] [bx [2] (encSState a0)]) (aN) ?_
       refine Tn ⟨(wrap64 (i_t5_3 + (1 : Int))), (sI hzB5).symm, wT⟩
   · refine Holds.exit ?_
     refine thenQ.exit ?_
     have hoB5_ := hoB5 _ (sI hzB5).symm
     subst hoB5_
     replace h := sumR h
     refine thenQ.exit ?_
     refine blockQ.out ?_
     refine Tn ⟨(), h, wT⟩
 · rintro _ hJ1
   replace hJ1 : r25_place_J1 = some r := hJ1
   unfold r25_place_J1 at hJ1
   refine Rg [.a] (sl 22 [(4, vI (-1 : Int))] []) (aN) ?_
   refine Holds.ret ?_
   exact bQ (vI (-1 : Int)) (congrArg vI (sI hJ1))
end Go.PL
