/- Functions of the program, as partial functions in Lean, with proofs. -/
import Derived.Test.YtedobbmpljbccaaGreatDoorPlDkB
import Derived.Test.YtedobbmpljbccaaGreatDoorPlDkF10
namespace Go.PL
open Go Go.RowKit Go.Proofs
set_option maxRecDepth 100000
set_option linter.all false
set_option maxHeartbeats 1000000
attribute [local irreducible] Holds thenQ blockQ
def r20_effects_J1 (a0 : List (SEffect)) : Option (Bool) :=
 (some (if (decide ((1 : Int) ≤ (a0.length : Int))) = true then decide ((a0.length : Int) ≤ (8 : Int)) else false)).bind fun b2 =>
 some b2
def r20_effects_B5 (a0 : List (SEffect)) (a1 : Int) (i_t5_4 : Int) : Option ((Int) ⊕ (Unit ⊕ Unit)) :=
 (if (decide (i_t5_4 < (a0.length : Int))) = true then
  (idx a0 i_t5_4).bind fun e7 =>
  (r17_Is e7 a1).bind fun r8 =>
  (if (!r8) = true then
   some (.inr (.inl ()))
  else
   some (.inl (wrap64 (i_t5_4 + (1 : Int)))))
 else
  some (.inr (.inr ())))
/-- cardgame/cardgameref20.effects -/
def r20_effects (a0 : List (SEffect)) (a1 : Int) : Option (Bool) :=
 (iter (fun (v : Int) => r20_effects_B5 a0 a1 v) FU (0 : Int)).bind (Sum.elim (fun o0 => some false) (fun o1 => r20_effects_J1 a0))
def r20_effects_C (a0 : List (SEffect)) (a1 : Int) (r : Bool) : Prop := PCall Tryz.prog I0 82 [vL encSEffect a0, vI a1] (· = vB r)
theorem r20_effects_ok {a0 : List (SEffect)} {a1 : Int} {r : Bool} (h : r20_effects a0 a1 = some r) : r20_effects_C a0 a1 r := by
 refine PCall.body I0_stable (by kernel_rfl) Tryz.func82 rfl Tryz.ntmps82 (rs := [.tmp 4]) rfl rfl ?_
 intro w0 av old gv
 unfold r20_effects at h
 refine Rg [.a] (sl 27 [(0, vL encSEffect a0), (1, vI a1)] []) (aN) ?_
 refine Sj (X := Unit) (fun v => (sl 27 [(0, vL encSEffect a0)] [])) (fun v => r20_effects_J1 a0 = some r) ?_ ?_
 · refine Rg [.a] (sl 27 [(0, vL encSEffect a0), (1, vI a1), (5, vI (0 : Int))] []) (aN) ?_
   refine Holds.block ?_
   obtain ⟨oB5, hiB5, h⟩ := bS h
   refine It (fun (v : Int) => (sl 27 [(0, vL encSEffect a0), (1, vI a1), (5, vI v)] [])) hiB5 (wT) ?_
   rintro i_t5_4 zB5 hzB5 hoB5
   replace hzB5 : r20_effects_B5 a0 a1 i_t5_4 = some zB5 := hzB5
   unfold r20_effects_B5 at hzB5
   refine Holds.seq ?_
   refine Rg [.a, .a, .a, .a] (sl 27 [(0, vL encSEffect a0), (1, vI a1), (5, vI i_t5_4), (9, vB (decide (i_t5_4 < (a0.length : Int))))] []) (aN) ?_
   refine iB hzB5 (fun b6 hzB5 => ?_) (fun b6 hzB5 => ?_)
   · refine Holds.skip ?_
     refine Tn ?_
     refine Holds.seq ?_
     refine Holds.block ?_
     obtain ⟨e7, he7, hzB5⟩ := bS hzB5
     obtain ⟨r8, hr8, hzB5⟩ := bS hzB5
     refine Rg [.a, .a, .a, (.v (vA encSEffect e7)), .a, (.c (vB r8)), .a] (sl 27 [(0, vL encSEffect a0), (1, vI a1), (5, vI i_t5_4), (18, vB (!r8))] []) (aC (idx_b he7) <| aC (eld he7 lenSEffect 0 64 true (vA encSEffect e7)) <| aC (Eq.refl (vA encSEffect e7)) <| aC (r17_Is_ok hr8) <| aN) ?_
     refine iB hzB5 (fun b9 hzB5 => ?_) (fun b9 hzB5 => ?_)
     · refine Rg [.a] (sl 27 [(4, vB false)] []) (aN) ?_
       refine Holds.ret ?_
       refine blockQ.ret ?_
       refine Tr ?_
       have hoB5_ := hoB5 _ (sI hzB5).symm
       subst hoB5_
       replace h := sumL h
       refine Tr ?_
       refine blockQ.ret ?_
       refine Tr ?_
       exact bQ (vB false) (congrArg vB (sI h))
     · refine Holds.skip ?_
       refine blockQ.normal ?_
       refine Tn ?_
       refine Re [.a, .a, .a] (sl 27 [(0, vL encSEffect a0), (1, vI a1), (5, vI (wrap64 (i_t5_4 + (1 : Int)))), (10, vI i_t5_4), (11, vI (wrap64 (i_t5_4 + (1 : Int)))), (18, vB (!r8))] []) (aN) ?_
       refine Tn ⟨(wrap64 (i_t5_4 + (1 : Int))), (sI hzB5).symm, wT⟩
   · refine Holds.exit ?_
     refine thenQ.exit ?_
     have hoB5_ := hoB5 _ (sI hzB5).symm
     subst hoB5_
     replace h := sumR h
     refine thenQ.exit ?_
     refine blockQ.out ?_
     refine Tn ⟨(), h, wT⟩
 · rintro _ hJ1
   replace hJ1 : r20_effects_J1 a0 = some r := hJ1
   unfold r20_effects_J1 at hJ1
   obtain ⟨b2, hb2, hJ1⟩ := bS hJ1
   refine Rg [.a, .a, .a, .a, .a, .a, .a, (.v (vB b2)), .a] (sl 27 [(4, vB b2)] []) (aG ((decide ((1 : Int) ≤ (a0.length : Int))) == true) <| aG ((decide ((1 : Int) ≤ (a0.length : Int))) == true) <| aT (decide ((1 : Int) ≤ (a0.length : Int))) <| aB hb2 <| aN) ?_
   refine Holds.ret ?_
   exact bQ (vB b2) (congrArg vB (sI hJ1))
end Go.PL
