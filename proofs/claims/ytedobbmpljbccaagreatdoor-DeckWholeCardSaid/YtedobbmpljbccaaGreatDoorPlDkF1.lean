/- Functions of the program, as partial functions in Lean, with proofs. -/
import Derived.Test.YtedobbmpljbccaaGreatDoorPlDkB
namespace Go.PL
open Go Go.RowKit Go.Proofs
set_option maxRecDepth 100000
set_option linter.all false
set_option maxHeartbeats 1000000
attribute [local irreducible] Holds thenQ blockQ
def r17_Uses_J15  (vt29_14 : Bool) : Option ((List UInt8)) :=
 (if vt29_14 = true then
  some ([] : List UInt8)
 else
  some str_ra)
def r17_Uses_J6 (a0 : Int) (vt14_5 : Bool) : Option ((List UInt8)) :=
 (if vt14_5 = true then
  some str_rka
 else
  (if (a0 == (12 : Int)) = true then
   some str_rca
  else
   (if (a0 == (13 : Int)) = true then
    some str_rm
   else
    (if (a0 == (14 : Int)) = true then
     some str_p
    else
     (if (a0 == (18 : Int)) = true then
      some str_raf
     else
      (if (a0 == (20 : Int)) = true then
       some str_a
      else
       (if (a0 == (21 : Int)) = true then
        some str_f
       else
        (if (a0 == (23 : Int)) = true then
         r17_Uses_J15 (a0 == (23 : Int))
        else
         r17_Uses_J15 (a0 == (24 : Int))))))))))
def r17_Uses_J2 (a0 : Int) (vt4_1 : Bool) : Option ((List UInt8)) :=
 (if vt4_1 = true then
  some str_r
 else
  (if (a0 == (3 : Int)) = true then
   some str_rz
  else
   (if (a0 == (10 : Int)) = true then
    r17_Uses_J6 a0 (a0 == (10 : Int))
   else
    r17_Uses_J6 a0 (a0 == (11 : Int)))))
/-- cardgame/cardgameref17.Uses -/
def r17_Uses (a0 : Int) : Option ((List UInt8)) :=
 (if (a0 == (2 : Int)) = true then
  r17_Uses_J2 a0 (a0 == (2 : Int))
 else
  (if (a0 == (8 : Int)) = true then
   r17_Uses_J2 a0 (a0 == (8 : Int))
  else
   (if (a0 == (9 : Int)) = true then
    r17_Uses_J2 a0 (a0 == (9 : Int))
   else
    (if (a0 == (15 : Int)) = true then
     r17_Uses_J2 a0 (a0 == (15 : Int))
    else
     (if (a0 == (16 : Int)) = true then
      r17_Uses_J2 a0 (a0 == (16 : Int))
     else
      (if (a0 == (17 : Int)) = true then
       r17_Uses_J2 a0 (a0 == (17 : Int))
      else
       r17_Uses_J2 a0 (a0 == (25 : Int))))))))
def r17_Uses_C (a0 : Int) (r : (List UInt8)) : Prop := PCall Tryz.prog I0 143 [vI a0] (· = vS r)
theorem r17_Uses_ok {a0 : Int} {r : (List UInt8)} (h : r17_Uses a0 = some r) : r17_Uses_C a0 r := by
 refine PCall.body I0_stable (by kernel_rfl) Tryz.func143 rfl Tryz.ntmps143 (rs := [.tmp 2]) rfl rfl ?_
 intro w0 av old gv
 unfold r17_Uses at h
 refine Rg [.a] (sl 32 [(0, vI a0)] []) (aN) ?_
 refine Holds.seq ?_
 refine Rg [.a] (sl 32 [(3, vI a0)] []) (aN) ?_
 refine Holds.block ?_
 refine Sj (X := Bool) (fun v => (sl 32 [(3, vI a0), (4, vB v)] [])) (fun v => r17_Uses_J2 a0 v = some r) ?_ ?_
 · refine Rg [.a, .a] (sl 32 [(3, vI a0), (4, vB (a0 == (2 : Int)))] []) (aN) ?_
   refine iB h (fun b19 h => ?_) (fun b19 h => ?_)
   · refine Holds.skip ?_
     refine Tn ⟨(a0 == (2 : Int)), h, wT⟩
   · refine Rg [.a, .a] (sl 32 [(3, vI a0), (4, vB (a0 == (8 : Int)))] []) (aN) ?_
     refine iB h (fun b20 h => ?_) (fun b20 h => ?_)
     · refine Holds.skip ?_
       refine Tn ⟨(a0 == (8 : Int)), h, wT⟩
     · refine Rg [.a, .a] (sl 32 [(3, vI a0), (4, vB (a0 == (9 : Int)))] []) (aN) ?_
       refine iB h (fun b21 h => ?_) (fun b21 h => ?_)
       · refine Holds.skip ?_
         refine Tn ⟨(a0 == (9 : Int)), h, wT⟩
       · refine Rg [.a, .a] (sl 32 [(3, vI a0), (4, vB (a0 == (15 : Int)))] []) (aN) ?_
         refine iB h (fun b22 h => ?_) (fun b22 h => ?_)
         · refine Holds.skip ?_
           refine Tn ⟨(a0 == (15 : Int)), h, wT⟩
         · refine Rg [.a, .a] (sl 32 [(3, vI a0), (4, vB (a0 == (16 : Int)))] []) (aN) ?_
           refine iB h (fun b23 h => ?_) (fun b23 h => ?_)
           · refine Holds.skip ?_
             refine Tn ⟨(a0 == (16 : Int)), h, wT⟩
           · refine Rg [.a, .a] (sl 32 [(3, vI a0), (4, vB (a0 == (17 : Int)))] []) (aN) ?_
             refine iB h (fun b24 h => ?_) (fun b24 h => ?_)
             · refine Holds.skip ?_
               refine Tn ⟨(a0 == (17 : Int)), h, wT⟩
             · refine Re [.a, .a] (sl 32 [(3, vI a0), (4, vB (a0 == (25 : Int))), (11, vB (a0 == (25 : Int)))] []) (aN) ?_
               refine Tn ⟨(a0 == (25 : Int)), h, wT⟩
 · rintro vt4_1 hJ2
   replace hJ2 : r17_Uses_J2 a0 vt4_1 = some r := hJ2
   unfold r17_Uses_J2 at hJ2
   refine iB hJ2 (fun b3 hJ2 => ?_) (fun b3 hJ2 => ?_)
   · refine Rg [.a] (sl 32 [(2, vS str_r)] []) (aN) ?_
     refine Holds.ret ?_
     refine blockQ.ret ?_
     refine Tr ?_
     exact bQ (vS str_r) (congrArg vS (sI hJ2))
   · refine Rg [.a, .a] (sl 32 [(3, vI a0), (12, vB (a0 == (3 : Int)))] []) (aN) ?_
     refine iB hJ2 (fun b4 hJ2 => ?_) (fun b4 hJ2 => ?_)
     · refine Rg [.a] (sl 32 [(2, vS str_rz)] []) (aN) ?_
       refine Holds.ret ?_
       refine blockQ.ret ?_
       refine Tr ?_
       exact bQ (vS str_rz) (congrArg vS (sI hJ2))
     · refine Sj (X := Bool) (fun v => (sl 32 [(3, vI a0), (14, vB v)] [])) (fun v => r17_Uses_J6 a0 v = some r) ?_ ?_
       · refine Rg [.a, .a] (sl 32 [(3, vI a0), (14, vB (a0 == (10 : Int)))] []) (aN) ?_
         refine iB hJ2 (fun b18 hJ2 => ?_) (fun b18 hJ2 => ?_)
         · refine Holds.skip ?_
           refine Tn ⟨(a0 == (10 : Int)), hJ2, wT⟩
         · refine Re [.a, .a] (sl 32 [(3, vI a0), (14, vB (a0 == (11 : Int))), (16, vB (a0 == (11 : Int)))] []) (aN) ?_
           refine Tn ⟨(a0 == (11 : Int)), hJ2, wT⟩
       · rintro vt14_5 hJ6
         replace hJ6 : r17_Uses_J6 a0 vt14_5 = some r := hJ6
         unfold r17_Uses_J6 at hJ6
         refine iB hJ6 (fun b7 hJ6 => ?_) (fun b7 hJ6 => ?_)
         · refine Rg [.a] (sl 32 [(2, vS str_rka)] []) (aN) ?_
           refine Holds.ret ?_
           refine blockQ.ret ?_
           refine Tr ?_
           exact bQ (vS str_rka) (congrArg vS (sI hJ6))
         · refine Rg [.a, .a] (sl 32 [(3, vI a0), (17, vB (a0 == (12 : Int)))] []) (aN) ?_
           refine iB hJ6 (fun b8 hJ6 => ?_) (fun b8 hJ6 => ?_)
           · refine Rg [.a] (sl 32 [(2, vS str_rca)] []) (aN) ?_
             refine Holds.ret ?_
             refine blockQ.ret ?_
             refine Tr ?_
             exact bQ (vS str_rca) (congrArg vS (sI hJ6))
           · refine Rg [.a, .a] (sl 32 [(3, vI a0), (19, vB (a0 == (13 : Int)))] []) (aN) ?_
             refine iB hJ6 (fun b9 hJ6 => ?_) (fun b9 hJ6 => ?_)
             · refine Rg [.a] (sl 32 [(2, vS str_rm)] []) (aN) ?_
               refine Holds.ret ?_
               refine blockQ.ret ?_
               refine Tr ?_
               exact bQ (vS str_rm) (congrArg vS (sI hJ6))
             · refine Rg [.a, .a] (sl 32 [(3, vI a0), (21, vB (a0 == (14 : Int)))] []) (aN) ?_
               refine iB hJ6 (fun b10 hJ6 => ?_) (fun b10 hJ6 => ?_)
               · refine Rg [.a] (sl 32 [(2, vS str_p)] []) (aN) ?_
                 refine Holds.ret ?_
                 refine blockQ.ret ?_
                 refine Tr ?_
                 exact bQ (vS str_p) (congrArg vS (sI hJ6))
               · refine Rg [.a, .a] (sl 32 [(3, vI a0), (23, vB (a0 == (18 : Int)))] []) (aN) ?_
                 refine iB hJ6 (fun b11 hJ6 => ?_) (fun b11 hJ6 => ?_)
                 · refine Rg [.a] (sl 32 [(2, vS str_raf)] []) (aN) ?_
                   refine Holds.ret ?_
                   refine blockQ.ret ?_
                   refine Tr ?_
                   exact bQ (vS str_raf) (congrArg vS (sI hJ6))
                 · refine Rg [.a, .a] (sl 32 [(3, vI a0), (25, vB (a0 == (20 : Int)))] []) (aN) ?_
                   refine iB hJ6 (fun b12 hJ6 => ?_) (fun b12 hJ6 => ?_)
                   · refine Rg [.a] (sl 32 [(2, vS str_a)] []) (aN) ?_
                     refine Holds.ret ?_
                     refine blockQ.ret ?_
                     refine Tr ?_
                     exact bQ (vS str_a) (congrArg vS (sI hJ6))
                   · refine Rg [.a, .a] (sl 32 [(3, vI a0), (27, vB (a0 == (21 : Int)))] []) (aN) ?_
                     refine iB hJ6 (fun b13 hJ6 => ?_) (fun b13 hJ6 => ?_)
                     · refine Rg [.a] (sl 32 [(2, vS str_f)] []) (aN) ?_
                       refine Holds.ret ?_
                       refine blockQ.ret ?_
                       refine Tr ?_
                       exact bQ (vS str_f) (congrArg vS (sI hJ6))
                     · refine Sj (X := Bool) (fun v => (sl 32 [(29, vB v)] [])) (fun v => r17_Uses_J15 v = some r) ?_ ?_
                       · refine Rg [.a, .a] (sl 32 [(3, vI a0), (29, vB (a0 == (23 : Int)))] []) (aN) ?_
                         refine iB hJ6 (fun b17 hJ6 => ?_) (fun b17 hJ6 => ?_)
                         · refine Holds.skip ?_
                           refine Tn ⟨(a0 == (23 : Int)), hJ6, wT⟩
                         · refine Re [.a, .a] (sl 32 [(3, vI a0), (29, vB (a0 == (24 : Int))), (31, vB (a0 == (24 : Int)))] []) (aN) ?_
                           refine Tn ⟨(a0 == (24 : Int)), hJ6, wT⟩
                       · rintro vt29_14 hJ15
                         replace hJ15 : r17_Uses_J15 vt29_14 = some r := hJ15
                         unfold r17_Uses_J15 at hJ15
                         refine iB hJ15 (fun b16 hJ15 => ?_) (fun b16 hJ15 => ?_)
                         · refine Rg [.a] (sl 32 [(2, vS ([] : List UInt8))] []) (aN) ?_
                           refine Holds.ret ?_
                           refine blockQ.ret ?_
                           refine Tr ?_
                           exact bQ (vS ([] : List UInt8)) (congrArg vS (sI hJ15))
                         · refine Holds.skip ?_
                           refine blockQ.normal ?_
                           refine Tn ?_
                           refine Rg [.a] (sl 32 [(2, vS str_ra)] []) (aN) ?_
                           refine Holds.ret ?_
                           exact bQ (vS str_ra) (congrArg vS (sI hJ15))
def r08_cost_J3  (b3_2 : SCost) : Option (SCost) :=
 some b3_2
def r08_cost_B9 (a0 : A6 (Int)) (i_t4_6 : Int) (b3_7 : SCost) : Option ((Int × SCost) ⊕ (SCost)) :=
 (if (decide (i_t4_6 < (5 : Int))) = true then
  (idx a0.l (wrap64 (i_t4_6 + (1 : Int)))).bind fun e11 =>
  (idx b3_7.Color.l i_t4_6).bind fun e12 =>
  some (.inl ((wrap64 (i_t4_6 + (1 : Int))), ({ b3_7 with Color := b3_7.Color.set (i_t4_6).toNat e11 })))
 else
  some (.inr b3_7))
/-- cardgame/cardgameref08.cost -/
def r08_cost (a0 : A6 (Int)) : Option (SCost) :=
 (idx a0.l (0 : Int)).bind fun e1 =>
 (iter (fun (v : Int × SCost) => r08_cost_B9 a0 v.1 v.2) FU ((0 : Int), (⟨e1, (0 : Int), (⟨(0 : Int), (0 : Int), (0 : Int), (0 : Int), (0 : Int)⟩ : A5 (Int))⟩ : SCost))).bind (fun o0 => r08_cost_J3 o0)
def r08_cost_C (a0 : A6 (Int)) (r : SCost) : Prop := PCall Tryz.prog I0 146 [vA (eA6 (eI .i64)) a0] (· = vA encSCost r)
theorem r08_cost_ok {a0 : A6 (Int)} {r : SCost} (h : r08_cost a0 = some r) : r08_cost_C a0 r := by
 refine PCall.body I0_stable (by kernel_rfl) Tryz.func146 rfl Tryz.ntmps146 (rs := [.cell 2 46]) rfl rfl ?_
 intro w0 av old gv
 unfold r08_cost at h
 refine Rg [.a, .a] (sl 20 [(1, vP [1] (0)), (2, vP [2] (0))] [bx [2] [.int .i64 (0 : Int), .int .i64 (0 : Int), .int .i64 (((⟨(0 : Int), (0 : Int), (0 : Int), (0 : Int), (0 : Int)⟩ : A5 (Int))).x0), .int .i64 (((⟨(0 : Int), (0 : Int), (0 : Int), (0 : Int), (0 : Int)⟩ : A5 (Int))).x1), .int .i64 (((⟨(0 : Int), (0 : Int), (0 : Int), (0 : Int), (0 : Int)⟩ : A5 (Int))).x2), .int .i64 (((⟨(0 : Int), (0 : Int), (0 : Int), (0 : Int), (0 : Int)⟩ : A5 (Int))).x3), .int .i64 (((⟨(0 : Int), (0 : Int), (0 : Int), (0 : Int), (0 : Int)⟩ : A5 (Int))).x4)], bx [1] (eA6 (eI .i64) a0)]) (aN) ?_
 obtain ⟨e1, he1, h⟩ := bS h
 refine Rg [.a, (.v (vI e1)), .a, .a, .a] (sl 20 [(1, vP [1] (0)), (2, vP [2] (0)), (3, vP [3] (0))] [bx [3] [.int .i64 e1, .int .i64 (0 : Int), .int .i64 (((⟨(0 : Int), (0 : Int), (0 : Int), (0 : Int), (0 : Int)⟩ : A5 (Int))).x0), .int .i64 (((⟨(0 : Int), (0 : Int), (0 : Int), (0 : Int), (0 : Int)⟩ : A5 (Int))).x1), .int .i64 (((⟨(0 : Int), (0 : Int), (0 : Int), (0 : Int), (0 : Int)⟩ : A5 (Int))).x2), .int .i64 (((⟨(0 : Int), (0 : Int), (0 : Int), (0 : Int), (0 : Int)⟩ : A5 (Int))).x3), .int .i64 (((⟨(0 : Int), (0 : Int), (0 : Int), (0 : Int), (0 : Int)⟩ : A5 (Int))).x4)], bx [2] [.int .i64 (0 : Int), .int .i64 (0 : Int), .int .i64 (((⟨(0 : Int), (0 : Int), (0 : Int), (0 : Int), (0 : Int)⟩ : A5 (Int))).x0), .int .i64 (((⟨(0 : Int), (0 : Int), (0 : Int), (0 : Int), (0 : Int)⟩ : A5 (Int))).x1), .int .i64 (((⟨(0 : Int), (0 : Int), (0 : Int), (0 : Int), (0 : Int)⟩ : A5 (Int))).x2), .int .i64 (((⟨(0 : Int), (0 : Int), (0 : Int), (0 : Int), (0 : Int)⟩ : A5 (Int))).x3), .int .i64 (((⟨(0 : Int), (0 : Int), (0 : Int), (0 : Int), (0 : Int)⟩ : A5 (Int))).x4)], bx [1] (eA6 (eI .i64) a0)]) (aC (idx_b he1) <| aC (ald he1 (lenI .i64) (eA6 (eI .i64) a0) 0 6 0 1 false (vI e1)) <| aC (Eq.refl (vI e1)) <| aC (And.intro (show True ∧ True from ⟨trivial, trivial⟩) okp46) <| aN) ?_
 refine Sj (X := SCost) (fun v => (sl 20 [(2, vP [2] (0)), (3, vP [3] (0))] [bx [3] (encSCost v), bx [2] [.int .i64 (0 : Int), .int .i64 (0 : Int), .int .i64 (((⟨(0 : Int), (0 : Int), (0 : Int), (0 : Int), (0 : Int)⟩ : A5 (Int))).x0), .int .i64 (((⟨(0 : Int), (0 : Int), (0 : Int), (0 : Int), (0 : Int)⟩ : A5 (Int))).x1), .int .i64 (((⟨(0 : Int), (0 : Int), (0 : Int), (0 : Int), (0 : Int)⟩ : A5 (Int))).x2), .int .i64 (((⟨(0 : Int), (0 : Int), (0 : Int), (0 : Int), (0 : Int)⟩ : A5 (Int))).x3), .int .i64 (((⟨(0 : Int), (0 : Int), (0 : Int), (0 : Int), (0 : Int)⟩ : A5 (Int))).x4)]])) (fun v => r08_cost_J3 v = some r) ?_ ?_
 · refine Rg [.a] (sl 20 [(1, vP [1] (0)), (2, vP [2] (0)), (3, vP [3] (0)), (4, vI (0 : Int))] [bx [3] [.int .i64 e1, .int .i64 (0 : Int), .int .i64 (((⟨(0 : Int), (0 : Int), (0 : Int), (0 : Int), (0 : Int)⟩ : A5 (Int))).x0), .int .i64 (((⟨(0 : Int), (0 : Int), (0 : Int), (0 : Int), (0 : Int)⟩ : A5 (Int))).x1), .int .i64 (((⟨(0 : Int), (0 : Int), (0 : Int), (0 : Int), (0 : Int)⟩ : A5 (Int))).x2), .int .i64 (((⟨(0 : Int), (0 : Int), (0 : Int), (0 : Int), (0 : Int)⟩ : A5 (Int))).x3), .int .i64 (((⟨(0 : Int), (0 : Int), (0 : Int), (0 : Int), (0 : Int)⟩ : A5 (Int))).x4)], bx [2] [.int .i64 (0 : Int), .int .i64 (0 : Int), .int .i64 (((⟨(0 : Int), (0 : Int), (0 : Int), (0 : Int), (0 : Int)⟩ : A5 (Int))).x0), .int .i64 (((⟨(0 : Int), (0 : Int), (0 : Int), (0 : Int), (0 : Int)⟩ : A5 (Int))).x1), .int .i64 (((⟨(0 : Int), (0 : Int), (0 : Int), (0 : Int), (0 : Int)⟩ : A5 (Int))).x2), .int .i64 (((⟨(0 : Int), (0 : Int), (0 : Int), (0 : Int), (0 : Int)⟩ : A5 (Int))).x3), .int .i64 (((⟨(0 : Int), (0 : Int), (0 : Int), (0 : Int), (0 : Int)⟩ : A5 (Int))).x4)], bx [1] (eA6 (eI .i64) a0)]) (aN) ?_
   refine Holds.block ?_
   obtain ⟨oB9, hiB9, h⟩ := bS h
   refine It (fun (v : Int × SCost) => (sl 20 [(1, vP [1] (0)), (2, vP [2] (0)), (3, vP [3] (0)), (4, vI v.1)] [bx [3] (encSCost v.2), bx [2] [.int .i64 (0 : Int), .int .i64 (0 : Int), .int .i64 (((⟨(0 : Int), (0 : Int), (0 : Int), (0 : Int), (0 : Int)⟩ : A5 (Int))).x0), .int .i64 (((⟨(0 : Int), (0 : Int), (0 : Int), (0 : Int), (0 : Int)⟩ : A5 (Int))).x1), .int .i64 (((⟨(0 : Int), (0 : Int), (0 : Int), (0 : Int), (0 : Int)⟩ : A5 (Int))).x2), .int .i64 (((⟨(0 : Int), (0 : Int), (0 : Int), (0 : Int), (0 : Int)⟩ : A5 (Int))).x3), .int .i64 (((⟨(0 : Int), (0 : Int), (0 : Int), (0 : Int), (0 : Int)⟩ : A5 (Int))).x4)], bx [1] (eA6 (eI .i64) a0)])) hiB9 (wT) ?_
   rintro ⟨i_t4_6, b3_7⟩ zB9 hzB9 hoB9
   replace hzB9 : r08_cost_B9 a0 i_t4_6 b3_7 = some zB9 := hzB9
   unfold r08_cost_B9 at hzB9
   refine Holds.seq ?_
   refine Rg [.a, .a] (sl 20 [(1, vP [1] (0)), (2, vP [2] (0)), (3, vP [3] (0)), (4, vI i_t4_6), (9, vB (decide (i_t4_6 < (5 : Int))))] [bx [3] (encSCost b3_7), bx [2] [.int .i64 (0 : Int), .int .i64 (0 : Int), .int .i64 (((⟨(0 : Int), (0 : Int), (0 : Int), (0 : Int), (0 : Int)⟩ : A5 (Int))).x0), .int .i64 (((⟨(0 : Int), (0 : Int), (0 : Int), (0 : Int), (0 : Int)⟩ : A5 (Int))).x1), .int .i64 (((⟨(0 : Int), (0 : Int), (0 : Int), (0 : Int), (0 : Int)⟩ : A5 (Int))).x2), .int .i64 (((⟨(0 : Int), (0 : Int), (0 : Int), (0 : Int), (0 : Int)⟩ : A5 (Int))).x3), .int .i64 (((⟨(0 : Int), (0 : Int), (0 : Int), (0 : Int), (0 : Int)⟩ : A5 (Int))).x4)], bx [1] (eA6 (eI .i64) a0)]) (aN) ?_
   refine iB hzB9 (fun b10 hzB9 => ?_) (fun b10 hzB9 => ?_)
   · refine Holds.skip ?_
     refine Tn ?_
     refine Holds.seq ?_
     refine Holds.block ?_
     obtain ⟨e11, he11, hzB9⟩ := bS hzB9
     obtain ⟨e12, he12, hzB9⟩ := bS hzB9
     refine Re [.a, .a, .a, .a, (.v (vI e11)), .a, .a, (.e 0 (encSCost ({ b3_7 with Color := b3_7.Color.set (i_t4_6).toNat e11 })))] (sl 20 [(1, vP [1] (0)), (2, vP [2] (0)), (3, vP [3] (0)), (4, vI i_t4_6), (9, vB (decide (i_t4_6 < (5 : Int)))), (12, vI i_t4_6), (13, vI i_t4_6), (14, vI (wrap64 (i_t4_6 + (1 : Int)))), (15, vP [1] (0 + (wrap64 (i_t4_6 + (1 : Int))).toNat * 1)), (16, vI e11), (17, vP [3] (2)), (18, vP [3] (2 + (i_t4_6).toNat * 1))] [bx [3] (encSCost ({ b3_7 with Color := b3_7.Color.set (i_t4_6).toNat e11 })), bx [2] [.int .i64 (0 : Int), .int .i64 (0 : Int), .int .i64 (((⟨(0 : Int), (0 : Int), (0 : Int), (0 : Int), (0 : Int)⟩ : A5 (Int))).x0), .int .i64 (((⟨(0 : Int), (0 : Int), (0 : Int), (0 : Int), (0 : Int)⟩ : A5 (Int))).x1), .int .i64 (((⟨(0 : Int), (0 : Int), (0 : Int), (0 : Int), (0 : Int)⟩ : A5 (Int))).x2), .int .i64 (((⟨(0 : Int), (0 : Int), (0 : Int), (0 : Int), (0 : Int)⟩ : A5 (Int))).x3), .int .i64 (((⟨(0 : Int), (0 : Int), (0 : Int), (0 : Int), (0 : Int)⟩ : A5 (Int))).x4)], bx [1] (eA6 (eI .i64) a0)]) (aC (idx_b he11) <| aC (ald he11 (lenI .i64) (eA6 (eI .i64) a0) 0 6 0 1 false (vI e11)) <| aC (Eq.refl (vI e11)) <| aC (idx_b he12) <| aC (show 2 + (i_t4_6).toNat * 1 + 1 ≤ (encSCost b3_7).length ∧ (encSCost b3_7).take (2 + (i_t4_6).toNat * 1) ++ ([.int .i64 e11] : List C) ++ (encSCost b3_7).drop (2 + (i_t4_6).toNat * 1 + ([.int .i64 e11] : List C).length) = (encSCost ({ b3_7 with Color := b3_7.Color.set (i_t4_6).toNat e11 })) from (arr_st (e := eI .i64) (N := 1) (l := b3_7.Color.l) (i := i_t4_6) (x' := e11) (o := 0) (base := 2) (cs := ([.int .i64 e11] : List C)) (pre := (encSCost b3_7).take 2) (post := (encSCost b3_7).drop 7) (by kernel_rfl) (by kernel_rfl) (by kernel_rfl) (A5.l_set _ _ _) he12 (lenI .i64) (by omega) (Nat.le_of_ble_eq_true (by kernel_rfl)) (by kernel_rfl))) <| aC (show ((none : Option (TypeId × Nat × Nat)) = none) ∧ True from ⟨rfl, trivial⟩) <| aN) ?_
     refine blockQ.normal ?_
     refine Tn ?_
     refine Re [.a, .a, .a] (sl 20 [(1, vP [1] (0)), (2, vP [2] (0)), (3, vP [3] (0)), (4, vI (wrap64 (i_t4_6 + (1 : Int)))), (9, vB (decide (i_t4_6 < (5 : Int)))), (10, vI i_t4_6), (11, vI (wrap64 (i_t4_6 + (1 : Int)))), (12, vI i_t4_6), (13, vI i_t4_6), (14, vI (wrap64 (i_t4_6 + (1 : Int)))), (15, vP [1] (0 + (wrap64 (i_t4_6 + (1 : Int))).toNat * 1)), (16, vI e11), (17, vP [3] (2)), (18, vP [3] (2 + (i_t4_6).toNat * 1))] [bx [3] (encSCost ({ b3_7 with Color := b3_7.Color.set (i_t4_6).toNat e11 })), bx [2] [.int .i64 (0 : Int), .int .i64 (0 : Int), .int .i64 (((⟨(0 : Int), (0 : Int), (0 : Int), (0 : Int), (0 : Int)⟩ : A5 (Int))).x0), .int .i64 (((⟨(0 : Int), (0 : Int), (0 : Int), (0 : Int), (0 : Int)⟩ : A5 (Int))).x1), .int .i64 (((⟨(0 : Int), (0 : Int), (0 : Int), (0 : Int), (0 : Int)⟩ : A5 (Int))).x2), .int .i64 (((⟨(0 : Int), (0 : Int), (0 : Int), (0 : Int), (0 : Int)⟩ : A5 (Int))).x3), .int .i64 (((⟨(0 : Int), (0 : Int), (0 : Int), (0 : Int), (0 : Int)⟩ : A5 (Int))).x4)], bx [1] (eA6 (eI .i64) a0)]) (aN) ?_
     refine Tn ⟨((wrap64 (i_t4_6 + (1 : Int))), ({ b3_7 with Color := b3_7.Color.set (i_t4_6).toNat e11 })), (sI hzB9).symm, wT⟩
   · refine Holds.exit ?_
     refine thenQ.exit ?_
     have hoB9_ := hoB9 _ (sI hzB9).symm
     subst hoB9_
     refine thenQ.exit ?_
     refine blockQ.out ?_
     refine Tn ⟨b3_7, h, wT⟩
 · rintro b3_2 hJ3
   replace hJ3 : r08_cost_J3 b3_2 = some r := hJ3
   unfold r08_cost_J3 at hJ3
   refine Rg [.a, .a] (sl 20 [(2, vP [2] (0))] [bx [2] (encSCost b3_2)]) (aN) ?_
   refine Holds.ret ?_
   exact bE (vA encSCost b3_2) (.agg (encSCost b3_2)) (congrArg (vA encSCost) (sI hJ3))
def r22_token_J1  : Option (Bool) :=
 some false
def r22_token_B4 (a0 : List (SCard)) (a1 : List UInt8) (i_t5_3 : Int) : Option ((Int) ⊕ (Unit ⊕ Unit)) :=
 (if (decide (i_t5_3 < (a0.length : Int))) = true then
  (idx a0 i_t5_3).bind fun e6 =>
  (gd ((e6.Name == a1) == true) (idx a0 i_t5_3)).bind fun e7 =>
  (some (if (e6.Name == a1) = true then e7.Token else false)).bind fun b8 =>
  (if b8 = true then
   some (.inr (.inl ()))
  else
   some (.inl (wrap64 (i_t5_3 + (1 : Int)))))
 else
  some (.inr (.inr ())))
/-- cardgame/cardgameref22.token -/
def r22_token (a0 : List (SCard)) (a1 : List UInt8) : Option (Bool) :=
 (iter (fun (v : Int) => r22_token_B4 a0 a1 v) FU (0 : Int)).bind (Sum.elim (fun o0 => some true) (fun o1 => r22_token_J1))
def r22_token_C (a0 : List (SCard)) (a1 : List UInt8) (r : Bool) : Prop := PCall Tryz.prog I0 62 [vL encSCard a0, vS a1] (· = vB r)
theorem r22_token_ok {a0 : List (SCard)} {a1 : List UInt8} {r : Bool} (h : r22_token a0 a1 = some r) : r22_token_C a0 a1 r := by
 refine PCall.body I0_stable (by kernel_rfl) Tryz.func62 rfl Tryz.ntmps62 (rs := [.tmp 4]) rfl rfl ?_
 intro w0 av old gv
 unfold r22_token at h
 refine Rg [.a] (sl 26 [(0, vL encSCard a0), (1, vS a1)] []) (aN) ?_
 refine Sj (X := Unit) (fun v => (sl 26 [] [])) (fun v => r22_token_J1 = some r) ?_ ?_
 · refine Rg [.a] (sl 26 [(0, vL encSCard a0), (1, vS a1), (5, vI (0 : Int))] []) (aN) ?_
   refine Holds.block ?_
   obtain ⟨oB4, hiB4, h⟩ := bS h
   refine It (fun (v : Int) => (sl 26 [(0, vL encSCard a0), (1, vS a1), (5, vI v)] [])) hiB4 (wT) ?_
   rintro i_t5_3 zB4 hzB4 hoB4
   replace hzB4 : r22_token_B4 a0 a1 i_t5_3 = some zB4 := hzB4
   unfold r22_token_B4 at hzB4
   refine Holds.seq ?_
   refine Rg [.a, .a, .a, .a] (sl 26 [(0, vL encSCard a0), (1, vS a1), (5, vI i_t5_3), (9, vB (decide (i_t5_3 < (a0.length : Int))))] []) (aN) ?_
   refine iB hzB4 (fun b5 hzB4 => ?_) (fun b5 hzB4 => ?_)
   · refine Holds.skip ?_
     refine Tn ?_
     refine Holds.seq ?_
     refine Holds.block ?_
     obtain ⟨e6, he6, hzB4⟩ := bS hzB4
     obtain ⟨e7, he7, hzB4⟩ := bS hzB4
     obtain ⟨b8, hb8, hzB4⟩ := bS hzB4
     refine Rg [.a, .a, .a, .a, (.v (vS e6.Name)), .a, .a, .a, .a, .a, .a, .a, (.v (vB e7.Token)), (.v (vB b8))] (sl 26 [(0, vL encSCard a0), (1, vS a1), (5, vI i_t5_3), (25, vB b8)] []) (aC (idx_b he6) <| aC (eld he6 lenSCard 0 1 false (vS e6.Name)) <| aC (Eq.refl (vS e6.Name)) <| aC (fun hg : ((e6.Name == a1) == true) = true => aC (gi ((e6.Name == a1) == true)) <| aC (gi ((e6.Name == a1) == true)) <| aC (gidx_b he7 hg).1 <| aN) <| aG ((e6.Name == a1) == true) <| aC (fun hg : ((e6.Name == a1) == true) = true => aC (gi ((e6.Name == a1) == true)) <| aC (eld (gd_t he7 hg) lenSCard 1 1 false (vB e7.Token)) <| aC (Eq.refl (vB e7.Token)) <| aN) <| aT (e6.Name == a1) <| aB hb8 <| aN) ?_
     refine iB hzB4 (fun b9 hzB4 => ?_) (fun b9 hzB4 => ?_)
     · refine Rg [.a] (sl 26 [(4, vB true)] []) (aN) ?_
       refine Holds.ret ?_
       refine blockQ.ret ?_
       refine Tr ?_
       have hoB4_ := hoB4 _ (sI hzB4).symm
       subst hoB4_
       replace h := sumL h
       refine Tr ?_
       refine blockQ.ret ?_
       refine Tr ?_
       exact bQ (vB true) (congrArg vB (sI h))
     · refine Holds.skip ?_
       refine blockQ.normal ?_
       refine Tn ?_
       refine Re [.a, .a, .a] (sl 26 [(0, vL encSCard a0), (1, vS a1), (5, vI (wrap64 (i_t5_3 + (1 : Int)))), (10, vI i_t5_3), (11, vI (wrap64 (i_t5_3 + (1 : Int)))), (25, vB b8)] []) (aN) ?_
       refine Tn ⟨(wrap64 (i_t5_3 + (1 : Int))), (sI hzB4).symm, wT⟩
   · refine Holds.exit ?_
     refine thenQ.exit ?_
     have hoB4_ := hoB4 _ (sI hzB4).symm
     subst hoB4_
     replace h := sumR h
     refine thenQ.exit ?_
     refine blockQ.out ?_
     refine Tn ⟨(), h, wT⟩
 · rintro _ hJ1
   replace hJ1 : r22_token_J1 = some r := hJ1
   unfold r22_token_J1 at hJ1
   refine Rg [.a] (sl 26 [(4, vB false)] []) (aN) ?_
   refine Holds.ret ?_
   exact bQ (vB false) (congrArg vB (sI hJ1))
/-- cardgame/cardgamelaw23.cards -/
def law23_cards : Option ((List (SCard))) :=
 some ([(⟨str_spring, false, (⟨(0 : Int), (0 : Int), (⟨(0 : Int), (0 : Int), (0 : Int), (0 : Int), (0 : Int)⟩ : A5 (Int))⟩ : SCost), (0 : Int), (⟨(1 : Int), (32 : Int), ([] : List (List UInt8))⟩ : SLine), (0 : Int), (0 : Int), (0 : Int), ([] : List (SAbility))⟩ : SCard), (⟨str_imp, true, (⟨(0 : Int), (0 : Int), (⟨(0 : Int), (0 : Int), (0 : Int), (0 : Int), (0 : Int)⟩ : A5 (Int))⟩ : SCost), (0 : Int), (⟨(0 : Int), (1 : Int), ([] : List (List UInt8))⟩ : SLine), (0 : Int), (0 : Int), (0 : Int), ([] : List (SAbility))⟩ : SCard), (⟨str_ember_fox, false, (⟨(0 : Int), (0 : Int), (⟨(0 : Int), (0 : Int), (0 : Int), (0 : Int), (0 : Int)⟩ : A5 (Int))⟩ : SCost), (0 : Int), (⟨(0 : Int), (1 : Int), ([] : List (List UInt8))⟩ : SLine), (2 : Int), (1 : Int), (0 : Int), ([] : List (SAbility))⟩ : SCard)] : List (SCard))
def law23_cards_C (r : (List (SCard))) : Prop := PCall Tryz.prog I0 19 [] (· = vL encSCard r)
theorem law23_cards_ok {r : (List (SCard))} (h : law23_cards  = some r) : law23_cards_C r := by
 refine PCall.body I0_stable (by kernel_rfl) Tryz.func19 rfl Tryz.ntmps19 (rs := [.tmp 0]) rfl rfl ?_
 intro w0 av old gv
 unfold law23_cards at h
 refine Rg [.a] (sl 8 [] []) (aN) ?_
 refine Rg [.a, .a, .a, .a, .a, .a, .a, .a] (sl 8 [(0, vO [7])] [rw_ [7] 49 17 encSCard ([(⟨str_spring, false, (⟨(0 : Int), (0 : Int), (⟨(0 : Int), (0 : Int), (0 : Int), (0 : Int), (0 : Int)⟩ : A5 (Int))⟩ : SCost), (0 : Int), (⟨(1 : Int), (32 : Int), ([] : List (List UInt8))⟩ : SLine), (0 : Int), (0 : Int), (0 : Int), ([] : List (SAbility))⟩ : SCard), (⟨str_imp, true, (⟨(0 : Int), (0 : Int), (⟨(0 : Int), (0 : Int), (0 : Int), (0 : Int), (0 : Int)⟩ : A5 (Int))⟩ : SCost), (0 : Int), (⟨(0 : Int), (1 : Int), ([] : List (List UInt8))⟩ : SLine), (0 : Int), (0 : Int), (0 : Int), ([] : List (SAbility))⟩ : SCard), (⟨str_ember_fox, false, (⟨(0 : Int), (0 : Int), (⟨(0 : Int), (0 : Int), (0 : Int), (0 : Int), (0 : Int)⟩ : A5 (Int))⟩ : SCost), (0 : Int), (⟨(0 : Int), (1 : Int), ([] : List (List UInt8))⟩ : SLine), (2 : Int), (1 : Int), (0 : Int), ([] : List (SAbility))⟩ : SCard)] : List (SCard))]) (aC (And.intro (show True ∧ (True ∧ True) from ⟨trivial, ⟨trivial, trivial⟩⟩) okp43) <| aC (And.intro (show True ∧ (True ∧ True) from ⟨trivial, ⟨trivial, trivial⟩⟩) okp49) <| aC (And.intro (show True ∧ True from ⟨trivial, trivial⟩) okp43) <| aC (And.intro (show True ∧ (True ∧ (True ∧ True)) from ⟨trivial, ⟨trivial, ⟨trivial, trivial⟩⟩⟩) okp49) <| aC (And.intro (show True ∧ True from ⟨trivial, trivial⟩) okp43) <| aC (And.intro (show True ∧ (True ∧ (True ∧ (True ∧ True))) from ⟨trivial, ⟨trivial, ⟨trivial, ⟨trivial, trivial⟩⟩⟩⟩) okp49) <| aN) ?_
 refine Holds.ret ?_
 exact bE (vO [7]) (vL encSCard ([(⟨str_spring, false, (⟨(0 : Int), (0 : Int), (⟨(0 : Int), (0 : Int), (0 : Int), (0 : Int), (0 : Int)⟩ : A5 (Int))⟩ : SCost), (0 : Int), (⟨(1 : Int), (32 : Int), ([] : List (List UInt8))⟩ : SLine), (0 : Int), (0 : Int), (0 : Int), ([] : List (SAbility))⟩ : SCard), (⟨str_imp, true, (⟨(0 : Int), (0 : Int), (⟨(0 : Int), (0 : Int), (0 : Int), (0 : Int), (0 : Int)⟩ : A5 (Int))⟩ : SCost), (0 : Int), (⟨(0 : Int), (1 : Int), ([] : List (List UInt8))⟩ : SLine), (0 : Int), (0 : Int), (0 : Int), ([] : List (SAbility))⟩ : SCard), (⟨str_ember_fox, false, (⟨(0 : Int), (0 : Int), (⟨(0 : Int), (0 : Int), (0 : Int), (0 : Int), (0 : Int)⟩ : A5 (Int))⟩ : SCost), (0 : Int), (⟨(0 : Int), (1 : Int), ([] : List (List UInt8))⟩ : SLine), (2 : Int), (1 : Int), (0 : Int), ([] : List (SAbility))⟩ : SCard)] : List (SCard))) (congrArg (vL encSCard) (sI h))
def word_Lines_J5  (l4_4 : List (List UInt8)) : Option ((List (List UInt8)) × Bool) :=
 some (l4_4, true)
def word_Lines_J17 (vt17_10 : Int) (begin_t5_15 : Int) (l4_16 : List (List UInt8)) : Option ((Int × Int × (List (List UInt8))) ⊕ ((List (List UInt8)))) :=
 some (.inl (begin_t5_15, (wrap64 (vt17_10 + (1 : Int))), l4_16))
def word_Lines_B13 (a0 : List UInt8) (begin_t5_9 : Int) (vt17_10 : Int) (l4_11 : List (List UInt8)) : Option ((Int × Int × (List (List UInt8))) ⊕ ((List (List UInt8)))) :=
 (if (decide (vt17_10 < (a0.length : Int))) = true then
  (sidx a0 vt17_10).bind fun c18 =>
  (if (c18 != (10 : Int)) = true then
   word_Lines_J17 vt17_10 begin_t5_9 l4_11
  else
   (ssub a0 begin_t5_9 vt17_10).bind fun s20 =>
   (app 16 l4_11 ([s20] : List (List UInt8))).bind fun l21 =>
   word_Lines_J17 vt17_10 (wrap64 (vt17_10 + (1 : Int))) l21)
 else
  some (.inr l4_11))
/-- cardgame/word.Lines -/
def word_Lines (a0 : List UInt8) : Option ((List (List UInt8)) × Bool) :=
 (if (a0 == ([] : List UInt8)) = true then
  some (([] : List (List UInt8)), true)
 else
  (sidx a0 (wrap64 ((a0.length : Int) - (1 : Int)))).bind fun c2 =>
  (if (c2 != (10 : Int)) = true then
   some (([] : List (List UInt8)), false)
  else
   (iter (fun (v : Int × Int × (List (List UInt8))) => word_Lines_B13 a0 v.1 v.2.1 v.2.2) FU ((0 : Int), (0 : Int), ([] : List (List UInt8)))).bind (fun o0 => word_Lines_J5 o0)))
def word_Lines_C (a0 : List UInt8) (r : (List (List UInt8)) × Bool) : Prop := PCall Tryz.prog I0 28 [vS a0] (· = .tup [vL eS r.1, vB r.2])
theorem word_Lines_ok {a0 : List UInt8} {r : (List (List UInt8)) × Bool} (h : word_Lines a0 = some r) : word_Lines_C a0 r := by
 refine PCall.body I0_stable (by kernel_rfl) Tryz.func28 rfl Tryz.ntmps28 (rs := [.tmp 2, .tmp 3]) rfl rfl ?_
 intro w0 av old gv
 unfold word_Lines at h
 refine Rg [.a, .a] (sl 35 [(0, vS a0)] []) (aN) ?_
 refine Holds.scope ?_
 refine Holds.seq ?_
 refine Rg [.a, .a] (sl 35 [(0, vS a0), (8, vB (a0 == ([] : List UInt8)))] []) (aN) ?_
 refine iB h (fun b1 h => ?_) (fun b1 h => ?_)
 · refine Rg [.a, .a] (sl 35 [(2, vO [2]), (3, vB true)] [rw_ [2] 9 1 eS ([] : List (List UInt8))]) (aN) ?_
   refine Holds.ret ?_
   refine Tr ?_
   refine scopeQ.ret ?_
   exact bE (.tup [vO [2], vB true]) (.tup [vL eS ([] : List (List UInt8)), vB true]) (congrArg (fun (q : (List (List UInt8)) × Bool) => (.tup [vL eS q.1, vB q.2] : V)) (sI h))
 · refine Holds.skip ?_
   refine Tn ?_
   refine Holds.seq ?_
   obtain ⟨c2, hc2, h⟩ := bS h
   refine Rg [.a, .a, .a, .a, (.v (.c (.int .u8 c2))), .a] (sl 35 [(0, vS a0), (14, vB (c2 != (10 : Int)))] []) (aC (sidx_b hc2) <| aC (congrArg (fun z => V.c (.int .u8 z)) (sidx_x hc2).symm) <| aN) ?_
   refine iB h (fun b3 h => ?_) (fun b3 h => ?_)
   · refine Rg [.a, .a] (sl 35 [(2, vO [2]), (3, vB false)] [rw_ [2] 9 1 eS ([] : List (List UInt8))]) (aN) ?_
     refine Holds.ret ?_
     refine Tr ?_
     refine scopeQ.ret ?_
     exact bE (.tup [vO [2], vB false]) (.tup [vL eS ([] : List (List UInt8)), vB false]) (congrArg (fun (q : (List (List UInt8)) × Bool) => (.tup [vL eS q.1, vB q.2] : V)) (sI h))
   · refine Holds.skip ?_
     refine Tn ?_
     refine Rg [.a] (sl 35 [(0, vS a0), (4, vO [4])] [rw_ [4] 9 1 eS ([] : List (List UInt8))]) (aN) ?_
     refine Rg [.a] (sl 35 [(0, vS a0), (4, vO [4]), (5, vI (0 : Int))] [rw_ [4] 9 1 eS ([] : List (List UInt8))]) (aN) ?_
     refine Holds.seq ?_
     refine Holds.label ?_
     refine Tn ?_
     refine Sj (X := (List (List UInt8))) (fun v => (sl 35 [(4, vO [4])] [rw_ [4] 9 1 eS v])) (fun v => word_Lines_J5 v = some r) ?_ ?_
     · refine Rg [.a, .a, .a] (sl 35 [(0, vS a0), (4, vO [4]), (5, vI (0 : Int)), (16, vI (a0.length : Int)), (17, vI (0 : Int))] [rw_ [4] 9 1 eS ([] : List (List UInt8))]) (aN) ?_
       refine Holds.block ?_
       obtain ⟨oB13, hiB13, h⟩ := bS h
       refine It (fun (v : Int × Int × (List (List UInt8))) => (sl 35 [(0, vS a0), (4, vO [4]), (5, vI v.1), (16, vI (a0.length : Int)), (17, vI v.2.1)] [rw_ [4] 9 1 eS v.2.2])) hiB13 (wT) ?_
       rintro ⟨begin_t5_9, vt17_10, l4_11⟩ zB13 hzB13 hoB13
       replace hzB13 : word_Lines_B13 a0 begin_t5_9 vt17_10 l4_11 = some zB13 := hzB13
       unfold word_Lines_B13 at hzB13
       refine Rg [.a] (sl 35 [(0, vS a0), (4, vO [4]), (5, vI begin_t5_9), (16, vI (a0.length : Int)), (17, vI vt17_10), (18, vB (decide (vt17_10 < (a0.length : Int))))] [rw_ [4] 9 1 eS l4_11]) (aN) ?_
       refine Holds.seq ?_
       refine iB hzB13 (fun b14 hzB13 => ?_) (fun b14 hzB13 => ?_)
       · refine Holds.skip ?_
         refine Tn ?_
         refine Sj (X := Int × (List (List UInt8))) (fun v => (sl 35 [(0, vS a0), (4, vO [4]), (5, vI v.1), (16, vI (a0.length : Int)), (17, vI vt17_10)] [rw_ [4] 9 1 eS v.2])) (fun v => word_Lines_J17 vt17_10 v.1 v.2 = some zB13) ?_ ?_
         · refine Holds.block ?_
           refine Rg [.a, .a] (sl 35 [(0, vS a0), (4, vO [4]), (5, vI begin_t5_9), (6, vI vt17_10), (16, vI (a0.length : Int)), (17, vI vt17_10)] [rw_ [4] 9 1 eS l4_11]) (aN) ?_
           refine Holds.seq ?_
           obtain ⟨c18, hc18, hzB13⟩ := bS hzB13
           refine Rg [.a, .a, (.v (.c (.int .u8 c18))), .a] (sl 35 [(0, vS a0), (4, vO [4]), (5, vI begin_t5_9), (6, vI vt17_10), (16, vI (a0.length : Int)), (17, vI vt17_10), (23, vB (c18 != (10 : Int)))] [rw_ [4] 9 1 eS l4_11]) (aC (sidx_b hc18) <| aC (congrArg (fun z => V.c (.int .u8 z)) (sidx_x hc18).symm) <| aN) ?_
           refine iB hzB13 (fun b19 hzB13 => ?_) (fun b19 hzB13 => ?_)
           · refine Holds.exit ?_
             refine thenQ.exit ?_
             refine blockQ.out ?_
             refine Tn ⟨(begin_t5_9, l4_11), hzB13, wT⟩
           · refine Holds.skip ?_
             refine Tn ?_
             obtain ⟨s20, hs20, hzB13⟩ := bS hzB13
             obtain ⟨l21, hl21, hzB13⟩ := bS hzB13
             refine Rg [.a, .a, .a, .a, (.v (vS s20)), .a, (.e l21.length (l21.flatMap (eS))), .a] (sl 35 [(0, vS a0), (4, vO [4]), (6, vI vt17_10), (16, vI (a0.length : Int)), (17, vI vt17_10)] [rw_ [4] 9 1 eS l21]) (aC (ssub_b hs20) <| aC (congrArg (fun z => V.c (.str z)) (ssub_x hs20).symm) <| aC (ap1 hl21 eS) <| aC (app_b hl21) <| aN) ?_
             refine Re [.a, .a, .a] (sl 35 [(0, vS a0), (4, vO [4]), (5, vI (wrap64 (vt17_10 + (1 : Int)))), (6, vI vt17_10), (16, vI (a0.length : Int)), (17, vI vt17_10), (31, vI vt17_10), (32, vI (wrap64 (vt17_10 + (1 : Int))))] [rw_ [4] 9 1 eS l21]) (aN) ?_
             refine blockQ.normal ?_
             refine Tn ⟨((wrap64 (vt17_10 + (1 : Int))), l21), hzB13, wT⟩
         · rintro ⟨begin_t5_15, l4_16⟩ hJ17
           replace hJ17 : word_Lines_J17 vt17_10 begin_t5_15 l4_16 = some zB13 := hJ17
           unfold word_Lines_J17 at hJ17
           refine Re [.a, .a] (sl 35 [(0, vS a0), (4, vO [4]), (5, vI begin_t5_15), (16, vI (a0.length : Int)), (17, vI (wrap64 (vt17_10 + (1 : Int)))), (33, vI (wrap64 (vt17_10 + (1 : Int))))] [rw_ [4] 9 1 eS l4_16]) (aN) ?_
           refine Tn ⟨(begin_t5_15, (wrap64 (vt17_10 + (1 : Int))), l4_16), (sI hJ17).symm, wT⟩
       · refine Holds.exit ?_
         refine thenQ.exit ?_
         have hoB13_ := hoB13 _ (sI hzB13).symm
         subst hoB13_
         refine thenQ.exit ?_
         refine blockQ.out ?_
         refine Tn ⟨l4_11, h, wT⟩
     · rintro l4_4 hJ5
       replace hJ5 : word_Lines_J5 l4_4 = some r := hJ5
       unfold word_Lines_J5 at hJ5
       refine Rg [.a, .a, .a] (sl 35 [(2, vO [4]), (3, vB true)] [rw_ [4] 9 1 eS l4_4]) (aN) ?_
       refine Holds.ret ?_
       refine scopeQ.ret ?_
       exact bE (.tup [vO [4], vB true]) (.tup [vL eS l4_4, vB true]) (congrArg (fun (q : (List (List UInt8)) × Bool) => (.tup [vL eS q.1, vB q.2] : V)) (sI hJ5))
/-- internal/stringslite.Index -/
def internal_stringslite_Index (a0 : List UInt8) (a1 : List UInt8) : Option (Int) :=
 (some (if ((a1.length : Int) == (0 : Int)) = true then true else a1 == a0)).bind fun b1 =>
 (if b1 = true then
  some (0 : Int)
 else
  (if ((a1.length : Int) == (1 : Int)) = true then
   (sidx a1 (0 : Int)).bind fun c4 =>
   (dIndexByte a0 c4).bind fun r5 =>
   some r5
  else
   (if (decide ((a0.length : Int) ≤ (a1.length : Int))) = true then
    some (-1 : Int)
   else
    none)))
def internal_stringslite_Index_C (a0 : List UInt8) (a1 : List UInt8) (r : Int) : Prop := PCall Tryz.prog I0 52 [vS a0, vS a1] (· = vI r)
theorem internal_stringslite_Index_ok {a0 : List UInt8} {a1 : List UInt8} {r : Int} (h : internal_stringslite_Index a0 a1 = some r) : internal_stringslite_Index_C a0 a1 r := by
 refine PCall.body I0_stable (by kernel_rfl) Tryz.func52 rfl Tryz.ntmps52 (rs := [.tmp 4]) rfl rfl ?_
 intro w0 av old gv
 unfold internal_stringslite_Index at h
 refine Rg [.a] (sl 143 [(0, vS a0), (1, vS a1)] []) (aN) ?_
 refine Rg [.a, .a, .a] (sl 143 [(0, vS a0), (1, vS a1), (5, vI (a1.length : Int))] []) (aN) ?_
 refine Holds.seq ?_
 refine Holds.block ?_
 obtain ⟨b1, hb1, h⟩ := bS h
 refine Rg [.a, .a, .a, .a, .a, .a, (.v (vB b1)), .a] (sl 143 [(0, vS a0), (1, vS a1), (5, vI (a1.length : Int)), (16, vB b1)] []) (aH (((a1.length : Int) == (0 : Int)) == false) <| aF ((a1.length : Int) == (0 : Int)) <| aB hb1 <| aN) ?_
 refine iB h (fun b2 h => ?_) (fun b2 h => ?_)
 · refine Rg [.a] (sl 143 [(4, vI (0 : Int))] []) (aN) ?_
   refine Holds.ret ?_
   refine blockQ.ret ?_
   refine Tr ?_
   exact bQ (vI (0 : Int)) (congrArg vI (sI h))
 · refine Rg [.a, .a, .a] (sl 143 [(0, vS a0), (1, vS a1), (5, vI (a1.length : Int)), (24, vB ((a1.length : Int) == (1 : Int)))] []) (aN) ?_
   refine iB h (fun b3 h => ?_) (fun b3 h => ?_)
   · obtain ⟨c4, hc4, h⟩ := bS h
     obtain ⟨r5, hr5, h⟩ := bS h
     refine Rg [.a, .a, (.v (.c (.int .u8 c4))), (.c (vI r5)), .a] (sl 143 [(4, vI r5)] []) (aC (sidx_b hc4) <| aC (congrArg (fun z => V.c (.int .u8 z)) (sidx_x hc4).symm) <| aC (okIndexByteL hr5) <| aN) ?_
     refine Holds.ret ?_
     refine blockQ.ret ?_
     refine Tr ?_
     exact bQ (vI r5) (congrArg vI (sI h))
   · refine Rg [.a, .a, .a, .a, .a] (sl 143 [(0, vS a0), (1, vS a1), (5, vI (a1.length : Int)), (31, vB (decide ((a0.length : Int) ≤ (a1.length : Int))))] []) (aN) ?_
     refine iB h (fun b6 h => ?_) (fun b6 h => ?_)
     · refine Rg [.a] (sl 143 [(4, vI (-1 : Int))] []) (aN) ?_
       refine Holds.ret ?_
       refine blockQ.ret ?_
       refine Tr ?_
       exact bQ (vI (-1 : Int)) (congrArg vI (sI h))
     · cases h
def catalog_Find_J2  (vt7_1 : Int) : Option (Int) :=
 some vt7_1
def catalog_Find_J3  : Option (Int) :=
 catalog_Find_J2 (-1 : Int)
def catalog_Find_B7 (a0 : List (SCard)) (a1 : List UInt8) (vt8_5 : Int) : Option ((Int) ⊕ (Int ⊕ Unit)) :=
 (if (decide (vt8_5 < (a0.length : Int))) = true then
  (idx a0 vt8_5).bind fun e9 =>
  (if (e9.Name == a1) = true then
   some (.inr (.inl vt8_5))
  else
   some (.inl (wrap64 (vt8_5 + (1 : Int)))))
 else
  some (.inr (.inr ())))
/-- cardgame/catalog.Find -/
def catalog_Find (a0 : List (SCard)) (a1 : List UInt8) : Option (Int) :=
 (iter (fun (v : Int) => catalog_Find_B7 a0 a1 v) FU (0 : Int)).bind (Sum.elim (fun o0 => catalog_Find_J2 o0) (fun o1 => catalog_Find_J3))
def catalog_Find_C (a0 : List (SCard)) (a1 : List UInt8) (r : Int) : Prop := PCall Tryz.prog I0 31 [vL encSCard a0, vS a1] (· = vI r)
theorem catalog_Find_ok {a0 : List (SCard)} {a1 : List UInt8} {r : Int} (h : catalog_Find a0 a1 = some r) : catalog_Find_C a0 a1 r := by
 refine PCall.body I0_stable (by kernel_rfl) Tryz.func31 rfl Tryz.ntmps31 (rs := [.tmp 4]) rfl rfl ?_
 intro w0 av old gv
 unfold catalog_Find at h
 refine Rg [.a, .a] (sl 8 [(0, vL encSCard a0), (3, vP [3] (0))] [bx [3] [.str a1]]) (aN) ?_
 refine Holds.seq ?_
 refine Holds.region ?_
 refine Rp 2 [.a, .a] (sl 8 [(0, vL encSCard a0), (3, vP [3] (0)), (5, vL encSCard a0), (6, .c (.clo 45 [.ptr [3] (0)]))] [bx [3] [.str a1]]) (aC (show True ∧ True from ⟨trivial, trivial⟩) <| aN) ?_
 refine Run.inlJ (X := Int) (fun v => (sl 8 [(7, vI v)] [])) (fun v => catalog_Find_J2 v = some r) rfl rfl (Esc.inline (s := True ∧ (True ∧ True)) (vs := [vL encSCard a0, .c (.clo 45 [.ptr [3] (0)])]) (cs := []) 7 rfl rfl rfl (by kernel_rfl) ⟨trivial, ⟨trivial, trivial⟩⟩ (by kernel_rfl) (by kernel_rfl) Tryz.func44 rfl Tryz.ntmps44 (rs := [.tmp 4]) rfl ?_) ?_
 · intro w00 av0 old0 gv0
   refine At (sg 19 [(0, vL encSCard a0), (1, .c (.clo 45 [.ptr [3] (0)]))] [bx [3] [.str a1]] 8 [(0, vL encSCard a0), (3, vP [3] (0)), (5, vL encSCard a0), (6, .c (.clo 45 [.ptr [3] (0)]))] [7]) ?_
   refine Rg [.a] (sg 19 [(0, vL encSCard a0), (1, .c (.clo 45 [.ptr [3] (0)]))] [bx [3] [.str a1]] 8 [(0, vL encSCard a0), (3, vP [3] (0)), (5, vL encSCard a0), (6, .c (.clo 45 [.ptr [3] (0)]))] [7]) (aN) ?_
   refine Sj (X := Unit) (fun v => (sg 19 [] [bx [3] [.str a1]] 8 [(0, vL encSCard a0), (3, vP [3] (0)), (5, vL encSCard a0), (6, .c (.clo 45 [.ptr [3] (0)]))] [7])) (fun v => catalog_Find_J3 = some r) ?_ ?_
   · refine Rg [.a, .a, .a] (sg 19 [(0, vL encSCard a0), (1, .c (.clo 45 [.ptr [3] (0)])), (7, vI (a0.length : Int)), (8, vI (0 : Int))] [bx [3] [.str a1]] 8 [(0, vL encSCard a0), (3, vP [3] (0)), (5, vL encSCard a0), (6, .c (.clo 45 [.ptr [3] (0)]))] [7]) (aN) ?_
     refine Holds.block ?_
     obtain ⟨oB7, hiB7, h⟩ := bS h
     refine It (fun (v : Int) => (sg 19 [(0, vL encSCard a0), (1, .c (.clo 45 [.ptr [3] (0)])), (7, vI (a0.length : Int)), (8, vI v)] [bx [3] [.str a1]] 8 [(0, vL encSCard a0), (3, vP [3] (0)), (5, vL encSCard a0), (6, .c (.clo 45 [.ptr [3] (0)]))] [7])) hiB7 (wT) ?_
     rintro vt8_5 zB7 hzB7 hoB7
     replace hzB7 : catalog_Find_B7 a0 a1 vt8_5 = some zB7 := hzB7
     unfold catalog_Find_B7 at hzB7
     refine Rg [.a] (sg 19 [(0, vL encSCard a0), (1, .c (.clo 45 [.ptr [3] (0)])), (7, vI (a0.length : Int)), (8, vI vt8_5), (9, vB (decide (vt8_5 < (a0.length : Int))))] [bx [3] [.str a1]] 8 [(0, vL encSCard a0), (3, vP [3] (0)), (5, vL encSCard a0), (6, .c (.clo 45 [.ptr [3] (0)]))] [7]) (aN) ?_
     refine Holds.seq ?_
     refine iB hzB7 (fun b8 hzB7 => ?_) (fun b8 hzB7 => ?_)
     · refine Holds.skip ?_
       refine Tn ?_
       refine Holds.seq ?_
       refine Holds.block ?_
       refine Rg [.a, .a] (sg 19 [(0, vL encSCard a0), (1, .c (.clo 45 [.ptr [3] (0)])), (5, vI vt8_5), (7, vI (a0.length : Int)), (8, vI vt8_5)] [bx [3] [.str a1]] 8 [(0, vL encSCard a0), (3, vP [3] (0)), (5, vL encSCard a0), (6, .c (.clo 45 [.ptr [3] (0)]))] [7]) (aN) ?_
       refine Holds.seq ?_
       refine Holds.region ?_
       obtain ⟨e9, he9, hzB7⟩ := bS hzB7
       refine Rp 5 [.a, .a, .a, .a, (.v (vA encSCard e9))] (sg 19 [(0, vL encSCard a0), (1, .c (.clo 45 [.ptr [3] (0)])), (5, vI vt8_5), (7, vI (a0.length : Int)), (8, vI vt8_5), (11, .c (.clo 45 [.ptr [3] (0)])), (12, vL encSCard a0), (13, vI vt8_5), (14, vX encSCard a0 ((vt8_5).toNat * 17)), (15, vA encSCard e9)] [bx [3] [.str a1]] 8 [(0, vL encSCard a0), (3, vP [3] (0)), (5, vL encSCard a0), (6, .c (.clo 45 [.ptr [3] (0)]))] [7]) (aC (idx_b he9) <| aC (eld he9 lenSCard 0 17 true (vA encSCard e9)) <| aC (Eq.refl (vA encSCard e9)) <| aN) ?_
       refine Run.inl rfl rfl (Esc.inline (s := True ∧ True) (vs := [vA encSCard e9]) (cs := [.ptr [3] (0)]) 16 rfl rfl rfl (by kernel_rfl) ⟨trivial, trivial⟩ (by kernel_rfl) (by kernel_rfl) Tryz.func45 rfl Tryz.ntmps45 (rs := [.tmp 3]) rfl ?_)
       intro w09 av9 old9 gv9
       refine At (sg 8 [(0, vA encSCard e9), (1, vP [3] (0))] [bx [3] [.str a1]] 27 [(0, vL encSCard a0), (1, .c (.clo 45 [.ptr [3] (0)])), (5, vI vt8_5), (7, vI (a0.length : Int)), (8, vI vt8_5), (11, .c (.clo 45 [.ptr [3] (0)])), (12, vL encSCard a0), (13, vI vt8_5), (14, vX encSCard a0 ((vt8_5).toNat * 17)), (15, vA encSCard e9), (19, vL encSCard a0), (22, vP [3] (0)), (24, vL encSCard a0), (25, .c (.clo 45 [.ptr [3] (0)]))] [16, 7]) ?_
       refine Rg [.a, .a] (sg 8 [(1, vP [3] (0)), (2, vP [2, 16, 7] (0))] [bx [2, 16, 7] (encSCard e9), bx [3] [.str a1]] 27 [(0, vL encSCard a0), (1, .c (.clo 45 [.ptr [3] (0)])), (5, vI vt8_5), (7, vI (a0.length : Int)), (8, vI vt8_5), (11, .c (.clo 45 [.ptr [3] (0)])), (12, vL encSCard a0), (13, vI vt8_5), (14, vX encSCard a0 ((vt8_5).toNat * 17)), (15, vA encSCard e9), (19, vL encSCard a0), (22, vP [3] (0)), (24, vL encSCard a0), (25, .c (.clo 45 [.ptr [3] (0)]))] [16, 7]) (aN) ?_
       refine Rg [.a, .a, .a, .a, .a] (sg 8 [(3, vB (e9.Name == a1))] [bx [3] [.str a1]] 27 [(0, vL encSCard a0), (1, .c (.clo 45 [.ptr [3] (0)])), (5, vI vt8_5), (7, vI (a0.length : Int)), (8, vI vt8_5), (11, .c (.clo 45 [.ptr [3] (0)])), (12, vL encSCard a0), (13, vI vt8_5), (14, vX encSCard a0 ((vt8_5).toNat * 17)), (15, vA encSCard e9), (19, vL encSCard a0), (22, vP [3] (0)), (24, vL encSCard a0), (25, .c (.clo 45 [.ptr [3] (0)]))] [16, 7]) (aN) ?_
       refine Holds.ret ?_
       refine inQ.ret (v := vB (e9.Name == a1)) (by kernel_rfl) ?_
       refine Rw [] (sg 19 [(0, vL encSCard a0), (1, .c (.clo 45 [.ptr [3] (0)])), (5, vI vt8_5), (7, vI (a0.length : Int)), (8, vI vt8_5), (11, .c (.clo 45 [.ptr [3] (0)])), (12, vL encSCard a0), (13, vI vt8_5), (14, vX encSCard a0 ((vt8_5).toNat * 17)), (15, vA encSCard e9), (16, vB (e9.Name == a1))] [bx [3] [.str a1]] 8 [(0, vL encSCard a0), (3, vP [3] (0)), (5, vL encSCard a0), (6, .c (.clo 45 [.ptr [3] (0)]))] [7]) (aN) ?_
       refine Tn ?_
       refine iB hzB7 (fun b10 hzB7 => ?_) (fun b10 hzB7 => ?_)
       · refine Rg [.a, .a] (sg 19 [(4, vI vt8_5)] [bx [3] [.str a1]] 8 [(0, vL encSCard a0), (3, vP [3] (0)), (5, vL encSCard a0), (6, .c (.clo 45 [.ptr [3] (0)]))] [7]) (aN) ?_
         refine Holds.ret ?_
         refine blockQ.ret ?_
         refine Tr ?_
         have hoB7_ := hoB7 _ (sI hzB7).symm
         subst hoB7_
         replace h := sumL h
         refine Tr ?_
         refine blockQ.ret ?_
         refine Tr ?_
         refine inQ.ret (v := vI vt8_5) (by kernel_rfl) ⟨vt8_5, h, lT⟩
       · refine Holds.skip ?_
         refine blockQ.normal ?_
         refine Tn ?_
         refine Re [.a, .a] (sg 19 [(0, vL encSCard a0), (1, .c (.clo 45 [.ptr [3] (0)])), (5, vI vt8_5), (7, vI (a0.length : Int)), (8, vI (wrap64 (vt8_5 + (1 : Int)))), (11, .c (.clo 45 [.ptr [3] (0)])), (12, vL encSCard a0), (13, vI vt8_5), (14, vX encSCard a0 ((vt8_5).toNat * 17)), (15, vA encSCard e9), (16, vB (e9.Name == a1)), (18, vI (wrap64 (vt8_5 + (1 : Int))))] [bx [3] [.str a1]] 8 [(0, vL encSCard a0), (3, vP [3] (0)), (5, vL encSCard a0), (6, .c (.clo 45 [.ptr [3] (0)]))] [7]) (aN) ?_
         refine Tn ⟨(wrap64 (vt8_5 + (1 : Int))), (sI hzB7).symm, wT⟩
     · refine Holds.exit ?_
       refine thenQ.exit ?_
       have hoB7_ := hoB7 _ (sI hzB7).symm
       subst hoB7_
       replace h := sumR h
       refine thenQ.exit ?_
       refine blockQ.out ?_
       refine Tn ⟨(), h, wT⟩
   · rintro _ hJ3
     replace hJ3 : catalog_Find_J3 = some r := hJ3
     unfold catalog_Find_J3 at hJ3
     refine Rg [.a] (sg 19 [(4, vI (-1 : Int))] [bx [3] [.str a1]] 8 [(0, vL encSCard a0), (3, vP [3] (0)), (5, vL encSCard a0), (6, .c (.clo 45 [.ptr [3] (0)]))] [7]) (aN) ?_
     refine Holds.ret ?_
     refine inQ.ret (v := vI (-1 : Int)) (by kernel_rfl) ⟨(-1 : Int), hJ3, lT⟩
 · rintro vt7_1 hJ2
   replace hJ2 : catalog_Find_J2 vt7_1 = some r := hJ2
   unfold catalog_Find_J2 at hJ2
   refine Rw [.a] (sl 8 [(4, vI vt7_1), (7, vI vt7_1)] []) (aN) ?_
   refine Tn ?_
   refine Holds.ret ?_
   exact bQ (vI vt7_1) (congrArg vI (sI hJ2))
def deck_formed_J2  : Option (Bool) :=
 some true
def deck_formed_B5 (a0 : List (SCard)) (a1 : SDeck) (vt17_4 : Int) : Option ((Int) ⊕ (Unit ⊕ Unit)) :=
 (if (decide (vt17_4 < (a1.Cards.length : Int))) = true then
  (idx a1.Cards vt17_4).bind fun e7 =>
  (some (if (decide (e7 < (0 : Int))) = true then true else decide ((a0.length : Int) ≤ e7))).bind fun b8 =>
  (gd (b8 == false) (idx a0 e7)).bind fun e9 =>
  (some (if b8 = true then true else e9.Token)).bind fun b10 =>
  (gd (b10 == false) (idx a1.Counts vt17_4)).bind fun e11 =>
  (some (if b10 = true then true else decide (e11 < (1 : Int)))).bind fun b12 =>
  (gd (b12 == false) (idx a1.Counts vt17_4)).bind fun e13 =>
  (some (if b12 = true then true else decide ((250 : Int) < e13))).bind fun b14 =>
  (gd ((b14 == false) && ((decide ((0 : Int) < vt17_4)) == true)) (idx a1.Cards (wrap64 (vt17_4 - (1 : Int))))).bind fun e15 =>
  (some (if (decide ((0 : Int) < vt17_4)) = true then decide (e7 ≤ e15) else false)).bind fun b16 =>
  (some (if b14 = true then true else b16)).bind fun b17 =>
  (if b17 = true then
   some (.inr (.inl ()))
  else
   some (.inl (wrap64 (vt17_4 + (1 : Int)))))
 else
  some (.inr (.inr ())))
/-- cardgame/deck.formed -/
def deck_formed (a0 : List (SCard)) (a1 : SDeck) : Option (Bool) :=
 (if ((a1.Cards.length : Int) != (a1.Counts.length : Int)) = true then
  some false
 else
  (iter (fun (v : Int) => deck_formed_B5 a0 a1 v) FU (0 : Int)).bind (Sum.elim (fun o0 => some false) (fun o1 => deck_formed_J2)))
def deck_formed_C (a0 : List (SCard)) (a1 : SDeck) (r : Bool) : Prop := PCall Tryz.prog I0 20 [vL encSCard a0, vA encSDeck a1] (· = vB r)
theorem deck_formed_ok {a0 : List (SCard)} {a1 : SDeck} {r : Bool} (h : deck_formed a0 a1 = some r) : deck_formed_C a0 a1 r := by
 refine PCall.body I0_stable (by kernel_rfl) Tryz.func20 rfl Tryz.ntmps20 (rs := [.tmp 4]) rfl rfl ?_
 intro w0 av old gv
 unfold deck_formed at h
 refine Rg [.a, .a] (sl 68 [(0, vL encSCard a0), (3, vP [3] (0))] [bx [3] (encSDeck a1)]) (aN) ?_
 refine Holds.seq ?_
 refine Rg [.a, .a, .a, .a, .a, .a, .a] (sl 68 [(0, vL encSCard a0), (3, vP [3] (0)), (13, vB ((a1.Cards.length : Int) != (a1.Counts.length : Int)))] [bx [3] (encSDeck a1)]) (aN) ?_
 refine iB h (fun b1 h => ?_) (fun b1 h => ?_)
 · refine Rg [.a] (sl 68 [(4, vB false)] []) (aN) ?_
   refine Holds.ret ?_
   refine Tr ?_
   exact bQ (vB false) (congrArg vB (sI h))
 · refine Holds.skip ?_
   refine Tn ?_
   refine Sj (X := Unit) (fun v => (sl 68 [] [])) (fun v => deck_formed_J2 = some r) ?_ ?_
   · refine Rg [.a, .a, .a, .a] (sl 68 [(0, vL encSCard a0), (3, vP [3] (0)), (15, vL (eI .i64) a1.Cards), (16, vI (a1.Cards.length : Int)), (17, vI (0 : Int))] [bx [3] (encSDeck a1)]) (aN) ?_
     refine Holds.block ?_
     obtain ⟨oB5, hiB5, h⟩ := bS h
     refine It (fun (v : Int) => (sl 68 [(0, vL encSCard a0), (3, vP [3] (0)), (15, vL (eI .i64) a1.Cards), (16, vI (a1.Cards.length : Int)), (17, vI v)] [bx [3] (encSDeck a1)])) hiB5 (wT) ?_
     rintro vt17_4 zB5 hzB5 hoB5
     replace hzB5 : deck_formed_B5 a0 a1 vt17_4 = some zB5 := hzB5
     unfold deck_formed_B5 at hzB5
     refine Rg [.a] (sl 68 [(0, vL encSCard a0), (3, vP [3] (0)), (15, vL (eI .i64) a1.Cards), (16, vI (a1.Cards.length : Int)), (17, vI vt17_4), (18, vB (decide (vt17_4 < (a1.Cards.length : Int))))] [bx [3] (encSDeck a1)]) (aN) ?_
     refine Holds.seq ?_
     refine iB hzB5 (fun b6 hzB5 => ?_) (fun b6 hzB5 => ?_)
     · refine Holds.skip ?_
       refine Tn ?_
       refine Holds.seq ?_
       refine Holds.block ?_
       obtain ⟨e7, he7, hzB5⟩ := bS hzB5
       refine Rg [.a, .a, (.v (vI e7)), .a, .a] (sl 68 [(0, vL encSCard a0), (3, vP [3] (0)), (5, vI vt17_4), (6, vI e7), (15, vL (eI .i64) a1.Cards), (16, vI (a1.Cards.length : Int)), (17, vI vt17_4)] [bx [3] (encSDeck a1)]) (aC (idx_b he7) <| aC (eld he7 (lenI .i64) 0 1 false (vI e7)) <| aC (Eq.refl (vI e7)) <| aN) ?_
       obtain ⟨b8, hb8, hzB5⟩ := bS hzB5
       obtain ⟨e9, he9, hzB5⟩ := bS hzB5
       obtain ⟨b10, hb10, hzB5⟩ := bS hzB5
       obtain ⟨e11, he11, hzB5⟩ := bS hzB5
       obtain ⟨b12, hb12, hzB5⟩ := bS hzB5
       obtain ⟨e13, he13, hzB5⟩ := bS hzB5
       obtain ⟨b14, hb14, hzB5⟩ := bS hzB5
       obtain ⟨e15, he15, hzB5⟩ := bS hzB5
       obtain ⟨b16, hb16, hzB5⟩ := bS hzB5
       obtain ⟨b17, hb17, hzB5⟩ := bS hzB5
       refine Rg [.a, .a, .a, .a, .a, .a, .a, (.v (vB b8)), .a, .a, .a, .a, .a, (.v (vB e9.Token)), (.v (vB b10)), .a, .a, .a, .a, .a, (.v (vI e11)), .a, (.v (vB b12)), .a, .a, .a, .a, .a, (.v (vI e13)), .a, (.v (vB b14)), .a, .a, .a, .a, .a, .a, .a, .a, .a, (.v (vI e15)), .a, .a, (.v (vB b16)), (.v (vB b17))] (sl 68 [(0, vL encSCard a0), (3, vP [3] (0)), (15, vL (eI .i64) a1.Cards), (16, vI (a1.Cards.length : Int)), (17, vI vt17_4), (66, vB b17)] [bx [3] (encSDeck a1)]) (aG ((decide (e7 < (0 : Int))) == false) <| aH ((decide (e7 < (0 : Int))) == false) <| aF (decide (e7 < (0 : Int))) <| aB hb8 <| aC (fun hg : (b8 == false) = true => aC (gi (b8 == false)) <| aC (gi (b8 == false)) <| aC (gidx_b he9 hg).1 <| aN) <| aG (b8 == false) <| aC (fun hg : (b8 == false) = true => aC (gi (b8 == false)) <| aC (eld (gd_t he9 hg) lenSCard 1 1 false (vB e9.Token)) <| aC (Eq.refl (vB e9.Token)) <| aN) <| aF b8 <| aB hb10 <| aG (b10 == false) <| aC (fun hg : (b10 == false) = true => aC (gi (b10 == false)) <| aC (gi (b10 == false)) <| aC (gidx_b he11 hg).1 <| aN) <| aC (fun hg : (b10 == false) = true => aC (gi (b10 == false)) <| aC (eld (gd_t he11 hg) (lenI .i64) 0 1 false (vI e11)) <| aC (Eq.refl (vI e11)) <| aN) <| aG (b10 == false) <| aF b10 <| aB hb12 <| aG (b12 == false) <| aC (fun hg : (b12 == false) = true => aC (gi (b12 == false)) <| aC (gi (b12 == false)) <| aC (gidx_b he13 hg).1 <| aN) <| aC (fun hg : (b12 == false) = true => aC (gi (b12 == false)) <| aC (eld (gd_t he13 hg) (lenI .i64) 0 1 false (vI e13)) <| aC (Eq.refl (vI e13)) <| aN) <| aG (b12 == false) <| aF b12 <| aB hb14 <| aG (b14 == false) <| aG (b14 == false) <| aG ((b14 == false) && ((decide ((0 : Int) < vt17_4)) == true)) <| aG ((b14 == false) && ((decide ((0 : Int) < vt17_4)) == true)) <| aC (fun hg : ((b14 == false) && ((decide ((0 : Int) < vt17_4)) == true)) = true => aC (gi ((b14 == false) && ((decide ((0 : Int) < vt17_4)) == true))) <| aC (gi ((b14 == false) && ((decide ((0 : Int) < vt17_4)) == true))) <| aC (gidx_b he15 hg).1 <| aN) <| aC (fun hg : ((b14 == false) && ((decide ((0 : Int) < vt17_4)) == true)) = true => aC (gi ((b14 == false) && ((decide ((0 : Int) < vt17_4)) == true))) <| aC (eld (gd_t he15 hg) (lenI .i64) 0 1 false (vI e15)) <| aC (Eq.refl (vI e15)) <| aN) <| aH ((b14 == false) && ((decide ((0 : Int) < vt17_4)) == true)) <| aC (fun hg : (b14 == false) = true => aC (gi (b14 == false)) <| aC (fun q : (decide ((0 : Int) < vt17_4)) = true => (gA hg (gT q))) <| aB hb16 <| aN) <| aF b14 <| aB hb17 <| aN) ?_
       refine iB hzB5 (fun b18 hzB5 => ?_) (fun b18 hzB5 => ?_)
       · refine Rg [.a] (sl 68 [(4, vB false)] []) (aN) ?_
         refine Holds.ret ?_
         refine blockQ.ret ?_
         refine Tr ?_
         have hoB5_ := hoB5 _ (sI hzB5).symm
         subst hoB5_
         replace h := sumL h
         refine Tr ?_
         refine blockQ.ret ?_
         refine Tr ?_
         exact bQ (vB false) (congrArg vB (sI h))
       · refine Holds.skip ?_
         refine blockQ.normal ?_
         refine Tn ?_
         refine Re [.a, .a] (sl 68 [(0, vL encSCard a0), (3, vP [3] (0)), (15, vL (eI .i64) a1.Cards), (16, vI (a1.Cards.length : Int)), (17, vI (wrap64 (vt17_4 + (1 : Int)))), (66, vB b17), (67, vI (wrap64 (vt17_4 + (1 : Int))))] [bx [3] (encSDeck a1)]) (aN) ?_
         refine Tn ⟨(wrap64 (vt17_4 + (1 : Int))), (sI hzB5).symm, wT⟩
     · refine Holds.exit ?_
       refine thenQ.exit ?_
       have hoB5_ := hoB5 _ (sI hzB5).symm
       subst hoB5_
       replace h := sumR h
       refine thenQ.exit ?_
       refine blockQ.out ?_
       refine Tn ⟨(), h, wT⟩
   · rintro _ hJ2
     replace hJ2 : deck_formed_J2 = some r := hJ2
     unfold deck_formed_J2 at hJ2
     refine Rg [.a] (sl 68 [(4, vB true)] []) (aN) ?_
     refine Holds.ret ?_
     exact bQ (vB true) (congrArg vB (sI hJ2))
def r23_Ints_J2  : Option (Bool) :=
 some true
def r23_Ints_B5 (a0 : List (Int)) (a1 : List (Int)) (i_t5_4 : Int) : Option ((Int) ⊕ (Unit ⊕ Unit)) :=
 (if (decide (i_t5_4 < (a0.length : Int))) = true then
  (idx a0 i_t5_4).bind fun e7 =>
  (idx a1 i_t5_4).bind fun e8 =>
  (if (e7 != e8) = true then
   some (.inr (.inl ()))
  else
   some (.inl (wrap64 (i_t5_4 + (1 : Int)))))
 else
  some (.inr (.inr ())))
/-- cardgame/cardgameref23.Ints -/
def r23_Ints (a0 : List (Int)) (a1 : List (Int)) : Option (Bool) :=
 (if ((a0.length : Int) != (a1.length : Int)) = true then
  some false
 else
  (iter (fun (v : Int) => r23_Ints_B5 a0 a1 v) FU (0 : Int)).bind (Sum.elim (fun o0 => some false) (fun o1 => r23_Ints_J2)))
def r23_Ints_C (a0 : List (Int)) (a1 : List (Int)) (r : Bool) : Prop := PCall Tryz.prog I0 32 [vL (eI .i64) a0, vL (eI .i64) a1] (· = vB r)
theorem r23_Ints_ok {a0 : List (Int)} {a1 : List (Int)} {r : Bool} (h : r23_Ints a0 a1 = some r) : r23_Ints_C a0 a1 r := by
 refine PCall.body I0_stable (by kernel_rfl) Tryz.func32 rfl Tryz.ntmps32 (rs := [.tmp 4]) rfl rfl ?_
 intro w0 av old gv
 unfold r23_Ints at h
 refine Rg [.a] (sl 26 [(0, vL (eI .i64) a0), (1, vL (eI .i64) a1)] []) (aN) ?_
 refine Holds.seq ?_
 refine Rg [.a, .a, .a, .a, .a] (sl 26 [(0, vL (eI .i64) a0), (1, vL (eI .i64) a1), (10, vB ((a0.length : Int) != (a1.length : Int)))] []) (aN) ?_
 refine iB h (fun b1 h => ?_) (fun b1 h => ?_)
 · refine Rg [.a] (sl 26 [(4, vB false)] []) (aN) ?_
   refine Holds.ret ?_
   refine Tr ?_
   exact bQ (vB false) (congrArg vB (sI h))
 · refine Holds.skip ?_
   refine Tn ?_
   refine Sj (X := Unit) (fun v => (sl 26 [] [])) (fun v => r23_Ints_J2 = some r) ?_ ?_
   · refine Rg [.a] (sl 26 [(0, vL (eI .i64) a0), (1, vL (eI .i64) a1), (5, vI (0 : Int))] []) (aN) ?_
     refine Holds.block ?_
     obtain ⟨oB5, hiB5, h⟩ := bS h
     refine It (fun (v : Int) => (sl 26 [(0, vL (eI .i64) a0), (1, vL (eI .i64) a1), (5, vI v)] [])) hiB5 (wT) ?_
     rintro i_t5_4 zB5 hzB5 hoB5
     replace hzB5 : r23_Ints_B5 a0 a1 i_t5_4 = some zB5 := hzB5
     unfold r23_Ints_B5 at hzB5
     refine Holds.seq ?_
     refine Rg [.a, .a, .a, .a] (sl 26 [(0, vL (eI .i64) a0), (1, vL (eI .i64) a1), (5, vI i_t5_4), (14, vB (decide (i_t5_4 < (a0.length : Int))))] []) (aN) ?_
     refine iB hzB5 (fun b6 hzB5 => ?_) (fun b6 hzB5 => ?_)
     · refine Holds.skip ?_
       refine Tn ?_
       refine Holds.seq ?_
       refine Holds.block ?_
       obtain ⟨e7, he7, hzB5⟩ := bS hzB5
       obtain ⟨e8, he8, hzB5⟩ := bS hzB5
       refine Rq followsP [.a, .a, .a, (.v (vI e7)), .a, .a, .a, (.v (vI e8)), .a] (sl 26 [(0, vL (eI .i64) a0), (1, vL (eI .i64) a1), (5, vI i_t5_4), (25, vB (e7 != e8))] []) (aC (idx_b he7) <| aC (eld he7 (lenI .i64) 0 1 false (vI e7)) <| aC (Eq.refl (vI e7)) <| aC (idx_b he8) <| aC (eld he8 (lenI .i64) 0 1 false (vI e8)) <| aC (Eq.refl (vI e8)) <| aN) ?_
       refine iB hzB5 (fun b9 hzB5 => ?_) (fun b9 hzB5 => ?_)
       · refine Rg [.a] (sl 26 [(4, vB false)] []) (aN) ?_
         refine Holds.ret ?_
         refine blockQ.ret ?_
         refine Tr ?_
         have hoB5_ := hoB5 _ (sI hzB5).symm
         subst hoB5_
         replace h := sumL h
         refine Tr ?_
         refine blockQ.ret ?_
         refine Tr ?_
         exact bQ (vB false) (congrArg vB (sI h))
       · refine Holds.skip ?_
         refine blockQ.normal ?_
         refine Tn ?_
         refine Re [.a, .a, .a] (sl 26 [(0, vL (eI .i64) a0), (1, vL (eI .i64) a1), (5, vI (wrap64 (i_t5_4 + (1 : Int)))), (15, vI i_t5_4), (16, vI (wrap64 (i_t5_4 + (1 : Int)))), (25, vB (e7 != e8))] []) (aN) ?_
         refine Tn ⟨(wrap64 (i_t5_4 + (1 : Int))), (sI hzB5).symm, wT⟩
     · refine Holds.exit ?_
       refine thenQ.exit ?_
       have hoB5_ := hoB5 _ (sI hzB5).symm
       subst hoB5_
       replace h := sumR h
       refine thenQ.exit ?_
       refine blockQ.out ?_
       refine Tn ⟨(), h, wT⟩
   · rintro _ hJ2
     replace hJ2 : r23_Ints_J2 = some r := hJ2
     unfold r23_Ints_J2 at hJ2
     refine Rg [.a] (sl 26 [(4, vB true)] []) (aN) ?_
     refine Holds.ret ?_
     exact bQ (vB true) (congrArg vB (sI hJ2))
def slices_Index_string_string_J1  : Option (Int) :=
 some (-1 : Int)
def slices_Index_string_string_B5 (a0 : List (List UInt8)) (a1 : List UInt8) (vt8_3 : Int) : Option ((Int) ⊕ (Int ⊕ Unit)) :=
 (if (decide (vt8_3 < (a0.length : Int))) = true then
  (idx a0 vt8_3).bind fun e7 =>
  (if (a1 == e7) = true then
   some (.inr (.inl vt8_3))
  else
   some (.inl (wrap64 (vt8_3 + (1 : Int)))))
 else
  some (.inr (.inr ())))
/-- slices.Index[[]string,string] -/
def slices_Index_string_string (a0 : List (List UInt8)) (a1 : List UInt8) : Option (Int) :=
 (iter (fun (v : Int) => slices_Index_string_string_B5 a0 a1 v) FU (0 : Int)).bind (Sum.elim (fun o0 => some o0) (fun o1 => slices_Index_string_string_J1))
def slices_Index_string_string_C (a0 : List (List UInt8)) (a1 : List UInt8) (r : Int) : Prop := PCall Tryz.prog I0 36 [vL eS a0, vS a1] (· = vI r)
theorem slices_Index_string_string_ok {a0 : List (List UInt8)} {a1 : List UInt8} {r : Int} (h : slices_Index_string_string a0 a1 = some r) : slices_Index_string_string_C a0 a1 r := by
 refine PCall.body I0_stable (by kernel_rfl) Tryz.func36 rfl Tryz.ntmps36 (rs := [.tmp 4]) rfl rfl ?_
 intro w0 av old gv
 unfold slices_Index_string_string at h
 refine Rg [.a] (sl 19 [(0, vL eS a0), (1, vS a1)] []) (aN) ?_
 refine Sj (X := Unit) (fun v => (sl 19 [] [])) (fun v => slices_Index_string_string_J1 = some r) ?_ ?_
 · refine Rg [.a, .a, .a] (sl 19 [(0, vL eS a0), (1, vS a1), (7, vI (a0.length : Int)), (8, vI (0 : Int))] []) (aN) ?_
   refine Holds.block ?_
   obtain ⟨oB5, hiB5, h⟩ := bS h
   refine It (fun (v : Int) => (sl 19 [(0, vL eS a0), (1, vS a1), (7, vI (a0.length : Int)), (8, vI v)] [])) hiB5 (wT) ?_
   rintro vt8_3 zB5 hzB5 hoB5
   replace hzB5 : slices_Index_string_string_B5 a0 a1 vt8_3 = some zB5 := hzB5
   unfold slices_Index_string_string_B5 at hzB5
   refine Rg [.a] (sl 19 [(0, vL eS a0), (1, vS a1), (7, vI (a0.length : Int)), (8, vI vt8_3), (9, vB (decide (vt8_3 < (a0.length : Int))))] []) (aN) ?_
   refine Holds.seq ?_
   refine iB hzB5 (fun b6 hzB5 => ?_) (fun b6 hzB5 => ?_)
   · refine Holds.skip ?_
     refine Tn ?_
     refine Holds.seq ?_
     refine Holds.block ?_
     refine Rg [.a, .a] (sl 19 [(0, vL eS a0), (1, vS a1), (5, vI vt8_3), (7, vI (a0.length : Int)), (8, vI vt8_3)] []) (aN) ?_
     obtain ⟨e7, he7, hzB5⟩ := bS hzB5
     refine Rg [.a, .a, .a, .a, (.v (vS e7)), .a] (sl 19 [(0, vL eS a0), (1, vS a1), (5, vI vt8_3), (7, vI (a0.length : Int)), (8, vI vt8_3), (16, vB (a1 == e7))] []) (aC (idx_b he7) <| aC (eld he7 lenS 0 1 false (vS e7)) <| aC (Eq.refl (vS e7)) <| aN) ?_
     refine iB hzB5 (fun b8 hzB5 => ?_) (fun b8 hzB5 => ?_)
     · refine Rg [.a, .a] (sl 19 [(4, vI vt8_3)] []) (aN) ?_
       refine Holds.ret ?_
       refine blockQ.ret ?_
       refine Tr ?_
       have hoB5_ := hoB5 _ (sI hzB5).symm
       subst hoB5_
       replace h := sumL h
       refine Tr ?_
       refine blockQ.ret ?_
       refine Tr ?_
       exact bQ (vI vt8_3) (congrArg vI (sI h))
     · refine Holds.skip ?_
       refine blockQ.normal ?_
       refine Tn ?_
       refine Re [.a, .a] (sl 19 [(0, vL eS a0), (1, vS a1), (5, vI vt8_3), (7, vI (a0.length : Int)), (8, vI (wrap64 (vt8_3 + (1 : Int)))), (16, vB (a1 == e7)), (18, vI (wrap64 (vt8_3 + (1 : Int))))] []) (aN) ?_
       refine Tn ⟨(wrap64 (vt8_3 + (1 : Int))), (sI hzB5).symm, wT⟩
   · refine Holds.exit ?_
     refine thenQ.exit ?_
     have hoB5_ := hoB5 _ (sI hzB5).symm
     subst hoB5_
     replace h := sumR h
     refine thenQ.exit ?_
     refine blockQ.out ?_
     refine Tn ⟨(), h, wT⟩
 · rintro _ hJ1
   replace hJ1 : slices_Index_string_string_J1 = some r := hJ1
   unfold slices_Index_string_string_J1 at hJ1
   refine Rg [.a] (sl 19 [(4, vI (-1 : Int))] []) (aN) ?_
   refine Holds.ret ?_
   exact bQ (vI (-1 : Int)) (congrArg vI (sI hJ1))
def deck_List_J2  (l3_1 : List (Int)) : Option ((List (Int))) :=
 some l3_1
def deck_List_J11 (vt13_5 : Int) (l3_10 : List (Int)) : Option ((Int × (List (Int))) ⊕ ((List (Int)))) :=
 some (.inl ((wrap64 (vt13_5 + (1 : Int))), l3_10))
def deck_List_B17 (a0 : SDeck) (vt13_5 : Int) (n_t5_14 : Int) (l3_15 : List (Int)) : Option ((Int × (List (Int))) ⊕ ((List (Int)))) :=
 (idx a0.Counts vt13_5).bind fun e18 =>
 (some (if (decide (n_t5_14 < e18)) = true then decide ((l3_15.length : Int) < (250 : Int)) else false)).bind fun b19 =>
 (if b19 = true then
  (idx a0.Cards vt13_5).bind fun e21 =>
  (app 8 l3_15 ([e21] : List (Int))).bind fun l22 =>
  some (.inl ((wrap64 (n_t5_14 + (1 : Int))), l22))
 else
  some (.inr l3_15))
def deck_List_B8 (a0 : SDeck) (vt13_5 : Int) (l3_6 : List (Int)) : Option ((Int × (List (Int))) ⊕ ((List (Int)))) :=
 (if (decide (vt13_5 < (if (a0.Counts.length : Int) < (a0.Cards.length : Int) then (a0.Counts.length : Int) else (a0.Cards.length : Int)))) = true then
  (iter (fun (v : Int × (List (Int))) => deck_List_B17 a0 vt13_5 v.1 v.2) FU ((0 : Int), l3_6)).bind (fun o0 => deck_List_J11 vt13_5 o0)
 else
  some (.inr l3_6))
/-- cardgame/deck.List -/
def deck_List (a0 : SDeck) : Option ((List (Int))) :=
 (iter (fun (v : Int × (List (Int))) => deck_List_B8 a0 v.1 v.2) FU ((0 : Int), ([] : List (Int)))).bind (fun o0 => deck_List_J2 o0)
def deck_List_C (a0 : SDeck) (r : (List (Int))) : Prop := PCall Tryz.prog I0 16 [vA encSDeck a0] (· = vL (eI .i64) r)
theorem deck_List_ok {a0 : SDeck} {r : (List (Int))} (h : deck_List a0 = some r) : deck_List_C a0 r := by
 refine PCall.body I0_stable (by kernel_rfl) Tryz.func16 rfl Tryz.ntmps16 (rs := [.tmp 2]) rfl rfl ?_
 intro w0 av old gv
 unfold deck_List at h
 refine Rg [.a, .a] (sl 40 [(1, vP [1] (0))] [bx [1] (encSDeck a0)]) (aN) ?_
 refine Rg [.a] (sl 40 [(1, vP [1] (0)), (3, vO [3])] [rw_ [3] 3 1 (eI .i64) ([] : List (Int)), bx [1] (encSDeck a0)]) (aN) ?_
 refine Sj (X := (List (Int))) (fun v => (sl 40 [(3, vO [3])] [rw_ [3] 3 1 (eI .i64) v])) (fun v => deck_List_J2 v = some r) ?_ ?_
 · refine Rg [.a, .a, .a, .a, .a, .a, .a, .a] (sl 40 [(1, vP [1] (0)), (3, vO [3]), (12, vI (if (a0.Counts.length : Int) < (a0.Cards.length : Int) then (a0.Counts.length : Int) else (a0.Cards.length : Int))), (13, vI (0 : Int))] [rw_ [3] 3 1 (eI .i64) ([] : List (Int)), bx [1] (encSDeck a0)]) (aC (show (True ∧ (True ∧ True)) ∧ True from ⟨⟨trivial, ⟨trivial, trivial⟩⟩, trivial⟩) <| aN) ?_
   refine Holds.block ?_
   obtain ⟨oB8, hiB8, h⟩ := bS h
   refine It (fun (v : Int × (List (Int))) => (sl 40 [(1, vP [1] (0)), (3, vO [3]), (12, vI (if (a0.Counts.length : Int) < (a0.Cards.length : Int) then (a0.Counts.length : Int) else (a0.Cards.length : Int))), (13, vI v.1)] [rw_ [3] 3 1 (eI .i64) v.2, bx [1] (encSDeck a0)])) hiB8 (wT) ?_
   rintro ⟨vt13_5, l3_6⟩ zB8 hzB8 hoB8
   replace hzB8 : deck_List_B8 a0 vt13_5 l3_6 = some zB8 := hzB8
   unfold deck_List_B8 at hzB8
   refine Rg [.a] (sl 40 [(1, vP [1] (0)), (3, vO [3]), (12, vI (if (a0.Counts.length : Int) < (a0.Cards.length : Int) then (a0.Counts.length : Int) else (a0.Cards.length : Int))), (13, vI vt13_5), (14, vB (decide (vt13_5 < (if (a0.Counts.length : Int) < (a0.Cards.length : Int) then (a0.Counts.length : Int) else (a0.Cards.length : Int)))))] [rw_ [3] 3 1 (eI .i64) l3_6, bx [1] (encSDeck a0)]) (aN) ?_
   refine Holds.seq ?_
   refine iB hzB8 (fun b9 hzB8 => ?_) (fun b9 hzB8 => ?_)
   · refine Holds.skip ?_
     refine Tn ?_
     refine Sj (X := (List (Int))) (fun v => (sl 40 [(1, vP [1] (0)), (3, vO [3]), (12, vI (if (a0.Counts.length : Int) < (a0.Cards.length : Int) then (a0.Counts.length : Int) else (a0.Cards.length : Int))), (13, vI vt13_5)] [rw_ [3] 3 1 (eI .i64) v, bx [1] (encSDeck a0)])) (fun v => deck_List_J11 vt13_5 v = some zB8) ?_ ?_
     · refine Holds.block ?_
       refine Rg [.a, .a] (sl 40 [(1, vP [1] (0)), (3, vO [3]), (4, vI vt13_5), (12, vI (if (a0.Counts.length : Int) < (a0.Cards.length : Int) then (a0.Counts.length : Int) else (a0.Cards.length : Int))), (13, vI vt13_5)] [rw_ [3] 3 1 (eI .i64) l3_6, bx [1] (encSDeck a0)]) (aN) ?_
       refine Rg [.a] (sl 40 [(1, vP [1] (0)), (3, vO [3]), (4, vI vt13_5), (5, vI (0 : Int)), (12, vI (if (a0.Counts.length : Int) < (a0.Cards.length : Int) then (a0.Counts.length : Int) else (a0.Cards.length : Int))), (13, vI vt13_5)] [rw_ [3] 3 1 (eI .i64) l3_6, bx [1] (encSDeck a0)]) (aN) ?_
       refine Holds.block ?_
       obtain ⟨oB17, hiB17, hzB8⟩ := bS hzB8
       refine It (fun (v : Int × (List (Int))) => (sl 40 [(1, vP [1] (0)), (3, vO [3]), (4, vI vt13_5), (5, vI v.1), (12, vI (if (a0.Counts.length : Int) < (a0.Cards.length : Int) then (a0.Counts.length : Int) else (a0.Cards.length : Int))), (13, vI vt13_5)] [rw_ [3] 3 1 (eI .i64) v.2, bx [1] (encSDeck a0)])) hiB17 (wT) ?_
       rintro ⟨n_t5_14, l3_15⟩ zB17 hzB17 hoB17
       replace hzB17 : deck_List_B17 a0 vt13_5 n_t5_14 l3_15 = some zB17 := hzB17
       unfold deck_List_B17 at hzB17
       refine Holds.seq ?_
       obtain ⟨e18, he18, hzB17⟩ := bS hzB17
       obtain ⟨b19, hb19, hzB17⟩ := bS hzB17
       refine Rg [.a, .a, .a, .a, .a, (.v (vI e18)), .a, .a, .a, .a, .a, (.v (vB b19))] (sl 40 [(1, vP [1] (0)), (3, vO [3]), (4, vI vt13_5), (5, vI n_t5_14), (12, vI (if (a0.Counts.length : Int) < (a0.Cards.length : Int) then (a0.Counts.length : Int) else (a0.Cards.length : Int))), (13, vI vt13_5), (27, vB b19)] [rw_ [3] 3 1 (eI .i64) l3_15, bx [1] (encSDeck a0)]) (aC (idx_b he18) <| aC (eld he18 (lenI .i64) 0 1 false (vI e18)) <| aC (Eq.refl (vI e18)) <| aG ((decide (n_t5_14 < e18)) == true) <| aG ((decide (n_t5_14 < e18)) == true) <| aT (decide (n_t5_14 < e18)) <| aB hb19 <| aN) ?_
       refine iB hzB17 (fun b20 hzB17 => ?_) (fun b20 hzB17 => ?_)
       · refine Holds.skip ?_
         refine Tn ?_
         refine Holds.seq ?_
         refine Holds.block ?_
         obtain ⟨e21, he21, hzB17⟩ := bS hzB17
         obtain ⟨l22, hl22, hzB17⟩ := bS hzB17
         refine Re [.a, .a, .a, .a, .a, (.v (vI e21)), .a, (.e l22.length (l22.flatMap (eI .i64))), .a] (sl 40 [(1, vP [1] (0)), (3, vO [3]), (4, vI vt13_5), (5, vI n_t5_14), (12, vI (if (a0.Counts.length : Int) < (a0.Cards.length : Int) then (a0.Counts.length : Int) else (a0.Cards.length : Int))), (13, vI vt13_5), (27, vB b19), (31, vP [1] (0)), (32, vL (eI .i64) a0.Cards), (33, vI vt13_5), (34, vX (eI .i64) a0.Cards ((vt13_5).toNat * 1)), (35, vI e21), (36, vO [36]), (37, vO [3])] [rw_ [3] 3 1 (eI .i64) l22, rw_ [36] 3 1 (eI .i64) ([e21] : List (Int)), bx [1] (encSDeck a0)]) (aC (idx_b he21) <| aC (eld he21 (lenI .i64) 0 1 false (vI e21)) <| aC (Eq.refl (vI e21)) <| aC (ap1 hl22 (eI .i64)) <| aC (app_b hl22) <| aN) ?_
         refine blockQ.normal ?_
         refine Tn ?_
         refine Re [.a, .a, .a] (sl 40 [(1, vP [1] (0)), (3, vO [3]), (4, vI vt13_5), (5, vI (wrap64 (n_t5_14 + (1 : Int)))), (12, vI (if (a0.Counts.length : Int) < (a0.Cards.length : Int) then (a0.Counts.length : Int) else (a0.Cards.length : Int))), (13, vI vt13_5), (27, vB b19), (28, vI n_t5_14), (29, vI (wrap64 (n_t5_14 + (1 : Int)))), (31, vP [1] (0)), (32, vL (eI .i64) a0.Cards), (33, vI vt13_5), (34, vX (eI .i64) a0.Cards ((vt13_5).toNat * 1)), (35, vI e21), (36, vO [36]), (37, vO [3])] [rw_ [3] 3 1 (eI .i64) l22, rw_ [36] 3 1 (eI .i64) ([e21] : List (Int)), bx [1] (encSDeck a0)]) (aN) ?_
         refine Tn ⟨((wrap64 (n_t5_14 + (1 : Int))), l22), (sI hzB17).symm, wT⟩
       · refine Holds.exit ?_
         refine thenQ.exit ?_
         have hoB17_ := hoB17 _ (sI hzB17).symm
         subst hoB17_
         refine thenQ.exit ?_
         refine blockQ.out ?_
         refine blockQ.normal ?_
         refine Tn ⟨l3_15, hzB8, wT⟩
     · rintro l3_10 hJ11
       replace hJ11 : deck_List_J11 vt13_5 l3_10 = some zB8 := hJ11
       unfold deck_List_J11 at hJ11
       refine Re [.a, .a] (sl 40 [(1, vP [1] (0)), (3, vO [3]), (12, vI (if (a0.Counts.length : Int) < (a0.Cards.length : Int) then (a0.Counts.length : Int) else (a0.Cards.length : Int))), (13, vI (wrap64 (vt13_5 + (1 : Int)))), (38, vI (wrap64 (vt13_5 + (1 : Int))))] [rw_ [3] 3 1 (eI .i64) l3_10, bx [1] (encSDeck a0)]) (aN) ?_
       refine Tn ⟨((wrap64 (vt13_5 + (1 : Int))), l3_10), (sI hJ11).symm, wT⟩
   · refine Holds.exit ?_
     refine thenQ.exit ?_
     have hoB8_ := hoB8 _ (sI hzB8).symm
     subst hoB8_
     refine thenQ.exit ?_
     refine blockQ.out ?_
     refine Tn ⟨l3_6, h, wT⟩
 · rintro l3_1 hJ2
   replace hJ2 : deck_List_J2 l3_1 = some r := hJ2
   unfold deck_List_J2 at hJ2
   refine Rg [.a, .a] (sl 40 [(2, vO [3])] [rw_ [3] 3 1 (eI .i64) l3_1]) (aN) ?_
   refine Holds.ret ?_
   exact bE (vO [3]) (vL (eI .i64) l3_1) (congrArg (vL (eI .i64)) (sI hJ2))
def r23_Formed_J2  : Option (Bool) :=
 some true
def r23_Formed_B5 (a0 : List (SCard)) (a1 : SDeck) (i_t5_4 : Int) : Option ((Int) ⊕ (Unit ⊕ Unit)) :=
 (if (decide (i_t5_4 < (a1.Cards.length : Int))) = true then
  (idx a1.Cards i_t5_4).bind fun e7 =>
  (some (if (decide (e7 < (0 : Int))) = true then true else decide ((a0.length : Int) ≤ e7))).bind fun b8 =>
  (gd ((b8 == false) && ((decide ((0 : Int) < i_t5_4)) == true)) (idx a1.Cards (wrap64 (i_t5_4 - (1 : Int))))).bind fun e9 =>
  (some (if (decide ((0 : Int) < i_t5_4)) = true then decide (e7 ≤ e9) else false)).bind fun b10 =>
  (some (if b8 = true then true else b10)).bind fun b11 =>
  (if b11 = true then
   some (.inr (.inl ()))
  else
   (idx a0 e7).bind fun e13 =>
   (gd (e13.Token == false) (idx a1.Counts i_t5_4)).bind fun e14 =>
   (some (if e13.Token = true then true else decide (e14 < (1 : Int)))).bind fun b15 =>
   (gd (b15 == false) (idx a1.Counts i_t5_4)).bind fun e16 =>
   (some (if b15 = true then true else decide ((250 : Int) < e16))).bind fun b17 =>
   (if b17 = true then
    some (.inr (.inl ()))
   else
    some (.inl (wrap64 (i_t5_4 + (1 : Int))))))
 else
  some (.inr (.inr ())))
/-- cardgame/cardgameref23.Formed -/
def r23_Formed (a0 : List (SCard)) (a1 : SDeck) : Option (Bool) :=
 (if ((a1.Cards.length : Int) != (a1.Counts.length : Int)) = true then
  some false
 else
  (iter (fun (v : Int) => r23_Formed_B5 a0 a1 v) FU (0 : Int)).bind (Sum.elim (fun o0 => some false) (fun o1 => r23_Formed_J2)))
def r23_Formed_C (a0 : List (SCard)) (a1 : SDeck) (r : Bool) : Prop := PCall Tryz.prog I0 13 [vL encSCard a0, vA encSDeck a1] (· = vB r)
theorem r23_Formed_ok {a0 : List (SCard)} {a1 : SDeck} {r : Bool} (h : r23_Formed a0 a1 = some r) : r23_Formed_C a0 a1 r := by
 refine PCall.body I0_stable (by kernel_rfl) Tryz.func13 rfl Tryz.ntmps13 (rs := [.tmp 4]) rfl rfl ?_
 intro w0 av old gv
 unfold r23_Formed at h
 refine Rg [.a, .a] (sl 69 [(0, vL encSCard a0), (3, vP [3] (0))] [bx [3] (encSDeck a1)]) (aN) ?_
 refine Holds.seq ?_
 refine Rg [.a, .a, .a, .a, .a, .a, .a] (sl 69 [(0, vL encSCard a0), (3, vP [3] (0)), (13, vB ((a1.Cards.length : Int) != (a1.Counts.length : Int)))] [bx [3] (encSDeck a1)]) (aN) ?_
 refine iB h (fun b1 h => ?_) (fun b1 h => ?_)
 · refine Rg [.a] (sl 69 [(4, vB false)] []) (aN) ?_
   refine Holds.ret ?_
   refine Tr ?_
   exact bQ (vB false) (congrArg vB (sI h))
 · refine Holds.skip ?_
   refine Tn ?_
   refine Sj (X := Unit) (fun v => (sl 69 [] [])) (fun v => r23_Formed_J2 = some r) ?_ ?_
   · refine Rg [.a] (sl 69 [(0, vL encSCard a0), (3, vP [3] (0)), (5, vI (0 : Int))] [bx [3] (encSDeck a1)]) (aN) ?_
     refine Holds.block ?_
     obtain ⟨oB5, hiB5, h⟩ := bS h
     refine It (fun (v : Int) => (sl 69 [(0, vL encSCard a0), (3, vP [3] (0)), (5, vI v)] [bx [3] (encSDeck a1)])) hiB5 (wT) ?_
     rintro i_t5_4 zB5 hzB5 hoB5
     replace hzB5 : r23_Formed_B5 a0 a1 i_t5_4 = some zB5 := hzB5
     unfold r23_Formed_B5 at hzB5
     refine Holds.seq ?_
     refine Rg [.a, .a, .a, .a, .a] (sl 69 [(0, vL encSCard a0), (3, vP [3] (0)), (5, vI i_t5_4), (18, vB (decide (i_t5_4 < (a1.Cards.length : Int))))] [bx [3] (encSDeck a1)]) (aN) ?_
     refine iB hzB5 (fun b6 hzB5 => ?_) (fun b6 hzB5 => ?_)
     · refine Holds.skip ?_
       refine Tn ?_
       refine Holds.seq ?_
       refine Holds.block ?_
       obtain ⟨e7, he7, hzB5⟩ := bS hzB5
       refine Rg [.a, .a, .a, .a, (.v (vI e7)), .a] (sl 69 [(0, vL encSCard a0), (3, vP [3] (0)), (5, vI i_t5_4), (6, vI e7)] [bx [3] (encSDeck a1)]) (aC (idx_b he7) <| aC (eld he7 (lenI .i64) 0 1 false (vI e7)) <| aC (Eq.refl (vI e7)) <| aN) ?_
       refine Holds.seq ?_
       obtain ⟨b8, hb8, hzB5⟩ := bS hzB5
       obtain ⟨e9, he9, hzB5⟩ := bS hzB5
       obtain ⟨b10, hb10, hzB5⟩ := bS hzB5
       obtain ⟨b11, hb11, hzB5⟩ := bS hzB5
       refine Rg [.a, .a, .a, .a, .a, .a, .a, (.v (vB b8)), .a, .a, .a, .a, .a, .a, .a, .a, .a, (.v (vI e9)), .a, .a, (.v (vB b10)), (.v (vB b11))] (sl 69 [(0, vL encSCard a0), (3, vP [3] (0)), (5, vI i_t5_4), (6, vI e7), (47, vB b11)] [bx [3] (encSDeck a1)]) (aG ((decide (e7 < (0 : Int))) == false) <| aH ((decide (e7 < (0 : Int))) == false) <| aF (decide (e7 < (0 : Int))) <| aB hb8 <| aG (b8 == false) <| aG (b8 == false) <| aG ((b8 == false) && ((decide ((0 : Int) < i_t5_4)) == true)) <| aG ((b8 == false) && ((decide ((0 : Int) < i_t5_4)) == true)) <| aC (fun hg : ((b8 == false) && ((decide ((0 : Int) < i_t5_4)) == true)) = true => aC (gi ((b8 == false) && ((decide ((0 : Int) < i_t5_4)) == true))) <| aC (gi ((b8 == false) && ((decide ((0 : Int) < i_t5_4)) == true))) <| aC (gidx_b he9 hg).1 <| aN) <| aC (fun hg : ((b8 == false) && ((decide ((0 : Int) < i_t5_4)) == true)) = true => aC (gi ((b8 == false) && ((decide ((0 : Int) < i_t5_4)) == true))) <| aC (eld (gd_t he9 hg) (lenI .i64) 0 1 false (vI e9)) <| aC (Eq.refl (vI e9)) <| aN) <| aH ((b8 == false) && ((decide ((0 : Int) < i_t5_4)) == true)) <| aC (fun hg : (b8 == false) = true => aC (gi (b8 == false)) <| aC (fun q : (decide ((0 : Int) < i_t5_4)) = true => (gA hg (gT q))) <| aB hb10 <| aN) <| aF b8 <| aB hb11 <| aN) ?_
       refine iB hzB5 (fun b12 hzB5 => ?_) (fun b12 hzB5 => ?_)
       · refine Rg [.a] (sl 69 [(4, vB false)] []) (aN) ?_
         refine Holds.ret ?_
         refine Tr ?_
         refine blockQ.ret ?_
         refine Tr ?_
         have hoB5_ := hoB5 _ (sI hzB5).symm
         subst hoB5_
         replace h := sumL h
         refine Tr ?_
         refine blockQ.ret ?_
         refine Tr ?_
         exact bQ (vB false) (congrArg vB (sI h))
       · refine Holds.skip ?_
         refine Tn ?_
         obtain ⟨e13, he13, hzB5⟩ := bS hzB5
         obtain ⟨e14, he14, hzB5⟩ := bS hzB5
         obtain ⟨b15, hb15, hzB5⟩ := bS hzB5
         obtain ⟨e16, he16, hzB5⟩ := bS hzB5
         obtain ⟨b17, hb17, hzB5⟩ := bS hzB5
         refine Rg [.a, .a, .a, .a, (.v (vB e13.Token)), .a, .a, .a, .a, .a, (.v (vI e14)), .a, (.v (vB b15)), .a, .a, .a, .a, .a, (.v (vI e16)), .a, (.v (vB b17))] (sl 69 [(0, vL encSCard a0), (3, vP [3] (0)), (5, vI i_t5_4), (68, vB b17)] [bx [3] (encSDeck a1)]) (aC (idx_b he13) <| aC (eld he13 lenSCard 1 1 false (vB e13.Token)) <| aC (Eq.refl (vB e13.Token)) <| aG (e13.Token == false) <| aC (fun hg : (e13.Token == false) = true => aC (gi (e13.Token == false)) <| aC (gi (e13.Token == false)) <| aC (gidx_b he14 hg).1 <| aN) <| aC (fun hg : (e13.Token == false) = true => aC (gi (e13.Token == false)) <| aC (eld (gd_t he14 hg) (lenI .i64) 0 1 false (vI e14)) <| aC (Eq.refl (vI e14)) <| aN) <| aG (e13.Token == false) <| aF e13.Token <| aB hb15 <| aG (b15 == false) <| aC (fun hg : (b15 == false) = true => aC (gi (b15 == false)) <| aC (gi (b15 == false)) <| aC (gidx_b he16 hg).1 <| aN) <| aC (fun hg : (b15 == false) = true => aC (gi (b15 == false)) <| aC (eld (gd_t he16 hg) (lenI .i64) 0 1 false (vI e16)) <| aC (Eq.refl (vI e16)) <| aN) <| aG (b15 == false) <| aF b15 <| aB hb17 <| aN) ?_
         refine iB hzB5 (fun b18 hzB5 => ?_) (fun b18 hzB5 => ?_)
         · refine Rg [.a] (sl 69 [(4, vB false)] []) (aN) ?_
           refine Holds.ret ?_
           refine blockQ.ret ?_
           refine Tr ?_
           have hoB5_ := hoB5 _ (sI hzB5).symm
           subst hoB5_
           replace h := sumL h
           refine Tr ?_
           refine blockQ.ret ?_
           refine Tr ?_
           exact bQ (vB false) (congrArg vB (sI h))
         · refine Holds.skip ?_
           refine blockQ.normal ?_
           refine Tn ?_
           refine Re [.a, .a, .a] (sl 69 [(0, vL encSCard a0), (3, vP [3] (0)), (5, vI (wrap64 (i_t5_4 + (1 : Int)))), (19, vI i_t5_4), (20, vI (wrap64 (i_t5_4 + (1 : Int)))), (68, vB b17)] [bx [3] (encSDeck a1)]) (aN) ?_
           refine Tn ⟨(wrap64 (i_t5_4 + (1 : Int))), (sI hzB5).symm, wT⟩
     · refine Holds.exit ?_
       refine thenQ.exit ?_
       have hoB5_ := hoB5 _ (sI hzB5).symm
       subst hoB5_
       replace h := sumR h
       refine thenQ.exit ?_
       refine blockQ.out ?_
       refine Tn ⟨(), h, wT⟩
   · rintro _ hJ2
     replace hJ2 : r23_Formed_J2 = some r := hJ2
     unfold r23_Formed_J2 at hJ2
     refine Rg [.a] (sl 69 [(4, vB true)] []) (aN) ?_
     refine Holds.ret ?_
     exact bQ (vB true) (congrArg vB (sI hJ2))
/-- cardgame/cardgameref01.Clamp -/
def r01_Clamp (a0 : Int) : Option (Int) :=
 (if (decide ((1000000 : Int) < a0)) = true then
  some (1000000 : Int)
 else
  (if (decide (a0 < (-1000000 : Int))) = true then
   some (-1000000 : Int)
  else
   some a0))
end Go.PL
