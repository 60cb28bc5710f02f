/- Functions of the program, as partial functions in Lean, with proofs. -/
import Derived.Test.YtlinpadogiggaaaGreatDoorPlEvB
namespace Go.PL
open Go Go.RowKit Go.Proofs
set_option maxRecDepth 100000
set_option linter.all false
set_option maxHeartbeats 1000000
attribute [local irreducible] Holds thenQ blockQ
def r17_Uses_J15  (vt29_14 : Bool) : Option ((List UInt8)) :=
 (if vt29_14 = true then
  some ([] : List UInt8)
 else
  some str_ra)
def r17_Uses_J6 (a0 : Int) (vt14_5 : Bool) : Option ((List UInt8)) :=
 (if vt14_5 = true then
  some str_rka
 else
  (if (a0 == (12 : Int)) = true then
   some str_rca
  else
   (if (a0 == (13 : Int)) = true then
    some str_rm
   else
    (if (a0 == (14 : Int)) = true then
     some str_p
    else
     (if (a0 == (18 : Int)) = true then
      some str_raf
     else
      (if (a0 == (20 : Int)) = true then
       some str_a
      else
       (if (a0 == (21 : Int)) = true then
        some str_f
       else
        (if (a0 == (23 : Int)) = true then
         r17_Uses_J15 (a0 == (23 : Int))
        else
         r17_Uses_J15 (a0 == (24 : Int))))))))))
def r17_Uses_J2 (a0 : Int) (vt4_1 : Bool) : Option ((List UInt8)) :=
 (if vt4_1 = true then
  some str_r
 else
  (if (a0 == (3 : Int)) = true then
   some str_rz
  else
   (if (a0 == (10 : Int)) = true then
    r17_Uses_J6 a0 (a0 == (10 : Int))
   else
    r17_Uses_J6 a0 (a0 == (11 : Int)))))
/-- cardgame/cardgameref17.Uses -/
def r17_Uses (a0 : Int) : Option ((List UInt8)) :=
 (if (a0 == (2 : Int)) = true then
  r17_Uses_J2 a0 (a0 == (2 : Int))
 else
  (if (a0 == (8 : Int)) = true then
   r17_Uses_J2 a0 (a0 == (8 : Int))
  else
   (if (a0 == (9 : Int)) = true then
    r17_Uses_J2 a0 (a0 == (9 : Int))
   else
    (if (a0 == (15 : Int)) = true then
     r17_Uses_J2 a0 (a0 == (15 : Int))
    else
     (if (a0 == (16 : Int)) = true then
      r17_Uses_J2 a0 (a0 == (16 : Int))
     else
      (if (a0 == (17 : Int)) = true then
       r17_Uses_J2 a0 (a0 == (17 : Int))
      else
       r17_Uses_J2 a0 (a0 == (25 : Int))))))))
def r17_Uses_C (a0 : Int) (r : (List UInt8)) : Prop := PCall Tryz.prog I0 189 [vI a0] (· = vS r)
theorem r17_Uses_ok {a0 : Int} {r : (List UInt8)} (h : r17_Uses a0 = some r) : r17_Uses_C a0 r := by
 refine PCall.body I0_stable (by kernel_rfl) Tryz.func189 rfl Tryz.ntmps189 (rs := [.tmp 2]) rfl rfl ?_
 intro w0 av old gv
 unfold r17_Uses at h
 refine Rg [.a] (sl 32 [(0, vI a0)] []) (aN) ?_
 refine Holds.seq ?_
 refine Rg [.a] (sl 32 [(3, vI a0)] []) (aN) ?_
 refine Holds.block ?_
 refine Holds.seqJ (X := Bool) (fun v => (sl 32 [(3, vI a0), (4, vB v)] [])) (fun v => r17_Uses_J2 a0 v = some r) ?_ ?_
 · refine Rg [.a, .a] (sl 32 [(3, vI a0), (4, vB (a0 == (2 : Int)))] []) (aN) ?_
   refine iB h (fun b19 h => ?_) (fun b19 h => ?_)
   · refine Holds.skip ?_
     refine Tn ⟨(a0 == (2 : Int)), h, lT⟩
   · refine Rg [.a, .a] (sl 32 [(3, vI a0), (4, vB (a0 == (8 : Int)))] []) (aN) ?_
     refine iB h (fun b20 h => ?_) (fun b20 h => ?_)
     · refine Holds.skip ?_
       refine Tn ⟨(a0 == (8 : Int)), h, lT⟩
     · refine Rg [.a, .a] (sl 32 [(3, vI a0), (4, vB (a0 == (9 : Int)))] []) (aN) ?_
       refine iB h (fun b21 h => ?_) (fun b21 h => ?_)
       · refine Holds.skip ?_
         refine Tn ⟨(a0 == (9 : Int)), h, lT⟩
       · refine Rg [.a, .a] (sl 32 [(3, vI a0), (4, vB (a0 == (15 : Int)))] []) (aN) ?_
         refine iB h (fun b22 h => ?_) (fun b22 h => ?_)
         · refine Holds.skip ?_
           refine Tn ⟨(a0 == (15 : Int)), h, lT⟩
         · refine Rg [.a, .a] (sl 32 [(3, vI a0), (4, vB (a0 == (16 : Int)))] []) (aN) ?_
           refine iB h (fun b23 h => ?_) (fun b23 h => ?_)
           · refine Holds.skip ?_
             refine Tn ⟨(a0 == (16 : Int)), h, lT⟩
           · refine Rg [.a, .a] (sl 32 [(3, vI a0), (4, vB (a0 == (17 : Int)))] []) (aN) ?_
             refine iB h (fun b24 h => ?_) (fun b24 h => ?_)
             · refine Holds.skip ?_
               refine Tn ⟨(a0 == (17 : Int)), h, lT⟩
             · refine Re [.a, .a] (sl 32 [(3, vI a0), (4, vB (a0 == (25 : Int))), (11, vB (a0 == (25 : Int)))] []) (aN) ?_
               refine Tn ⟨(a0 == (25 : Int)), h, lT⟩
 · rintro vt4_1 hJ2
   replace hJ2 : r17_Uses_J2 a0 vt4_1 = some r := hJ2
   unfold r17_Uses_J2 at hJ2
   refine iB hJ2 (fun b3 hJ2 => ?_) (fun b3 hJ2 => ?_)
   · refine Rg [.a] (sl 32 [(2, vS str_r)] []) (aN) ?_
     refine Holds.ret ?_
     refine blockQ.ret ?_
     refine Tr ?_
     exact bQ (vS str_r) (congrArg vS (sI hJ2))
   · refine Rg [.a, .a] (sl 32 [(3, vI a0), (12, vB (a0 == (3 : Int)))] []) (aN) ?_
     refine iB hJ2 (fun b4 hJ2 => ?_) (fun b4 hJ2 => ?_)
     · refine Rg [.a] (sl 32 [(2, vS str_rz)] []) (aN) ?_
       refine Holds.ret ?_
       refine blockQ.ret ?_
       refine Tr ?_
       exact bQ (vS str_rz) (congrArg vS (sI hJ2))
     · refine Holds.seqJ (X := Bool) (fun v => (sl 32 [(3, vI a0), (14, vB v)] [])) (fun v => r17_Uses_J6 a0 v = some r) ?_ ?_
       · refine Rg [.a, .a] (sl 32 [(3, vI a0), (14, vB (a0 == (10 : Int)))] []) (aN) ?_
         refine iB hJ2 (fun b18 hJ2 => ?_) (fun b18 hJ2 => ?_)
         · refine Holds.skip ?_
           refine Tn ⟨(a0 == (10 : Int)), hJ2, lT⟩
         · refine Re [.a, .a] (sl 32 [(3, vI a0), (14, vB (a0 == (11 : Int))), (16, vB (a0 == (11 : Int)))] []) (aN) ?_
           refine Tn ⟨(a0 == (11 : Int)), hJ2, lT⟩
       · rintro vt14_5 hJ6
         replace hJ6 : r17_Uses_J6 a0 vt14_5 = some r := hJ6
         unfold r17_Uses_J6 at hJ6
         refine iB hJ6 (fun b7 hJ6 => ?_) (fun b7 hJ6 => ?_)
         · refine Rg [.a] (sl 32 [(2, vS str_rka)] []) (aN) ?_
           refine Holds.ret ?_
           refine blockQ.ret ?_
           refine Tr ?_
           exact bQ (vS str_rka) (congrArg vS (sI hJ6))
         · refine Rg [.a, .a] (sl 32 [(3, vI a0), (17, vB (a0 == (12 : Int)))] []) (aN) ?_
           refine iB hJ6 (fun b8 hJ6 => ?_) (fun b8 hJ6 => ?_)
           · refine Rg [.a] (sl 32 [(2, vS str_rca)] []) (aN) ?_
             refine Holds.ret ?_
             refine blockQ.ret ?_
             refine Tr ?_
             exact bQ (vS str_rca) (congrArg vS (sI hJ6))
           · refine Rg [.a, .a] (sl 32 [(3, vI a0), (19, vB (a0 == (13 : Int)))] []) (aN) ?_
             refine iB hJ6 (fun b9 hJ6 => ?_) (fun b9 hJ6 => ?_)
             · refine Rg [.a] (sl 32 [(2, vS str_rm)] []) (aN) ?_
               refine Holds.ret ?_
               refine blockQ.ret ?_
               refine Tr ?_
               exact bQ (vS str_rm) (congrArg vS (sI hJ6))
             · refine Rg [.a, .a] (sl 32 [(3, vI a0), (21, vB (a0 == (14 : Int)))] []) (aN) ?_
               refine iB hJ6 (fun b10 hJ6 => ?_) (fun b10 hJ6 => ?_)
               · refine Rg [.a] (sl 32 [(2, vS str_p)] []) (aN) ?_
                 refine Holds.ret ?_
                 refine blockQ.ret ?_
                 refine Tr ?_
                 exact bQ (vS str_p) (congrArg vS (sI hJ6))
               · refine Rg [.a, .a] (sl 32 [(3, vI a0), (23, vB (a0 == (18 : Int)))] []) (aN) ?_
                 refine iB hJ6 (fun b11 hJ6 => ?_) (fun b11 hJ6 => ?_)
                 · refine Rg [.a] (sl 32 [(2, vS str_raf)] []) (aN) ?_
                   refine Holds.ret ?_
                   refine blockQ.ret ?_
                   refine Tr ?_
                   exact bQ (vS str_raf) (congrArg vS (sI hJ6))
                 · refine Rg [.a, .a] (sl 32 [(3, vI a0), (25, vB (a0 == (20 : Int)))] []) (aN) ?_
                   refine iB hJ6 (fun b12 hJ6 => ?_) (fun b12 hJ6 => ?_)
                   · refine Rg [.a] (sl 32 [(2, vS str_a)] []) (aN) ?_
                     refine Holds.ret ?_
                     refine blockQ.ret ?_
                     refine Tr ?_
                     exact bQ (vS str_a) (congrArg vS (sI hJ6))
                   · refine Rg [.a, .a] (sl 32 [(3, vI a0), (27, vB (a0 == (21 : Int)))] []) (aN) ?_
                     refine iB hJ6 (fun b13 hJ6 => ?_) (fun b13 hJ6 => ?_)
                     · refine Rg [.a] (sl 32 [(2, vS str_f)] []) (aN) ?_
                       refine Holds.ret ?_
                       refine blockQ.ret ?_
                       refine Tr ?_
                       exact bQ (vS str_f) (congrArg vS (sI hJ6))
                     · refine Holds.seqJ (X := Bool) (fun v => (sl 32 [(29, vB v)] [])) (fun v => r17_Uses_J15 v = some r) ?_ ?_
                       · refine Rg [.a, .a] (sl 32 [(3, vI a0), (29, vB (a0 == (23 : Int)))] []) (aN) ?_
                         refine iB hJ6 (fun b17 hJ6 => ?_) (fun b17 hJ6 => ?_)
                         · refine Holds.skip ?_
                           refine Tn ⟨(a0 == (23 : Int)), hJ6, lT⟩
                         · refine Re [.a, .a] (sl 32 [(3, vI a0), (29, vB (a0 == (24 : Int))), (31, vB (a0 == (24 : Int)))] []) (aN) ?_
                           refine Tn ⟨(a0 == (24 : Int)), hJ6, lT⟩
                       · rintro vt29_14 hJ15
                         replace hJ15 : r17_Uses_J15 vt29_14 = some r := hJ15
                         unfold r17_Uses_J15 at hJ15
                         refine iB hJ15 (fun b16 hJ15 => ?_) (fun b16 hJ15 => ?_)
                         · refine Rg [.a] (sl 32 [(2, vS ([] : List UInt8))] []) (aN) ?_
                           refine Holds.ret ?_
                           refine blockQ.ret ?_
                           refine Tr ?_
                           exact bQ (vS ([] : List UInt8)) (congrArg vS (sI hJ15))
                         · refine Holds.skip ?_
                           refine blockQ.normal ?_
                           refine Tn ?_
                           refine Rg [.a] (sl 32 [(2, vS str_ra)] []) (aN) ?_
                           refine Holds.ret ?_
                           exact bQ (vS str_ra) (congrArg vS (sI hJ15))
def r08_cost_J3  (b3_2 : SCost) : Option (SCost) :=
 some b3_2
def r08_cost_B9 (a0 : A6 (Int)) (i_t4_6 : Int) (b3_7 : SCost) : Option ((Int × SCost) ⊕ (SCost)) :=
 (if (decide (i_t4_6 < (5 : Int))) = true then
  (idx a0.l (wrap64 (i_t4_6 + (1 : Int)))).bind fun e11 =>
  (idx b3_7.Color.l i_t4_6).bind fun e12 =>
  some (.inl ((wrap64 (i_t4_6 + (1 : Int))), ({ b3_7 with Color := b3_7.Color.set (i_t4_6).toNat e11 })))
 else
  some (.inr b3_7))
/-- cardgame/cardgameref08.cost -/
def r08_cost (a0 : A6 (Int)) : Option (SCost) :=
 (idx a0.l (0 : Int)).bind fun e1 =>
 (iter (fun (v : Int × SCost) => r08_cost_B9 a0 v.1 v.2) FU ((0 : Int), (⟨e1, (0 : Int), (⟨(0 : Int), (0 : Int), (0 : Int), (0 : Int), (0 : Int)⟩ : A5 (Int))⟩ : SCost))).bind (fun o0 => r08_cost_J3 o0)
def r08_cost_C (a0 : A6 (Int)) (r : SCost) : Prop := PCall Tryz.prog I0 192 [vA (eA6 (eI .i64)) a0] (· = vA encSCost r)
theorem r08_cost_ok {a0 : A6 (Int)} {r : SCost} (h : r08_cost a0 = some r) : r08_cost_C a0 r := by
 refine PCall.body I0_stable (by kernel_rfl) Tryz.func192 rfl Tryz.ntmps192 (rs := [.cell 2 61]) rfl rfl ?_
 intro w0 av old gv
 unfold r08_cost at h
 refine Rg [.a, .a] (sl 20 [(1, vP [1] (0)), (2, vP [2] (0))] [bx [2] [.int .i64 (0 : Int), .int .i64 (0 : Int), .int .i64 (((⟨(0 : Int), (0 : Int), (0 : Int), (0 : Int), (0 : Int)⟩ : A5 (Int))).x0), .int .i64 (((⟨(0 : Int), (0 : Int), (0 : Int), (0 : Int), (0 : Int)⟩ : A5 (Int))).x1), .int .i64 (((⟨(0 : Int), (0 : Int), (0 : Int), (0 : Int), (0 : Int)⟩ : A5 (Int))).x2), .int .i64 (((⟨(0 : Int), (0 : Int), (0 : Int), (0 : Int), (0 : Int)⟩ : A5 (Int))).x3), .int .i64 (((⟨(0 : Int), (0 : Int), (0 : Int), (0 : Int), (0 : Int)⟩ : A5 (Int))).x4)], bx [1] (eA6 (eI .i64) a0)]) (aN) ?_
 obtain ⟨e1, he1, h⟩ := bS h
 refine Rg [.a, (.v (vI e1)), .a, .a, .a] (sl 20 [(1, vP [1] (0)), (2, vP [2] (0)), (3, vP [3] (0))] [bx [3] [.int .i64 e1, .int .i64 (0 : Int), .int .i64 (((⟨(0 : Int), (0 : Int), (0 : Int), (0 : Int), (0 : Int)⟩ : A5 (Int))).x0), .int .i64 (((⟨(0 : Int), (0 : Int), (0 : Int), (0 : Int), (0 : Int)⟩ : A5 (Int))).x1), .int .i64 (((⟨(0 : Int), (0 : Int), (0 : Int), (0 : Int), (0 : Int)⟩ : A5 (Int))).x2), .int .i64 (((⟨(0 : Int), (0 : Int), (0 : Int), (0 : Int), (0 : Int)⟩ : A5 (Int))).x3), .int .i64 (((⟨(0 : Int), (0 : Int), (0 : Int), (0 : Int), (0 : Int)⟩ : A5 (Int))).x4)], bx [2] [.int .i64 (0 : Int), .int .i64 (0 : Int), .int .i64 (((⟨(0 : Int), (0 : Int), (0 : Int), (0 : Int), (0 : Int)⟩ : A5 (Int))).x0), .int .i64 (((⟨(0 : Int), (0 : Int), (0 : Int), (0 : Int), (0 : Int)⟩ : A5 (Int))).x1), .int .i64 (((⟨(0 : Int), (0 : Int), (0 : Int), (0 : Int), (0 : Int)⟩ : A5 (Int))).x2), .int .i64 (((⟨(0 : Int), (0 : Int), (0 : Int), (0 : Int), (0 : Int)⟩ : A5 (Int))).x3), .int .i64 (((⟨(0 : Int), (0 : Int), (0 : Int), (0 : Int), (0 : Int)⟩ : A5 (Int))).x4)], bx [1] (eA6 (eI .i64) a0)]) (aC (idx_b he1) <| aC (ald he1 (lenI .i64) (eA6 (eI .i64) a0) 0 6 0 1 false (vI e1)) <| aC (Eq.refl (vI e1)) <| aC (And.intro (show True ∧ True from ⟨trivial, trivial⟩) okp61) <| aN) ?_
 refine Holds.seqJ (X := SCost) (fun v => (sl 20 [(2, vP [2] (0)), (3, vP [3] (0))] [bx [3] (encSCost v), bx [2] [.int .i64 (0 : Int), .int .i64 (0 : Int), .int .i64 (((⟨(0 : Int), (0 : Int), (0 : Int), (0 : Int), (0 : Int)⟩ : A5 (Int))).x0), .int .i64 (((⟨(0 : Int), (0 : Int), (0 : Int), (0 : Int), (0 : Int)⟩ : A5 (Int))).x1), .int .i64 (((⟨(0 : Int), (0 : Int), (0 : Int), (0 : Int), (0 : Int)⟩ : A5 (Int))).x2), .int .i64 (((⟨(0 : Int), (0 : Int), (0 : Int), (0 : Int), (0 : Int)⟩ : A5 (Int))).x3), .int .i64 (((⟨(0 : Int), (0 : Int), (0 : Int), (0 : Int), (0 : Int)⟩ : A5 (Int))).x4)]])) (fun v => r08_cost_J3 v = some r) ?_ ?_
 · refine Rg [.a] (sl 20 [(1, vP [1] (0)), (2, vP [2] (0)), (3, vP [3] (0)), (4, vI (0 : Int))] [bx [3] [.int .i64 e1, .int .i64 (0 : Int), .int .i64 (((⟨(0 : Int), (0 : Int), (0 : Int), (0 : Int), (0 : Int)⟩ : A5 (Int))).x0), .int .i64 (((⟨(0 : Int), (0 : Int), (0 : Int), (0 : Int), (0 : Int)⟩ : A5 (Int))).x1), .int .i64 (((⟨(0 : Int), (0 : Int), (0 : Int), (0 : Int), (0 : Int)⟩ : A5 (Int))).x2), .int .i64 (((⟨(0 : Int), (0 : Int), (0 : Int), (0 : Int), (0 : Int)⟩ : A5 (Int))).x3), .int .i64 (((⟨(0 : Int), (0 : Int), (0 : Int), (0 : Int), (0 : Int)⟩ : A5 (Int))).x4)], bx [2] [.int .i64 (0 : Int), .int .i64 (0 : Int), .int .i64 (((⟨(0 : Int), (0 : Int), (0 : Int), (0 : Int), (0 : Int)⟩ : A5 (Int))).x0), .int .i64 (((⟨(0 : Int), (0 : Int), (0 : Int), (0 : Int), (0 : Int)⟩ : A5 (Int))).x1), .int .i64 (((⟨(0 : Int), (0 : Int), (0 : Int), (0 : Int), (0 : Int)⟩ : A5 (Int))).x2), .int .i64 (((⟨(0 : Int), (0 : Int), (0 : Int), (0 : Int), (0 : Int)⟩ : A5 (Int))).x3), .int .i64 (((⟨(0 : Int), (0 : Int), (0 : Int), (0 : Int), (0 : Int)⟩ : A5 (Int))).x4)], bx [1] (eA6 (eI .i64) a0)]) (aN) ?_
   refine Holds.block ?_
   obtain ⟨oB9, hiB9, h⟩ := bS h
   refine Holds.iter (fun (v : Int × SCost) => (sl 20 [(1, vP [1] (0)), (2, vP [2] (0)), (3, vP [3] (0)), (4, vI v.1)] [bx [3] (encSCost v.2), bx [2] [.int .i64 (0 : Int), .int .i64 (0 : Int), .int .i64 (((⟨(0 : Int), (0 : Int), (0 : Int), (0 : Int), (0 : Int)⟩ : A5 (Int))).x0), .int .i64 (((⟨(0 : Int), (0 : Int), (0 : Int), (0 : Int), (0 : Int)⟩ : A5 (Int))).x1), .int .i64 (((⟨(0 : Int), (0 : Int), (0 : Int), (0 : Int), (0 : Int)⟩ : A5 (Int))).x2), .int .i64 (((⟨(0 : Int), (0 : Int), (0 : Int), (0 : Int), (0 : Int)⟩ : A5 (Int))).x3), .int .i64 (((⟨(0 : Int), (0 : Int), (0 : Int), (0 : Int), (0 : Int)⟩ : A5 (Int))).x4)], bx [1] (eA6 (eI .i64) a0)])) hiB9 (lT) ?_
   rintro ⟨i_t4_6, b3_7⟩ zB9 hzB9 hoB9
   replace hzB9 : r08_cost_B9 a0 i_t4_6 b3_7 = some zB9 := hzB9
   unfold r08_cost_B9 at hzB9
   refine Holds.seq ?_
   refine Rg [.a, .a] (sl 20 [(1, vP [1] (0)), (2, vP [2] (0)), (3, vP [3] (0)), (4, vI i_t4_6), (9, vB (decide (i_t4_6 < (5 : Int))))] [bx [3] (encSCost b3_7), bx [2] [.int .i64 (0 : Int), .int .i64 (0 : Int), .int .i64 (((⟨(0 : Int), (0 : Int), (0 : Int), (0 : Int), (0 : Int)⟩ : A5 (Int))).x0), .int .i64 (((⟨(0 : Int), (0 : Int), (0 : Int), (0 : Int), (0 : Int)⟩ : A5 (Int))).x1), .int .i64 (((⟨(0 : Int), (0 : Int), (0 : Int), (0 : Int), (0 : Int)⟩ : A5 (Int))).x2), .int .i64 (((⟨(0 : Int), (0 : Int), (0 : Int), (0 : Int), (0 : Int)⟩ : A5 (Int))).x3), .int .i64 (((⟨(0 : Int), (0 : Int), (0 : Int), (0 : Int), (0 : Int)⟩ : A5 (Int))).x4)], bx [1] (eA6 (eI .i64) a0)]) (aN) ?_
   refine iB hzB9 (fun b10 hzB9 => ?_) (fun b10 hzB9 => ?_)
   · refine Holds.skip ?_
     refine Tn ?_
     refine Holds.seq ?_
     refine Holds.block ?_
     obtain ⟨e11, he11, hzB9⟩ := bS hzB9
     obtain ⟨e12, he12, hzB9⟩ := bS hzB9
     refine Re [.a, .a, .a, .a, (.v (vI e11)), .a, .a, (.e 0 (encSCost ({ b3_7 with Color := b3_7.Color.set (i_t4_6).toNat e11 })))] (sl 20 [(1, vP [1] (0)), (2, vP [2] (0)), (3, vP [3] (0)), (4, vI i_t4_6), (9, vB (decide (i_t4_6 < (5 : Int)))), (12, vI i_t4_6), (13, vI i_t4_6), (14, vI (wrap64 (i_t4_6 + (1 : Int)))), (15, vP [1] (0 + (wrap64 (i_t4_6 + (1 : Int))).toNat * 1)), (16, vI e11), (17, vP [3] (2)), (18, vP [3] (2 + (i_t4_6).toNat * 1))] [bx [3] (encSCost ({ b3_7 with Color := b3_7.Color.set (i_t4_6).toNat e11 })), bx [2] [.int .i64 (0 : Int), .int .i64 (0 : Int), .int .i64 (((⟨(0 : Int), (0 : Int), (0 : Int), (0 : Int), (0 : Int)⟩ : A5 (Int))).x0), .int .i64 (((⟨(0 : Int), (0 : Int), (0 : Int), (0 : Int), (0 : Int)⟩ : A5 (Int))).x1), .int .i64 (((⟨(0 : Int), (0 : Int), (0 : Int), (0 : Int), (0 : Int)⟩ : A5 (Int))).x2), .int .i64 (((⟨(0 : Int), (0 : Int), (0 : Int), (0 : Int), (0 : Int)⟩ : A5 (Int))).x3), .int .i64 (((⟨(0 : Int), (0 : Int), (0 : Int), (0 : Int), (0 : Int)⟩ : A5 (Int))).x4)], bx [1] (eA6 (eI .i64) a0)]) (aC (idx_b he11) <| aC (ald he11 (lenI .i64) (eA6 (eI .i64) a0) 0 6 0 1 false (vI e11)) <| aC (Eq.refl (vI e11)) <| aC (idx_b he12) <| aC (show 2 + (i_t4_6).toNat * 1 + 1 ≤ (encSCost b3_7).length ∧ (encSCost b3_7).take (2 + (i_t4_6).toNat * 1) ++ ([.int .i64 e11] : List C) ++ (encSCost b3_7).drop (2 + (i_t4_6).toNat * 1 + ([.int .i64 e11] : List C).length) = (encSCost ({ b3_7 with Color := b3_7.Color.set (i_t4_6).toNat e11 })) from (arr_st (e := eI .i64) (N := 1) (l := b3_7.Color.l) (i := i_t4_6) (x' := e11) (o := 0) (base := 2) (cs := ([.int .i64 e11] : List C)) (pre := (encSCost b3_7).take 2) (post := (encSCost b3_7).drop 7) (by kernel_rfl) (by kernel_rfl) (by kernel_rfl) (A5.l_set _ _ _) he12 (lenI .i64) (by omega) (Nat.le_of_ble_eq_true (by kernel_rfl)) (by kernel_rfl))) <| aC (show ((none : Option (TypeId × Nat × Nat)) = none) ∧ True from ⟨rfl, trivial⟩) <| aN) ?_
     refine blockQ.normal ?_
     refine Tn ?_
     refine Re [.a, .a, .a] (sl 20 [(1, vP [1] (0)), (2, vP [2] (0)), (3, vP [3] (0)), (4, vI (wrap64 (i_t4_6 + (1 : Int)))), (9, vB (decide (i_t4_6 < (5 : Int)))), (10, vI i_t4_6), (11, vI (wrap64 (i_t4_6 + (1 : Int)))), (12, vI i_t4_6), (13, vI i_t4_6), (14, vI (wrap64 (i_t4_6 + (1 : Int)))), (15, vP [1] (0 + (wrap64 (i_t4_6 + (1 : Int))).toNat * 1)), (16, vI e11), (17, vP [3] (2)), (18, vP [3] (2 + (i_t4_6).toNat * 1))] [bx [3] (encSCost ({ b3_7 with Color := b3_7.Color.set (i_t4_6).toNat e11 })), bx [2] [.int .i64 (0 : Int), .int .i64 (0 : Int), .int .i64 (((⟨(0 : Int), (0 : Int), (0 : Int), (0 : Int), (0 : Int)⟩ : A5 (Int))).x0), .int .i64 (((⟨(0 : Int), (0 : Int), (0 : Int), (0 : Int), (0 : Int)⟩ : A5 (Int))).x1), .int .i64 (((⟨(0 : Int), (0 : Int), (0 : Int), (0 : Int), (0 : Int)⟩ : A5 (Int))).x2), .int .i64 (((⟨(0 : Int), (0 : Int), (0 : Int), (0 : Int), (0 : Int)⟩ : A5 (Int))).x3), .int .i64 (((⟨(0 : Int), (0 : Int), (0 : Int), (0 : Int), (0 : Int)⟩ : A5 (Int))).x4)], bx [1] (eA6 (eI .i64) a0)]) (aN) ?_
     refine Tn ⟨((wrap64 (i_t4_6 + (1 : Int))), ({ b3_7 with Color := b3_7.Color.set (i_t4_6).toNat e11 })), (sI hzB9).symm, lT⟩
   · refine Holds.exit ?_
     refine thenQ.exit ?_
     have hoB9_ := hoB9 _ (sI hzB9).symm
     subst hoB9_
     refine thenQ.exit ?_
     refine blockQ.out ?_
     refine Tn ⟨b3_7, h, lT⟩
 · rintro b3_2 hJ3
   replace hJ3 : r08_cost_J3 b3_2 = some r := hJ3
   unfold r08_cost_J3 at hJ3
   refine Rg [.a, .a] (sl 20 [(2, vP [2] (0))] [bx [2] (encSCost b3_2)]) (aN) ?_
   refine Holds.ret ?_
   exact bE (vA encSCost b3_2) (.agg (encSCost b3_2)) (congrArg (vA encSCost) (sI hJ3))
def r22_token_J1  : Option (Bool) :=
 some false
def r22_token_B4 (a0 : List (SCard)) (a1 : List UInt8) (i_t5_3 : Int) : Option ((Int) ⊕ (Unit ⊕ Unit)) :=
 (if (decide (i_t5_3 < (a0.length : Int))) = true then
  (idx a0 i_t5_3).bind fun e6 =>
  (gd ((e6.Name == a1) == true) (idx a0 i_t5_3)).bind fun e7 =>
  (some (if (e6.Name == a1) = true then e7.Token else false)).bind fun b8 =>
  (if b8 = true then
   some (.inr (.inl ()))
  else
   some (.inl (wrap64 (i_t5_3 + (1 : Int)))))
 else
  some (.inr (.inr ())))
/-- cardgame/cardgameref22.token -/
def r22_token (a0 : List (SCard)) (a1 : List UInt8) : Option (Bool) :=
 (iter (fun (v : Int) => r22_token_B4 a0 a1 v) FU (0 : Int)).bind (Sum.elim (fun o0 => some true) (fun o1 => r22_token_J1))
def r22_token_C (a0 : List (SCard)) (a1 : List UInt8) (r : Bool) : Prop := PCall Tryz.prog I0 60 [vL encSCard a0, vS a1] (· = vB r)
theorem r22_token_ok {a0 : List (SCard)} {a1 : List UInt8} {r : Bool} (h : r22_token a0 a1 = some r) : r22_token_C a0 a1 r := by
 refine PCall.body I0_stable (by kernel_rfl) Tryz.func60 rfl Tryz.ntmps60 (rs := [.tmp 4]) rfl rfl ?_
 intro w0 av old gv
 unfold r22_token at h
 refine Rg [.a] (sl 26 [(0, vL encSCard a0), (1, vS a1)] []) (aN) ?_
 refine Holds.seqJ (X := Unit) (fun v => (sl 26 [] [])) (fun v => r22_token_J1 = some r) ?_ ?_
 · refine Rg [.a] (sl 26 [(0, vL encSCard a0), (1, vS a1), (5, vI (0 : Int))] []) (aN) ?_
   refine Holds.block ?_
   obtain ⟨oB4, hiB4, h⟩ := bS h
   refine Holds.iter (fun (v : Int) => (sl 26 [(0, vL encSCard a0), (1, vS a1), (5, vI v)] [])) hiB4 (lT) ?_
   rintro i_t5_3 zB4 hzB4 hoB4
   replace hzB4 : r22_token_B4 a0 a1 i_t5_3 = some zB4 := hzB4
   unfold r22_token_B4 at hzB4
   refine Holds.seq ?_
   refine Rg [.a, .a, .a, .a] (sl 26 [(0, vL encSCard a0), (1, vS a1), (5, vI i_t5_3), (9, vB (decide (i_t5_3 < (a0.length : Int))))] []) (aN) ?_
   refine iB hzB4 (fun b5 hzB4 => ?_) (fun b5 hzB4 => ?_)
   · refine Holds.skip ?_
     refine Tn ?_
     refine Holds.seq ?_
     refine Holds.block ?_
     obtain ⟨e6, he6, hzB4⟩ := bS hzB4
     obtain ⟨e7, he7, hzB4⟩ := bS hzB4
     obtain ⟨b8, hb8, hzB4⟩ := bS hzB4
     refine Rg [.a, .a, .a, .a, (.v (vS e6.Name)), .a, .a, .a, .a, .a, .a, .a, (.v (vB e7.Token)), (.v (vB b8))] (sl 26 [(0, vL encSCard a0), (1, vS a1), (5, vI i_t5_3), (25, vB b8)] []) (aC (idx_b he6) <| aC (eld he6 lenSCard 0 1 false (vS e6.Name)) <| aC (Eq.refl (vS e6.Name)) <| aC (fun hg : ((e6.Name == a1) == true) = true => aC (gi ((e6.Name == a1) == true)) <| aC (gi ((e6.Name == a1) == true)) <| aC (gidx_b he7 hg).1 <| aN) <| aG ((e6.Name == a1) == true) <| aC (fun hg : ((e6.Name == a1) == true) = true => aC (gi ((e6.Name == a1) == true)) <| aC (eld (gd_t he7 hg) lenSCard 1 1 false (vB e7.Token)) <| aC (Eq.refl (vB e7.Token)) <| aN) <| aT (e6.Name == a1) <| aB hb8 <| aN) ?_
     refine iB hzB4 (fun b9 hzB4 => ?_) (fun b9 hzB4 => ?_)
     · refine Rg [.a] (sl 26 [(4, vB true)] []) (aN) ?_
       refine Holds.ret ?_
       refine blockQ.ret ?_
       refine Tr ?_
       have hoB4_ := hoB4 _ (sI hzB4).symm
       subst hoB4_
       replace h := sumL h
       refine Tr ?_
       refine blockQ.ret ?_
       refine Tr ?_
       exact bQ (vB true) (congrArg vB (sI h))
     · refine Holds.skip ?_
       refine blockQ.normal ?_
       refine Tn ?_
       refine Re [.a, .a, .a] (sl 26 [(0, vL encSCard a0), (1, vS a1), (5, vI (wrap64 (i_t5_3 + (1 : Int)))), (10, vI i_t5_3), (11, vI (wrap64 (i_t5_3 + (1 : Int)))), (25, vB b8)] []) (aN) ?_
       refine Tn ⟨(wrap64 (i_t5_3 + (1 : Int))), (sI hzB4).symm, lT⟩
   · refine Holds.exit ?_
     refine thenQ.exit ?_
     have hoB4_ := hoB4 _ (sI hzB4).symm
     subst hoB4_
     replace h := sumR h
     refine thenQ.exit ?_
     refine blockQ.out ?_
     refine Tn ⟨(), h, lT⟩
 · rintro _ hJ1
   replace hJ1 : r22_token_J1 = some r := hJ1
   unfold r22_token_J1 at hJ1
   refine Rg [.a] (sl 26 [(4, vB false)] []) (aN) ?_
   refine Holds.ret ?_
   exact bQ (vB false) (congrArg vB (sI hJ1))
def r08_Whole_J1  : Option (Bool) :=
 some true
def r08_Whole_B4 (a0 : A6 (Int)) (i_t3_3 : Int) : Option ((Int) ⊕ (Unit ⊕ Unit)) :=
 (if (decide (i_t3_3 < (6 : Int))) = true then
  (idx a0.l i_t3_3).bind fun e6 =>
  (gd ((decide (e6 < (0 : Int))) == false) (idx a0.l i_t3_3)).bind fun e7 =>
  (some (if (decide (e6 < (0 : Int))) = true then true else decide ((1000000 : Int) < e7))).bind fun b8 =>
  (if b8 = true then
   some (.inr (.inl ()))
  else
   some (.inl (wrap64 (i_t3_3 + (1 : Int)))))
 else
  some (.inr (.inr ())))
/-- cardgame/cardgameref08.Whole -/
def r08_Whole (a0 : A6 (Int)) : Option (Bool) :=
 (iter (fun (v : Int) => r08_Whole_B4 a0 v) FU (0 : Int)).bind (Sum.elim (fun o0 => some false) (fun o1 => r08_Whole_J1))
def r08_Whole_C (a0 : A6 (Int)) (r : Bool) : Prop := PCall Tryz.prog I0 61 [vA (eA6 (eI .i64)) a0] (· = vB r)
theorem r08_Whole_ok {a0 : A6 (Int)} {r : Bool} (h : r08_Whole a0 = some r) : r08_Whole_C a0 r := by
 refine PCall.body I0_stable (by kernel_rfl) Tryz.func61 rfl Tryz.ntmps61 (rs := [.tmp 2]) rfl rfl ?_
 intro w0 av old gv
 unfold r08_Whole at h
 refine Rg [.a, .a] (sl 18 [(1, vP [1] (0))] [bx [1] (eA6 (eI .i64) a0)]) (aN) ?_
 refine Holds.seqJ (X := Unit) (fun v => (sl 18 [] [])) (fun v => r08_Whole_J1 = some r) ?_ ?_
 · refine Rg [.a] (sl 18 [(1, vP [1] (0)), (3, vI (0 : Int))] [bx [1] (eA6 (eI .i64) a0)]) (aN) ?_
   refine Holds.block ?_
   obtain ⟨oB4, hiB4, h⟩ := bS h
   refine Holds.iter (fun (v : Int) => (sl 18 [(1, vP [1] (0)), (3, vI v)] [bx [1] (eA6 (eI .i64) a0)])) hiB4 (lT) ?_
   rintro i_t3_3 zB4 hzB4 hoB4
   replace hzB4 : r08_Whole_B4 a0 i_t3_3 = some zB4 := hzB4
   unfold r08_Whole_B4 at hzB4
   refine Holds.seq ?_
   refine Rg [.a, .a] (sl 18 [(1, vP [1] (0)), (3, vI i_t3_3), (5, vB (decide (i_t3_3 < (6 : Int))))] [bx [1] (eA6 (eI .i64) a0)]) (aN) ?_
   refine iB hzB4 (fun b5 hzB4 => ?_) (fun b5 hzB4 => ?_)
   · refine Holds.skip ?_
     refine Tn ?_
     refine Holds.seq ?_
     refine Holds.block ?_
     obtain ⟨e6, he6, hzB4⟩ := bS hzB4
     obtain ⟨e7, he7, hzB4⟩ := bS hzB4
     obtain ⟨b8, hb8, hzB4⟩ := bS hzB4
     refine Rg [.a, .a, (.v (vI e6)), .a, .a, .a, .a, (.v (vI e7)), .a, (.v (vB b8))] (sl 18 [(1, vP [1] (0)), (3, vI i_t3_3), (17, vB b8)] [bx [1] (eA6 (eI .i64) a0)]) (aC (idx_b he6) <| aC (ald he6 (lenI .i64) (eA6 (eI .i64) a0) 0 6 0 1 false (vI e6)) <| aC (Eq.refl (vI e6)) <| aC (fun hg : ((decide (e6 < (0 : Int))) == false) = true => aC (gi ((decide (e6 < (0 : Int))) == false)) <| aC (gidx_b he7 hg).1 <| aN) <| aC (fun hg : ((decide (e6 < (0 : Int))) == false) = true => aC (gi ((decide (e6 < (0 : Int))) == false)) <| aC (ald (gd_t he7 hg) (lenI .i64) (eA6 (eI .i64) a0) 0 6 0 1 false (vI e7)) <| aC (Eq.refl (vI e7)) <| aN) <| aG ((decide (e6 < (0 : Int))) == false) <| aF (decide (e6 < (0 : Int))) <| aB hb8 <| aN) ?_
     refine iB hzB4 (fun b9 hzB4 => ?_) (fun b9 hzB4 => ?_)
     · refine Rg [.a] (sl 18 [(2, vB false)] []) (aN) ?_
       refine Holds.ret ?_
       refine blockQ.ret ?_
       refine Tr ?_
       have hoB4_ := hoB4 _ (sI hzB4).symm
       subst hoB4_
       replace h := sumL h
       refine Tr ?_
       refine blockQ.ret ?_
       refine Tr ?_
       exact bQ (vB false) (congrArg vB (sI h))
     · refine Holds.skip ?_
       refine blockQ.normal ?_
       refine Tn ?_
       refine Re [.a, .a, .a] (sl 18 [(1, vP [1] (0)), (3, vI (wrap64 (i_t3_3 + (1 : Int)))), (6, vI i_t3_3), (7, vI (wrap64 (i_t3_3 + (1 : Int)))), (17, vB b8)] [bx [1] (eA6 (eI .i64) a0)]) (aN) ?_
       refine Tn ⟨(wrap64 (i_t3_3 + (1 : Int))), (sI hzB4).symm, lT⟩
   · refine Holds.exit ?_
     refine thenQ.exit ?_
     have hoB4_ := hoB4 _ (sI hzB4).symm
     subst hoB4_
     replace h := sumR h
     refine thenQ.exit ?_
     refine blockQ.out ?_
     refine Tn ⟨(), h, lT⟩
 · rintro _ hJ1
   replace hJ1 : r08_Whole_J1 = some r := hJ1
   unfold r08_Whole_J1 at hJ1
   refine Rg [.a] (sl 18 [(2, vB true)] []) (aN) ?_
   refine Holds.ret ?_
   exact bQ (vB true) (congrArg vB (sI hJ1))
def r25_place_J1  : Option (Int) :=
 some (-1 : Int)
def r25_place_B5 (a0 : SState) (a1 : Int) (i_t5_3 : Int) : Option ((Int) ⊕ (Int ⊕ Unit)) :=
 (if (decide (i_t5_3 < (a0.Objects.length : Int))) = true then
  (idx a0.Objects i_t5_3).bind fun e7 =>
  (if (e7.Id == a1) = true then
   some (.inr (.inl i_t5_3))
  else
   some (.inl (wrap64 (i_t5_3 + (1 : Int)))))
 else
  some (.inr (.inr ())))
/-- cardgame/cardgameref25.place -/
def r25_place (a0 : SState) (a1 : Int) : Option (Int) :=
 (iter (fun (v : Int) => r25_place_B5 a0 a1 v) FU (0 : Int)).bind (Sum.elim (fun o0 => some o0) (fun o1 => r25_place_J1))
def r25_place_C (a0 : SState) (a1 : Int) (r : Int) : Prop := PCall Tryz.prog I0 45 [vA encSState a0, vI a1] (· = vI r)
theorem r25_place_ok {a0 : SState} {a1 : Int} {r : Int} (h : r25_place a0 a1 = some r) : r25_place_C a0 a1 r := by
 refine PCall.body I0_stable (by kernel_rfl) Tryz.func45 rfl Tryz.ntmps45 (rs := [.tmp 4]) rfl rfl ?_
 intro w0 av old gv
 unfold r25_place at h
 refine Rg [.a, .a] (sl 22 [(1, vI a1), (2, vP [2] (0))] [bx [2] (encSState a0)]) (aN) ?_
 refine Holds.seqJ (X := Unit) (fun v => (sl 22 [] [])) (fun v => r25_place_J1 = some r) ?_ ?_
 · refine Rg [.a] (sl 22 [(1, vI a1), (2, vP [2] (0)), (5, vI (0 : Int))] [bx [2] (encSState a0)]) (aN) ?_
   refine Holds.block ?_
   obtain ⟨oB5, hiB5, h⟩ := bS h
   refine Holds.iter (fun (v : Int) => (sl 22 [(1, vI a1), (2, vP [2] (0)), (5, vI v)] [bx [2] (encSState a0)])) hiB5 (lT) ?_
   rintro i_t5_3 zB5 hzB5 hoB5
   replace hzB5 : r25_place_B5 a0 a1 i_t5_3 = some zB5 := hzB5
   unfold r25_place_B5 at hzB5
   refine Holds.seq ?_
   refine Rg [.a, .a, .a, .a, .a] (sl 22 [(1, vI a1), (2, vP [2] (0)), (5, vI i_t5_3), (10, vB (decide (i_t5_3 < (a0.Objects.length : Int))))] [bx [2] (encSState a0)]) (aN) ?_
   refine iB hzB5 (fun b6 hzB5 => ?_) (fun b6 hzB5 => ?_)
   · refine Holds.skip ?_
     refine Tn ?_
     refine Holds.seq ?_
     refine Holds.block ?_
     obtain ⟨e7, he7, hzB5⟩ := bS hzB5
     refine Rg [.a, .a, .a, .a, .a, (.v (vI e7.Id)), .a, .a] (sl 22 [(1, vI a1), (2, vP [2] (0)), (5, vI i_t5_3), (20, vB (e7.Id == a1))] [bx [2] (encSState a0)]) (aC (idx_b he7) <| aC (eld he7 lenSObject 0 1 false (vI e7.Id)) <| aC (Eq.refl (vI e7.Id)) <| aN) ?_
     refine iB hzB5 (fun b8 hzB5 => ?_) (fun b8 hzB5 => ?_)
     · refine Rg [.a, .a] (sl 22 [(4, vI i_t5_3)] []) (aN) ?_
       refine Holds.ret ?_
       refine blockQ.ret ?_
       refine Tr ?_
       have hoB5_ := hoB5 _ (sI hzB5).symm
       subst hoB5_
       replace h := sumL h
       refine Tr ?_
       refine blockQ.ret ?_
       refine Tr ?_
       exact bQ (vI i_t5_3) (congrArg vI (sI h))
     · refine Holds.skip ?_
       refine blockQ.normal ?_
       refine Tn ?_
       refine Re [.a, .a, .a] (sl 22 [(1, vI a1), (2, vP [2] (0)), (5, vI (wrap64 (i_t5_3 + (1 : Int)))), (11, vI i_t5_3), (12, vI (wrap64 (i_t5_3 + (1 : Int)))), (20, vB (e7.Id == a1))] [bx [2] (encSState a0)]) (aN) ?_
       refine Tn ⟨(wrap64 (i_t5_3 + (1 : Int))), (sI hzB5).symm, lT⟩
   · refine Holds.exit ?_
     refine thenQ.exit ?_
     have hoB5_ := hoB5 _ (sI hzB5).symm
     subst hoB5_
     replace h := sumR h
     refine thenQ.exit ?_
     refine blockQ.out ?_
     refine Tn ⟨(), h, lT⟩
 · rintro _ hJ1
   replace hJ1 : r25_place_J1 = some r := hJ1
   unfold r25_place_J1 at hJ1
   refine Rg [.a] (sl 22 [(4, vI (-1 : Int))] []) (aN) ?_
   refine Holds.ret ?_
   exact bQ (vI (-1 : Int)) (congrArg vI (sI hJ1))
def r26_times_J2  (k_t5_1 : Int) : Option (Int) :=
 some k_t5_1
def r26_times_J11 (i_t6_6 : Int) (k_t5_10 : Int) : Option ((Int × Int) ⊕ (Int)) :=
 some (.inl (k_t5_10, (wrap64 (i_t6_6 + (1 : Int)))))
def r26_times_B8 (a0 : List (Int)) (a1 : Int) (k_t5_5 : Int) (i_t6_6 : Int) : Option ((Int × Int) ⊕ (Int)) :=
 (if (decide (i_t6_6 < (a0.length : Int))) = true then
  (idx a0 i_t6_6).bind fun e12 =>
  (if (e12 == a1) = true then
   r26_times_J11 i_t6_6 (wrap64 (k_t5_5 + (1 : Int)))
  else
   r26_times_J11 i_t6_6 k_t5_5)
 else
  some (.inr k_t5_5))
/-- cardgame/cardgameref26.times -/
def r26_times (a0 : List (Int)) (a1 : Int) : Option (Int) :=
 (iter (fun (v : Int × Int) => r26_times_B8 a0 a1 v.1 v.2) FU ((0 : Int), (0 : Int))).bind (fun o0 => r26_times_J2 o0)
def r26_times_C (a0 : List (Int)) (a1 : Int) (r : Int) : Prop := PCall Tryz.prog I0 97 [vL (eI .i64) a0, vI a1] (· = vI r)
theorem r26_times_ok {a0 : List (Int)} {a1 : Int} {r : Int} (h : r26_times a0 a1 = some r) : r26_times_C a0 a1 r := by
 refine PCall.body I0_stable (by kernel_rfl) Tryz.func97 rfl Tryz.ntmps97 (rs := [.tmp 4]) rfl rfl ?_
 intro w0 av old gv
 unfold r26_times at h
 refine Rg [.a] (sl 22 [(0, vL (eI .i64) a0), (1, vI a1)] []) (aN) ?_
 refine Rg [.a] (sl 22 [(0, vL (eI .i64) a0), (1, vI a1), (5, vI (0 : Int))] []) (aN) ?_
 refine Holds.seqJ (X := Int) (fun v => (sl 22 [(5, vI v)] [])) (fun v => r26_times_J2 v = some r) ?_ ?_
 · refine Rg [.a] (sl 22 [(0, vL (eI .i64) a0), (1, vI a1), (5, vI (0 : Int)), (6, vI (0 : Int))] []) (aN) ?_
   refine Holds.block ?_
   obtain ⟨oB8, hiB8, h⟩ := bS h
   refine Holds.iter (fun (v : Int × Int) => (sl 22 [(0, vL (eI .i64) a0), (1, vI a1), (5, vI v.1), (6, vI v.2)] [])) hiB8 (lT) ?_
   rintro ⟨k_t5_5, i_t6_6⟩ zB8 hzB8 hoB8
   replace hzB8 : r26_times_B8 a0 a1 k_t5_5 i_t6_6 = some zB8 := hzB8
   unfold r26_times_B8 at hzB8
   refine Holds.seq ?_
   refine Rg [.a, .a, .a, .a] (sl 22 [(0, vL (eI .i64) a0), (1, vI a1), (5, vI k_t5_5), (6, vI i_t6_6), (10, vB (decide (i_t6_6 < (a0.length : Int))))] []) (aN) ?_
   refine iB hzB8 (fun b9 hzB8 => ?_) (fun b9 hzB8 => ?_)
   · refine Holds.skip ?_
     refine Tn ?_
     refine Holds.seqJ (X := Int) (fun v => (sl 22 [(0, vL (eI .i64) a0), (1, vI a1), (5, vI v), (6, vI i_t6_6)] [])) (fun v => r26_times_J11 i_t6_6 v = some zB8) ?_ ?_
     · refine Holds.block ?_
       obtain ⟨e12, he12, hzB8⟩ := bS hzB8
       refine Rg [.a, .a, .a, (.v (vI e12)), .a, .a] (sl 22 [(0, vL (eI .i64) a0), (1, vI a1), (5, vI k_t5_5), (6, vI i_t6_6), (18, vB (e12 == a1))] []) (aC (idx_b he12) <| aC (eld he12 (lenI .i64) 0 1 false (vI e12)) <| aC (Eq.refl (vI e12)) <| aN) ?_
       refine iB hzB8 (fun b13 hzB8 => ?_) (fun b13 hzB8 => ?_)
       · refine Re [.a, .a, .a] (sl 22 [(0, vL (eI .i64) a0), (1, vI a1), (5, vI (wrap64 (k_t5_5 + (1 : Int)))), (6, vI i_t6_6), (18, vB (e12 == a1)), (19, vI k_t5_5), (20, vI (wrap64 (k_t5_5 + (1 : Int))))] []) (aN) ?_
         refine blockQ.normal ?_
         refine Tn ⟨(wrap64 (k_t5_5 + (1 : Int))), hzB8, lT⟩
       · refine Holds.skip ?_
         refine blockQ.normal ?_
         refine Tn ⟨k_t5_5, hzB8, lT⟩
     · rintro k_t5_10 hJ11
       replace hJ11 : r26_times_J11 i_t6_6 k_t5_10 = some zB8 := hJ11
       unfold r26_times_J11 at hJ11
       refine Re [.a, .a, .a] (sl 22 [(0, vL (eI .i64) a0), (1, vI a1), (5, vI k_t5_10), (6, vI (wrap64 (i_t6_6 + (1 : Int)))), (11, vI i_t6_6), (12, vI (wrap64 (i_t6_6 + (1 : Int))))] []) (aN) ?_
       refine Tn ⟨(k_t5_10, (wrap64 (i_t6_6 + (1 : Int)))), (sI hJ11).symm, lT⟩
   · refine Holds.exit ?_
     refine thenQ.exit ?_
     have hoB8_ := hoB8 _ (sI hzB8).symm
     subst hoB8_
     refine thenQ.exit ?_
     refine blockQ.out ?_
     refine Tn ⟨k_t5_5, h, lT⟩
 · rintro k_t5_1 hJ2
   replace hJ2 : r26_times_J2 k_t5_1 = some r := hJ2
   unfold r26_times_J2 at hJ2
   refine Rg [.a, .a] (sl 22 [(4, vI k_t5_1)] []) (aN) ?_
   refine Holds.ret ?_
   exact bQ (vI k_t5_1) (congrArg vI (sI hJ2))
def r12_Is_J1  : Option (Bool) :=
 some true
def r12_Is_B4 (a0 : A3 (Int)) (i_t3_3 : Int) : Option ((Int) ⊕ (Unit ⊕ Unit)) :=
 (if (decide (i_t3_3 < (3 : Int))) = true then
  (idx a0.l i_t3_3).bind fun e6 =>
  (gd ((decide (e6 < (0 : Int))) == false) (idx a0.l i_t3_3)).bind fun e7 =>
  (some (if (decide (e6 < (0 : Int))) = true then true else decide ((1000000 : Int) < e7))).bind fun b8 =>
  (if b8 = true then
   some (.inr (.inl ()))
  else
   some (.inl (wrap64 (i_t3_3 + (1 : Int)))))
 else
  some (.inr (.inr ())))
/-- cardgame/cardgameref12.Is -/
def r12_Is (a0 : A3 (Int)) : Option (Bool) :=
 (iter (fun (v : Int) => r12_Is_B4 a0 v) FU (0 : Int)).bind (Sum.elim (fun o0 => some false) (fun o1 => r12_Is_J1))
def r12_Is_C (a0 : A3 (Int)) (r : Bool) : Prop := PCall Tryz.prog I0 98 [vA (eA3 (eI .i64)) a0] (· = vB r)
theorem r12_Is_ok {a0 : A3 (Int)} {r : Bool} (h : r12_Is a0 = some r) : r12_Is_C a0 r := by
 refine PCall.body I0_stable (by kernel_rfl) Tryz.func98 rfl Tryz.ntmps98 (rs := [.tmp 2]) rfl rfl ?_
 intro w0 av old gv
 unfold r12_Is at h
 refine Rg [.a, .a] (sl 18 [(1, vP [1] (0))] [bx [1] (eA3 (eI .i64) a0)]) (aN) ?_
 refine Holds.seqJ (X := Unit) (fun v => (sl 18 [] [])) (fun v => r12_Is_J1 = some r) ?_ ?_
 · refine Rg [.a] (sl 18 [(1, vP [1] (0)), (3, vI (0 : Int))] [bx [1] (eA3 (eI .i64) a0)]) (aN) ?_
   refine Holds.block ?_
   obtain ⟨oB4, hiB4, h⟩ := bS h
   refine Holds.iter (fun (v : Int) => (sl 18 [(1, vP [1] (0)), (3, vI v)] [bx [1] (eA3 (eI .i64) a0)])) hiB4 (lT) ?_
   rintro i_t3_3 zB4 hzB4 hoB4
   replace hzB4 : r12_Is_B4 a0 i_t3_3 = some zB4 := hzB4
   unfold r12_Is_B4 at hzB4
   refine Holds.seq ?_
   refine Rg [.a, .a] (sl 18 [(1, vP [1] (0)), (3, vI i_t3_3), (5, vB (decide (i_t3_3 < (3 : Int))))] [bx [1] (eA3 (eI .i64) a0)]) (aN) ?_
   refine iB hzB4 (fun b5 hzB4 => ?_) (fun b5 hzB4 => ?_)
   · refine Holds.skip ?_
     refine Tn ?_
     refine Holds.seq ?_
     refine Holds.block ?_
     obtain ⟨e6, he6, hzB4⟩ := bS hzB4
     obtain ⟨e7, he7, hzB4⟩ := bS hzB4
     obtain ⟨b8, hb8, hzB4⟩ := bS hzB4
     refine Rg [.a, .a, (.v (vI e6)), .a, .a, .a, .a, (.v (vI e7)), .a, (.v (vB b8))] (sl 18 [(1, vP [1] (0)), (3, vI i_t3_3), (17, vB b8)] [bx [1] (eA3 (eI .i64) a0)]) (aC (idx_b he6) <| aC (ald he6 (lenI .i64) (eA3 (eI .i64) a0) 0 3 0 1 false (vI e6)) <| aC (Eq.refl (vI e6)) <| aC (fun hg : ((decide (e6 < (0 : Int))) == false) = true => aC (gi ((decide (e6 < (0 : Int))) == false)) <| aC (gidx_b he7 hg).1 <| aN) <| aC (fun hg : ((decide (e6 < (0 : Int))) == false) = true => aC (gi ((decide (e6 < (0 : Int))) == false)) <| aC (ald (gd_t he7 hg) (lenI .i64) (eA3 (eI .i64) a0) 0 3 0 1 false (vI e7)) <| aC (Eq.refl (vI e7)) <| aN) <| aG ((decide (e6 < (0 : Int))) == false) <| aF (decide (e6 < (0 : Int))) <| aB hb8 <| aN) ?_
     refine iB hzB4 (fun b9 hzB4 => ?_) (fun b9 hzB4 => ?_)
     · refine Rg [.a] (sl 18 [(2, vB false)] []) (aN) ?_
       refine Holds.ret ?_
       refine blockQ.ret ?_
       refine Tr ?_
       have hoB4_ := hoB4 _ (sI hzB4).symm
       subst hoB4_
       replace h := sumL h
       refine Tr ?_
       refine blockQ.ret ?_
       refine Tr ?_
       exact bQ (vB false) (congrArg vB (sI h))
     · refine Holds.skip ?_
       refine blockQ.normal ?_
       refine Tn ?_
       refine Re [.a, .a, .a] (sl 18 [(1, vP [1] (0)), (3, vI (wrap64 (i_t3_3 + (1 : Int)))), (6, vI i_t3_3), (7, vI (wrap64 (i_t3_3 + (1 : Int)))), (17, vB b8)] [bx [1] (eA3 (eI .i64) a0)]) (aN) ?_
       refine Tn ⟨(wrap64 (i_t3_3 + (1 : Int))), (sI hzB4).symm, lT⟩
   · refine Holds.exit ?_
     refine thenQ.exit ?_
     have hoB4_ := hoB4 _ (sI hzB4).symm
     subst hoB4_
     replace h := sumR h
     refine thenQ.exit ?_
     refine blockQ.out ?_
     refine Tn ⟨(), h, lT⟩
 · rintro _ hJ1
   replace hJ1 : r12_Is_J1 = some r := hJ1
   unfold r12_Is_J1 at hJ1
   refine Rg [.a] (sl 18 [(2, vB true)] []) (aN) ?_
   refine Holds.ret ?_
   exact bQ (vB true) (congrArg vB (sI hJ1))
/-- cardgame/cardgameref24.Calm -/
def r24_Calm (a0 : SObject) : Option (SObject) :=
 some ({ { { a0 with Attack := (-1 : Int) } with Blocked := false } with Blocks := (0 : Int) })
def r24_Calm_C (a0 : SObject) (r : SObject) : Prop := PCall Tryz.prog I0 99 [vA encSObject a0] (· = vA encSObject r)
theorem r24_Calm_ok {a0 : SObject} {r : SObject} (h : r24_Calm a0 = some r) : r24_Calm_C a0 r := by
 refine PCall.body I0_stable (by kernel_rfl) Tryz.func99 rfl Tryz.ntmps99 (rs := [.cell 2 42]) rfl rfl ?_
 intro w0 av old gv
 unfold r24_Calm at h
 refine Rg [.a, .a] (sl 7 [(1, vP [1] (0)), (2, vP [2] (0))] [bx [2] [.int .i64 (0 : Int), .int .i64 (0 : Int), .int .i64 (0 : Int), .int .i64 (0 : Int), .int .i64 (0 : Int), .bool false, .bool false, .bool false, .bool false, .int .i64 (0 : Int), .int .i64 (((⟨(0 : Int), (0 : Int), (0 : Int)⟩ : A3 (Int))).x0), .int .i64 (((⟨(0 : Int), (0 : Int), (0 : Int)⟩ : A3 (Int))).x1), .int .i64 (((⟨(0 : Int), (0 : Int), (0 : Int)⟩ : A3 (Int))).x2), .int .i64 (0 : Int), .int .i64 (0 : Int), .int .i64 (0 : Int), .bool false, .int .i64 (0 : Int), .int .i64 (0 : Int)], bx [1] (encSObject a0)]) (aN) ?_
 refine Rg [.a, .a] (sl 7 [(1, vP [1] (0)), (2, vP [2] (0))] [bx [2] [.int .i64 (0 : Int), .int .i64 (0 : Int), .int .i64 (0 : Int), .int .i64 (0 : Int), .int .i64 (0 : Int), .bool false, .bool false, .bool false, .bool false, .int .i64 (0 : Int), .int .i64 (((⟨(0 : Int), (0 : Int), (0 : Int)⟩ : A3 (Int))).x0), .int .i64 (((⟨(0 : Int), (0 : Int), (0 : Int)⟩ : A3 (Int))).x1), .int .i64 (((⟨(0 : Int), (0 : Int), (0 : Int)⟩ : A3 (Int))).x2), .int .i64 (0 : Int), .int .i64 (0 : Int), .int .i64 (0 : Int), .bool false, .int .i64 (0 : Int), .int .i64 (0 : Int)], bx [1] (encSObject ({ a0 with Attack := (-1 : Int) }))]) (aN) ?_
 refine Rg [.a, .a] (sl 7 [(1, vP [1] (0)), (2, vP [2] (0))] [bx [2] [.int .i64 (0 : Int), .int .i64 (0 : Int), .int .i64 (0 : Int), .int .i64 (0 : Int), .int .i64 (0 : Int), .bool false, .bool false, .bool false, .bool false, .int .i64 (0 : Int), .int .i64 (((⟨(0 : Int), (0 : Int), (0 : Int)⟩ : A3 (Int))).x0), .int .i64 (((⟨(0 : Int), (0 : Int), (0 : Int)⟩ : A3 (Int))).x1), .int .i64 (((⟨(0 : Int), (0 : Int), (0 : Int)⟩ : A3 (Int))).x2), .int .i64 (0 : Int), .int .i64 (0 : Int), .int .i64 (0 : Int), .bool false, .int .i64 (0 : Int), .int .i64 (0 : Int)], bx [1] (encSObject ({ { a0 with Attack := (-1 : Int) } with Blocked := false }))]) (aN) ?_
 refine Rg [.a, .a] (sl 7 [(1, vP [1] (0)), (2, vP [2] (0))] [bx [2] [.int .i64 (0 : Int), .int .i64 (0 : Int), .int .i64 (0 : Int), .int .i64 (0 : Int), .int .i64 (0 : Int), .bool false, .bool false, .bool false, .bool false, .int .i64 (0 : Int), .int .i64 (((⟨(0 : Int), (0 : Int), (0 : Int)⟩ : A3 (Int))).x0), .int .i64 (((⟨(0 : Int), (0 : Int), (0 : Int)⟩ : A3 (Int))).x1), .int .i64 (((⟨(0 : Int), (0 : Int), (0 : Int)⟩ : A3 (Int))).x2), .int .i64 (0 : Int), .int .i64 (0 : Int), .int .i64 (0 : Int), .bool false, .int .i64 (0 : Int), .int .i64 (0 : Int)], bx [1] (encSObject ({ { { a0 with Attack := (-1 : Int) } with Blocked := false } with Blocks := (0 : Int) }))]) (aN) ?_
 refine Rg [.a, .a] (sl 7 [(2, vP [2] (0))] [bx [2] (encSObject ({ { { a0 with Attack := (-1 : Int) } with Blocked := false } with Blocks := (0 : Int) }))]) (aN) ?_
 refine Holds.ret ?_
 exact bE (vA encSObject ({ { { a0 with Attack := (-1 : Int) } with Blocked := false } with Blocks := (0 : Int) })) (.agg (encSObject ({ { { a0 with Attack := (-1 : Int) } with Blocked := false } with Blocks := (0 : Int) }))) (congrArg (vA encSObject) (sI h))
/-- cardgame/cardgameref24.Ended -/
def r24_Ended (a0 : SObject) : Option (SObject) :=
 some ({ { { a0 with Damage := (0 : Int) } with Deadly := false } with Shield := (0 : Int) })
def r24_Ended_C (a0 : SObject) (r : SObject) : Prop := PCall Tryz.prog I0 100 [vA encSObject a0] (· = vA encSObject r)
theorem r24_Ended_ok {a0 : SObject} {r : SObject} (h : r24_Ended a0 = some r) : r24_Ended_C a0 r := by
 refine PCall.body I0_stable (by kernel_rfl) Tryz.func100 rfl Tryz.ntmps100 (rs := [.cell 2 42]) rfl rfl ?_
 intro w0 av old gv
 unfold r24_Ended at h
 refine Rg [.a, .a] (sl 7 [(1, vP [1] (0)), (2, vP [2] (0))] [bx [2] [.int .i64 (0 : Int), .int .i64 (0 : Int), .int .i64 (0 : Int), .int .i64 (0 : Int), .int .i64 (0 : Int), .bool false, .bool false, .bool false, .bool false, .int .i64 (0 : Int), .int .i64 (((⟨(0 : Int), (0 : Int), (0 : Int)⟩ : A3 (Int))).x0), .int .i64 (((⟨(0 : Int), (0 : Int), (0 : Int)⟩ : A3 (Int))).x1), .int .i64 (((⟨(0 : Int), (0 : Int), (0 : Int)⟩ : A3 (Int))).x2), .int .i64 (0 : Int), .int .i64 (0 : Int), .int .i64 (0 : Int), .bool false, .int .i64 (0 : Int), .int .i64 (0 : Int)], bx [1] (encSObject a0)]) (aN) ?_
 refine Rg [.a, .a] (sl 7 [(1, vP [1] (0)), (2, vP [2] (0))] [bx [2] [.int .i64 (0 : Int), .int .i64 (0 : Int), .int .i64 (0 : Int), .int .i64 (0 : Int), .int .i64 (0 : Int), .bool false, .bool false, .bool false, .bool false, .int .i64 (0 : Int), .int .i64 (((⟨(0 : Int), (0 : Int), (0 : Int)⟩ : A3 (Int))).x0), .int .i64 (((⟨(0 : Int), (0 : Int), (0 : Int)⟩ : A3 (Int))).x1), .int .i64 (((⟨(0 : Int), (0 : Int), (0 : Int)⟩ : A3 (Int))).x2), .int .i64 (0 : Int), .int .i64 (0 : Int), .int .i64 (0 : Int), .bool false, .int .i64 (0 : Int), .int .i64 (0 : Int)], bx [1] (encSObject ({ a0 with Damage := (0 : Int) }))]) (aN) ?_
 refine Rg [.a, .a] (sl 7 [(1, vP [1] (0)), (2, vP [2] (0))] [bx [2] [.int .i64 (0 : Int), .int .i64 (0 : Int), .int .i64 (0 : Int), .int .i64 (0 : Int), .int .i64 (0 : Int), .bool false, .bool false, .bool false, .bool false, .int .i64 (0 : Int), .int .i64 (((⟨(0 : Int), (0 : Int), (0 : Int)⟩ : A3 (Int))).x0), .int .i64 (((⟨(0 : Int), (0 : Int), (0 : Int)⟩ : A3 (Int))).x1), .int .i64 (((⟨(0 : Int), (0 : Int), (0 : Int)⟩ : A3 (Int))).x2), .int .i64 (0 : Int), .int .i64 (0 : Int), .int .i64 (0 : Int), .bool false, .int .i64 (0 : Int), .int .i64 (0 : Int)], bx [1] (encSObject ({ { a0 with Damage := (0 : Int) } with Deadly := false }))]) (aN) ?_
 refine Rg [.a, .a] (sl 7 [(1, vP [1] (0)), (2, vP [2] (0))] [bx [2] [.int .i64 (0 : Int), .int .i64 (0 : Int), .int .i64 (0 : Int), .int .i64 (0 : Int), .int .i64 (0 : Int), .bool false, .bool false, .bool false, .bool false, .int .i64 (0 : Int), .int .i64 (((⟨(0 : Int), (0 : Int), (0 : Int)⟩ : A3 (Int))).x0), .int .i64 (((⟨(0 : Int), (0 : Int), (0 : Int)⟩ : A3 (Int))).x1), .int .i64 (((⟨(0 : Int), (0 : Int), (0 : Int)⟩ : A3 (Int))).x2), .int .i64 (0 : Int), .int .i64 (0 : Int), .int .i64 (0 : Int), .bool false, .int .i64 (0 : Int), .int .i64 (0 : Int)], bx [1] (encSObject ({ { { a0 with Damage := (0 : Int) } with Deadly := false } with Shield := (0 : Int) }))]) (aN) ?_
 refine Rg [.a, .a] (sl 7 [(2, vP [2] (0))] [bx [2] (encSObject ({ { { a0 with Damage := (0 : Int) } with Deadly := false } with Shield := (0 : Int) }))]) (aN) ?_
 refine Holds.ret ?_
 exact bE (vA encSObject ({ { { a0 with Damage := (0 : Int) } with Deadly := false } with Shield := (0 : Int) })) (.agg (encSObject ({ { { a0 with Damage := (0 : Int) } with Deadly := false } with Shield := (0 : Int) }))) (congrArg (vA encSObject) (sI h))
def r26_spells_J2  (n_t5_1 : Int) : Option (Int) :=
 some n_t5_1
def r26_spells_J11 (i_t6_6 : Int) (n_t5_10 : Int) : Option ((Int × Int) ⊕ (Int)) :=
 some (.inl (n_t5_10, (wrap64 (i_t6_6 + (1 : Int)))))
def r26_spells_B8 (a0 : SState) (a1 : Int) (n_t5_5 : Int) (i_t6_6 : Int) : Option ((Int × Int) ⊕ (Int)) :=
 (if (decide (i_t6_6 < (a0.Stack.length : Int))) = true then
  (idx a0.Stack i_t6_6).bind fun e12 =>
  (gd ((e12.Kind == (1 : Int)) == true) (idx a0.Stack i_t6_6)).bind fun e13 =>
  (some (if (e12.Kind == (1 : Int)) = true then e13.Id == a1 else false)).bind fun b14 =>
  (if b14 = true then
   r26_spells_J11 i_t6_6 (wrap64 (n_t5_5 + (1 : Int)))
  else
   r26_spells_J11 i_t6_6 n_t5_5)
 else
  some (.inr n_t5_5))
/-- cardgame/cardgameref26.spells -/
def r26_spells (a0 : SState) (a1 : Int) : Option (Int) :=
 (iter (fun (v : Int × Int) => r26_spells_B8 a0 a1 v.1 v.2) FU ((0 : Int), (0 : Int))).bind (fun o0 => r26_spells_J2 o0)
def r26_spells_C (a0 : SState) (a1 : Int) (r : Int) : Prop := PCall Tryz.prog I0 101 [vA encSState a0, vI a1] (· = vI r)
theorem r26_spells_ok {a0 : SState} {a1 : Int} {r : Int} (h : r26_spells a0 a1 = some r) : r26_spells_C a0 a1 r := by
 refine PCall.body I0_stable (by kernel_rfl) Tryz.func101 rfl Tryz.ntmps101 (rs := [.tmp 4]) rfl rfl ?_
 intro w0 av old gv
 unfold r26_spells at h
 refine Rg [.a, .a] (sl 34 [(1, vI a1), (2, vP [2] (0))] [bx [2] (encSState a0)]) (aN) ?_
 refine Rg [.a] (sl 34 [(1, vI a1), (2, vP [2] (0)), (5, vI (0 : Int))] [bx [2] (encSState a0)]) (aN) ?_
 refine Holds.seqJ (X := Int) (fun v => (sl 34 [(5, vI v)] [])) (fun v => r26_spells_J2 v = some r) ?_ ?_
 · refine Rg [.a] (sl 34 [(1, vI a1), (2, vP [2] (0)), (5, vI (0 : Int)), (6, vI (0 : Int))] [bx [2] (encSState a0)]) (aN) ?_
   refine Holds.block ?_
   obtain ⟨oB8, hiB8, h⟩ := bS h
   refine Holds.iter (fun (v : Int × Int) => (sl 34 [(1, vI a1), (2, vP [2] (0)), (5, vI v.1), (6, vI v.2)] [bx [2] (encSState a0)])) hiB8 (lT) ?_
   rintro ⟨n_t5_5, i_t6_6⟩ zB8 hzB8 hoB8
   replace hzB8 : r26_spells_B8 a0 a1 n_t5_5 i_t6_6 = some zB8 := hzB8
   unfold r26_spells_B8 at hzB8
   refine Holds.seq ?_
   refine Rg [.a, .a, .a, .a, .a] (sl 34 [(1, vI a1), (2, vP [2] (0)), (5, vI n_t5_5), (6, vI i_t6_6), (11, vB (decide (i_t6_6 < (a0.Stack.length : Int))))] [bx [2] (encSState a0)]) (aN) ?_
   refine iB hzB8 (fun b9 hzB8 => ?_) (fun b9 hzB8 => ?_)
   · refine Holds.skip ?_
     refine Tn ?_
     refine Holds.seqJ (X := Int) (fun v => (sl 34 [(1, vI a1), (2, vP [2] (0)), (5, vI v), (6, vI i_t6_6)] [bx [2] (encSState a0)])) (fun v => r26_spells_J11 i_t6_6 v = some zB8) ?_ ?_
     · refine Holds.block ?_
       obtain ⟨e12, he12, hzB8⟩ := bS hzB8
       obtain ⟨e13, he13, hzB8⟩ := bS hzB8
       obtain ⟨b14, hb14, hzB8⟩ := bS hzB8
       refine Rg [.a, .a, .a, .a, .a, (.v (vI e12.Kind)), .a, .a, .a, .a, .a, .a, .a, (.v (vI e13.Id)), .a, .a, (.v (vB b14))] (sl 34 [(1, vI a1), (2, vP [2] (0)), (5, vI n_t5_5), (6, vI i_t6_6), (30, vB b14)] [bx [2] (encSState a0)]) (aC (idx_b he12) <| aC (eld he12 lenSItem 1 1 false (vI e12.Kind)) <| aC (Eq.refl (vI e12.Kind)) <| aG ((e12.Kind == (1 : Int)) == true) <| aC (fun hg : ((e12.Kind == (1 : Int)) == true) = true => aC (gi ((e12.Kind == (1 : Int)) == true)) <| aC (gi ((e12.Kind == (1 : Int)) == true)) <| aC (gidx_b he13 hg).1 <| aN) <| aG ((e12.Kind == (1 : Int)) == true) <| aC (fun hg : ((e12.Kind == (1 : Int)) == true) = true => aC (gi ((e12.Kind == (1 : Int)) == true)) <| aC (eld (gd_t he13 hg) lenSItem 0 1 false (vI e13.Id)) <| aC (Eq.refl (vI e13.Id)) <| aN) <| aH ((e12.Kind == (1 : Int)) == true) <| aT (e12.Kind == (1 : Int)) <| aB hb14 <| aN) ?_
       refine iB hzB8 (fun b15 hzB8 => ?_) (fun b15 hzB8 => ?_)
       · refine Re [.a, .a, .a] (sl 34 [(1, vI a1), (2, vP [2] (0)), (5, vI (wrap64 (n_t5_5 + (1 : Int)))), (6, vI i_t6_6), (30, vB b14), (31, vI n_t5_5), (32, vI (wrap64 (n_t5_5 + (1 : Int))))] [bx [2] (encSState a0)]) (aN) ?_
         refine blockQ.normal ?_
         refine Tn ⟨(wrap64 (n_t5_5 + (1 : Int))), hzB8, lT⟩
       · refine Holds.skip ?_
         refine blockQ.normal ?_
         refine Tn ⟨n_t5_5, hzB8, lT⟩
     · rintro n_t5_10 hJ11
       replace hJ11 : r26_spells_J11 i_t6_6 n_t5_10 = some zB8 := hJ11
       unfold r26_spells_J11 at hJ11
       refine Re [.a, .a, .a] (sl 34 [(1, vI a1), (2, vP [2] (0)), (5, vI n_t5_10), (6, vI (wrap64 (i_t6_6 + (1 : Int)))), (12, vI i_t6_6), (13, vI (wrap64 (i_t6_6 + (1 : Int))))] [bx [2] (encSState a0)]) (aN) ?_
       refine Tn ⟨(n_t5_10, (wrap64 (i_t6_6 + (1 : Int)))), (sI hJ11).symm, lT⟩
   · refine Holds.exit ?_
     refine thenQ.exit ?_
     have hoB8_ := hoB8 _ (sI hzB8).symm
     subst hoB8_
     refine thenQ.exit ?_
     refine blockQ.out ?_
     refine Tn ⟨n_t5_5, h, lT⟩
 · rintro n_t5_1 hJ2
   replace hJ2 : r26_spells_J2 n_t5_1 = some r := hJ2
   unfold r26_spells_J2 at hJ2
   refine Rg [.a, .a] (sl 34 [(4, vI n_t5_1)] []) (aN) ?_
   refine Holds.ret ?_
   exact bQ (vI n_t5_1) (congrArg vI (sI hJ2))
def r17_SameMods_J2  : Option (Bool) :=
 some true
def r17_SameMods_B5 (a0 : List (SMod)) (a1 : List (SMod)) (i_t5_4 : Int) : Option ((Int) ⊕ (Unit ⊕ Unit)) :=
 (if (decide (i_t5_4 < (a0.length : Int))) = true then
  (idx a0 i_t5_4).bind fun e7 =>
  (idx a1 i_t5_4).bind fun e8 =>
  (if (!(e7 == e8)) = true then
   some (.inr (.inl ()))
  else
   some (.inl (wrap64 (i_t5_4 + (1 : Int)))))
 else
  some (.inr (.inr ())))
/-- cardgame/cardgameref17.SameMods -/
def r17_SameMods (a0 : List (SMod)) (a1 : List (SMod)) : Option (Bool) :=
 (if ((a0.length : Int) != (a1.length : Int)) = true then
  some false
 else
  (iter (fun (v : Int) => r17_SameMods_B5 a0 a1 v) FU (0 : Int)).bind (Sum.elim (fun o0 => some false) (fun o1 => r17_SameMods_J2)))
def r17_SameMods_C (a0 : List (SMod)) (a1 : List (SMod)) (r : Bool) : Prop := PCall Tryz.prog I0 135 [vL encSMod a0, vL encSMod a1] (· = vB r)
theorem r17_SameMods_ok {a0 : List (SMod)} {a1 : List (SMod)} {r : Bool} (h : r17_SameMods a0 a1 = some r) : r17_SameMods_C a0 a1 r := by
 refine PCall.body I0_stable (by kernel_rfl) Tryz.func135 rfl Tryz.ntmps135 (rs := [.tmp 4]) rfl rfl ?_
 intro w0 av old gv
 unfold r17_SameMods at h
 refine Rg [.a] (sl 26 [(0, vL encSMod a0), (1, vL encSMod a1)] []) (aN) ?_
 refine Holds.seq ?_
 refine Rg [.a, .a, .a, .a, .a] (sl 26 [(0, vL encSMod a0), (1, vL encSMod a1), (10, vB ((a0.length : Int) != (a1.length : Int)))] []) (aN) ?_
 refine iB h (fun b1 h => ?_) (fun b1 h => ?_)
 · refine Rg [.a] (sl 26 [(4, vB false)] []) (aN) ?_
   refine Holds.ret ?_
   refine Tr ?_
   exact bQ (vB false) (congrArg vB (sI h))
 · refine Holds.skip ?_
   refine Tn ?_
   refine Holds.seqJ (X := Unit) (fun v => (sl 26 [] [])) (fun v => r17_SameMods_J2 = some r) ?_ ?_
   · refine Rg [.a] (sl 26 [(0, vL encSMod a0), (1, vL encSMod a1), (5, vI (0 : Int))] []) (aN) ?_
     refine Holds.block ?_
     obtain ⟨oB5, hiB5, h⟩ := bS h
     refine Holds.iter (fun (v : Int) => (sl 26 [(0, vL encSMod a0), (1, vL encSMod a1), (5, vI v)] [])) hiB5 (lT) ?_
     rintro i_t5_4 zB5 hzB5 hoB5
     replace hzB5 : r17_SameMods_B5 a0 a1 i_t5_4 = some zB5 := hzB5
     unfold r17_SameMods_B5 at hzB5
     refine Holds.seq ?_
     refine Rg [.a, .a, .a, .a] (sl 26 [(0, vL encSMod a0), (1, vL encSMod a1), (5, vI i_t5_4), (14, vB (decide (i_t5_4 < (a0.length : Int))))] []) (aN) ?_
     refine iB hzB5 (fun b6 hzB5 => ?_) (fun b6 hzB5 => ?_)
     · refine Holds.skip ?_
       refine Tn ?_
       refine Holds.seq ?_
       refine Holds.block ?_
       obtain ⟨e7, he7, hzB5⟩ := bS hzB5
       obtain ⟨e8, he8, hzB5⟩ := bS hzB5
       refine Rq followsP [.a, .a, .a, (.v (vA encSMod e7)), .a, .a, .a, (.v (vA encSMod e8)), (.v (vB (!(e7 == e8))))] (sl 26 [(0, vL encSMod a0), (1, vL encSMod a1), (5, vI i_t5_4), (25, vB (!(e7 == e8)))] []) (aC (idx_b he7) <| aC (eld he7 lenSMod 0 20 true (vA encSMod e7)) <| aC (Eq.refl (vA encSMod e7)) <| aC (idx_b he8) <| aC (eld he8 lenSMod 0 20 true (vA encSMod e8)) <| aC (Eq.refl (vA encSMod e8)) <| aC (congrArg (fun z => V.c (.bool (!z))) (eqT154 e7 e8)) <| aN) ?_
       refine iB hzB5 (fun b9 hzB5 => ?_) (fun b9 hzB5 => ?_)
       · refine Rg [.a] (sl 26 [(4, vB false)] []) (aN) ?_
         refine Holds.ret ?_
         refine blockQ.ret ?_
         refine Tr ?_
         have hoB5_ := hoB5 _ (sI hzB5).symm
         subst hoB5_
         replace h := sumL h
         refine Tr ?_
         refine blockQ.ret ?_
         refine Tr ?_
         exact bQ (vB false) (congrArg vB (sI h))
       · refine Holds.skip ?_
         refine blockQ.normal ?_
         refine Tn ?_
         refine Re [.a, .a, .a] (sl 26 [(0, vL encSMod a0), (1, vL encSMod a1), (5, vI (wrap64 (i_t5_4 + (1 : Int)))), (15, vI i_t5_4), (16, vI (wrap64 (i_t5_4 + (1 : Int)))), (25, vB (!(e7 == e8)))] []) (aN) ?_
         refine Tn ⟨(wrap64 (i_t5_4 + (1 : Int))), (sI hzB5).symm, lT⟩
     · refine Holds.exit ?_
       refine thenQ.exit ?_
       have hoB5_ := hoB5 _ (sI hzB5).symm
       subst hoB5_
       replace h := sumR h
       refine thenQ.exit ?_
       refine blockQ.out ?_
       refine Tn ⟨(), h, lT⟩
   · rintro _ hJ2
     replace hJ2 : r17_SameMods_J2 = some r := hJ2
     unfold r17_SameMods_J2 at hJ2
     refine Rg [.a] (sl 26 [(4, vB true)] []) (aN) ?_
     refine Holds.ret ?_
     exact bQ (vB true) (congrArg vB (sI hJ2))
def r03_Is_J1  : Option (Bool) :=
 some true
def r03_Is_B4 (a0 : List (Int)) (i_t3_3 : Int) : Option ((Int) ⊕ (Unit ⊕ Unit)) :=
 (if (decide (i_t3_3 < (a0.length : Int))) = true then
  (idx a0 (wrap64 (i_t3_3 - (1 : Int)))).bind fun e6 =>
  (idx a0 i_t3_3).bind fun e7 =>
  (if (decide (e7 ≤ e6)) = true then
   some (.inr (.inl ()))
  else
   some (.inl (wrap64 (i_t3_3 + (1 : Int)))))
 else
  some (.inr (.inr ())))
/-- cardgame/cardgameref03.Is -/
def r03_Is (a0 : List (Int)) : Option (Bool) :=
 (iter (fun (v : Int) => r03_Is_B4 a0 v) FU (1 : Int)).bind (Sum.elim (fun o0 => some false) (fun o1 => r03_Is_J1))
def r03_Is_C (a0 : List (Int)) (r : Bool) : Prop := PCall Tryz.prog I0 66 [vL (eI .i64) a0] (· = vB r)
theorem r03_Is_ok {a0 : List (Int)} {r : Bool} (h : r03_Is a0 = some r) : r03_Is_C a0 r := by
 refine PCall.body I0_stable (by kernel_rfl) Tryz.func66 rfl Tryz.ntmps66 (rs := [.tmp 2]) rfl rfl ?_
 intro w0 av old gv
 unfold r03_Is at h
 refine Rg [.a] (sl 20 [(0, vL (eI .i64) a0)] []) (aN) ?_
 refine Holds.seqJ (X := Unit) (fun v => (sl 20 [] [])) (fun v => r03_Is_J1 = some r) ?_ ?_
 · refine Rg [.a] (sl 20 [(0, vL (eI .i64) a0), (3, vI (1 : Int))] []) (aN) ?_
   refine Holds.block ?_
   obtain ⟨oB4, hiB4, h⟩ := bS h
   refine Holds.iter (fun (v : Int) => (sl 20 [(0, vL (eI .i64) a0), (3, vI v)] [])) hiB4 (lT) ?_
   rintro i_t3_3 zB4 hzB4 hoB4
   replace hzB4 : r03_Is_B4 a0 i_t3_3 = some zB4 := hzB4
   unfold r03_Is_B4 at hzB4
   refine Holds.seq ?_
   refine Rg [.a, .a, .a, .a] (sl 20 [(0, vL (eI .i64) a0), (3, vI i_t3_3), (7, vB (decide (i_t3_3 < (a0.length : Int))))] []) (aN) ?_
   refine iB hzB4 (fun b5 hzB4 => ?_) (fun b5 hzB4 => ?_)
   · refine Holds.skip ?_
     refine Tn ?_
     refine Holds.seq ?_
     refine Holds.block ?_
     obtain ⟨e6, he6, hzB4⟩ := bS hzB4
     obtain ⟨e7, he7, hzB4⟩ := bS hzB4
     refine Rq followsP [.a, .a, .a, .a, (.v (vI e6)), .a, .a, .a, (.v (vI e7)), .a] (sl 20 [(0, vL (eI .i64) a0), (3, vI i_t3_3), (19, vB (decide (e7 ≤ e6)))] []) (aC (idx_b he6) <| aC (eld he6 (lenI .i64) 0 1 false (vI e6)) <| aC (Eq.refl (vI e6)) <| aC (idx_b he7) <| aC (eld he7 (lenI .i64) 0 1 false (vI e7)) <| aC (Eq.refl (vI e7)) <| aN) ?_
     refine iB hzB4 (fun b8 hzB4 => ?_) (fun b8 hzB4 => ?_)
     · refine Rg [.a] (sl 20 [(2, vB false)] []) (aN) ?_
       refine Holds.ret ?_
       refine blockQ.ret ?_
       refine Tr ?_
       have hoB4_ := hoB4 _ (sI hzB4).symm
       subst hoB4_
       replace h := sumL h
       refine Tr ?_
       refine blockQ.ret ?_
       refine Tr ?_
       exact bQ (vB false) (congrArg vB (sI h))
     · refine Holds.skip ?_
       refine blockQ.normal ?_
       refine Tn ?_
       refine Re [.a, .a, .a] (sl 20 [(0, vL (eI .i64) a0), (3, vI (wrap64 (i_t3_3 + (1 : Int)))), (8, vI i_t3_3), (9, vI (wrap64 (i_t3_3 + (1 : Int)))), (19, vB (decide (e7 ≤ e6)))] []) (aN) ?_
       refine Tn ⟨(wrap64 (i_t3_3 + (1 : Int))), (sI hzB4).symm, lT⟩
   · refine Holds.exit ?_
     refine thenQ.exit ?_
     have hoB4_ := hoB4 _ (sI hzB4).symm
     subst hoB4_
     replace h := sumR h
     refine thenQ.exit ?_
     refine blockQ.out ?_
     refine Tn ⟨(), h, lT⟩
 · rintro _ hJ1
   replace hJ1 : r03_Is_J1 = some r := hJ1
   unfold r03_Is_J1 at hJ1
   refine Rg [.a] (sl 20 [(2, vB true)] []) (aN) ?_
   refine Holds.ret ?_
   exact bQ (vB true) (congrArg vB (sI hJ1))
/-- cardgame/event.Name -/
def event_Name (a0 : Int) : Option ((List UInt8)) :=
 (some (if (decide (a0 < (1 : Int))) = true then true else decide ((17 : Int) < a0))).bind fun b1 =>
 (if b1 = true then
  some ([] : List UInt8)
 else
  (idx (⟨str_damage, str_move, str_draw, str_gain, str_lose, str_tap, str_untap, str_put, str_take, str_create, str_cast, str_attack, str_block, str_upkeep, str_end, str_venom, str_shuffle⟩ : A17 (List UInt8)).l (wrap64 (a0 - (1 : Int)))).bind fun e3 =>
  some e3)
def event_Name_C (a0 : Int) (r : (List UInt8)) : Prop := PCall Tryz.prog I0 14 [vI a0] (· = vS r)
theorem event_Name_ok {a0 : Int} {r : (List UInt8)} (h : event_Name a0 = some r) : event_Name_C a0 r := by
 refine PCall.body I0_stable (by kernel_rfl) Tryz.func14 rfl Tryz.ntmps14 (rs := [.tmp 2]) rfl rfl ?_
 intro w0 av old gv
 unfold event_Name at h
 refine Rg [.a] (sl 15 [(0, vI a0)] []) (aN) ?_
 refine Rg [.a, .a, .a] (sl 15 [(0, vI a0), (3, vP [3] (0))] [bx [3] (eA17 (eS) (⟨str_damage, str_move, str_draw, str_gain, str_lose, str_tap, str_untap, str_put, str_take, str_create, str_cast, str_attack, str_block, str_upkeep, str_end, str_venom, str_shuffle⟩ : A17 (List UInt8)))]) (aC (And.intro (show True ∧ (True ∧ (True ∧ (True ∧ (True ∧ (True ∧ (True ∧ (True ∧ (True ∧ (True ∧ (True ∧ (True ∧ (True ∧ (True ∧ (True ∧ (True ∧ (True ∧ True)))))))))))))))) from ⟨trivial, ⟨trivial, ⟨trivial, ⟨trivial, ⟨trivial, ⟨trivial, ⟨trivial, ⟨trivial, ⟨trivial, ⟨trivial, ⟨trivial, ⟨trivial, ⟨trivial, ⟨trivial, ⟨trivial, ⟨trivial, ⟨trivial, trivial⟩⟩⟩⟩⟩⟩⟩⟩⟩⟩⟩⟩⟩⟩⟩⟩⟩) okp79) <| aN) ?_
 refine Holds.seq ?_
 obtain ⟨b1, hb1, h⟩ := bS h
 refine Rg [.a, .a, .a, .a, .a, (.v (vB b1))] (sl 15 [(0, vI a0), (3, vP [3] (0)), (10, vB b1)] [bx [3] (eA17 (eS) (⟨str_damage, str_move, str_draw, str_gain, str_lose, str_tap, str_untap, str_put, str_take, str_create, str_cast, str_attack, str_block, str_upkeep, str_end, str_venom, str_shuffle⟩ : A17 (List UInt8)))]) (aG ((decide (a0 < (1 : Int))) == false) <| aF (decide (a0 < (1 : Int))) <| aB hb1 <| aN) ?_
 refine iB h (fun b2 h => ?_) (fun b2 h => ?_)
 · refine Rg [.a] (sl 15 [(2, vS ([] : List UInt8))] []) (aN) ?_
   refine Holds.ret ?_
   refine Tr ?_
   exact bQ (vS ([] : List UInt8)) (congrArg vS (sI h))
 · refine Holds.skip ?_
   refine Tn ?_
   obtain ⟨e3, he3, h⟩ := bS h
   refine Rg [.a, .a, .a, (.v (vS e3)), .a] (sl 15 [(2, vS e3)] []) (aC (idx_b he3) <| aC (ald he3 lenS (eA17 (eS) (⟨str_damage, str_move, str_draw, str_gain, str_lose, str_tap, str_untap, str_put, str_take, str_create, str_cast, str_attack, str_block, str_upkeep, str_end, str_venom, str_shuffle⟩ : A17 (List UInt8))) 0 17 0 1 false (vS e3)) <| aC (Eq.refl (vS e3)) <| aN) ?_
   refine Holds.ret ?_
   exact bQ (vS e3) (congrArg vS (sI h))
/-- cardgame/num.Text -/
def num_Text (a0 : Int) : Option ((List UInt8)) :=
 (dItoa a0).bind fun r1 =>
 some r1
def num_Text_C (a0 : Int) (r : (List UInt8)) : Prop := PCall Tryz.prog I0 42 [vI a0] (· = vS r)
theorem num_Text_ok {a0 : Int} {r : (List UInt8)} (h : num_Text a0 = some r) : num_Text_C a0 r := by
 refine PCall.body I0_stable (by kernel_rfl) Tryz.func42 rfl Tryz.ntmps42 (rs := [.tmp 2]) rfl rfl ?_
 intro w0 av old gv
 unfold num_Text at h
 refine Rg [.a] (sl 5 [(0, vI a0)] []) (aN) ?_
 obtain ⟨r1, hr1, h⟩ := bS h
 refine Rg [.a, (.c (vS r1)), .a] (sl 5 [(2, vS r1)] []) (aC (okItoa hr1) <| aN) ?_
 refine Holds.ret ?_
 exact bQ (vS r1) (congrArg vS (sI h))
def zone_place_J2  (vt8_1 : Int) : Option (Int) :=
 some vt8_1
def zone_place_J3  : Option (Int) :=
 zone_place_J2 (-1 : Int)
def zone_place_B7 (a0 : SState) (a1 : Int) (vt8_5 : Int) : Option ((Int) ⊕ (Int ⊕ Unit)) :=
 (if (decide (vt8_5 < (a0.Objects.length : Int))) = true then
  (idx a0.Objects vt8_5).bind fun e9 =>
  (if (e9.Id == a1) = true then
   some (.inr (.inl vt8_5))
  else
   some (.inl (wrap64 (vt8_5 + (1 : Int)))))
 else
  some (.inr (.inr ())))
/-- cardgame/zone.place -/
def zone_place (a0 : SState) (a1 : Int) : Option (Int) :=
 (iter (fun (v : Int) => zone_place_B7 a0 a1 v) FU (0 : Int)).bind (Sum.elim (fun o0 => zone_place_J2 o0) (fun o1 => zone_place_J3))
def zone_place_C (a0 : SState) (a1 : Int) (r : Int) : Prop := PCall Tryz.prog I0 44 [vA encSState a0, vI a1] (· = vI r)
theorem zone_place_ok {a0 : SState} {a1 : Int} {r : Int} (h : zone_place a0 a1 = some r) : zone_place_C a0 a1 r := by
 refine PCall.body I0_stable (by kernel_rfl) Tryz.func44 rfl Tryz.ntmps44 (rs := [.tmp 4]) rfl rfl ?_
 intro w0 av old gv
 unfold zone_place at h
 refine Rg [.a, .a, .a] (sl 9 [(2, vP [2] (0)), (3, vP [3] (0))] [bx [3] [.int .i64 a1], bx [2] (encSState a0)]) (aN) ?_
 refine Holds.seq ?_
 refine Holds.region ?_
 refine Rp 3 [.a, .a, .a] (sl 9 [(2, vP [2] (0)), (3, vP [3] (0)), (5, vP [2] (1)), (6, vL encSObject a0.Objects), (7, .c (.clo 73 [.ptr [3] (0)]))] [bx [3] [.int .i64 a1], bx [2] (encSState a0)]) (aC (show True ∧ True from ⟨trivial, trivial⟩) <| aN) ?_
 refine Run.inlJ (X := Int) (fun v => (sl 9 [(8, vI v)] [])) (fun v => zone_place_J2 v = some r) rfl rfl (Esc.inline (s := True ∧ (True ∧ True)) (vs := [vL encSObject a0.Objects, .c (.clo 73 [.ptr [3] (0)])]) (cs := []) 8 rfl rfl rfl (by kernel_rfl) ⟨trivial, ⟨trivial, trivial⟩⟩ (by kernel_rfl) (by kernel_rfl) Tryz.func72 rfl Tryz.ntmps72 (rs := [.tmp 4]) rfl ?_) ?_
 · intro w00 av0 old0 gv0
   refine At (sg 19 [(0, vL encSObject a0.Objects), (1, .c (.clo 73 [.ptr [3] (0)]))] [bx [3] [.int .i64 a1], bx [2] (encSState a0)] 9 [(2, vP [2] (0)), (3, vP [3] (0)), (5, vP [2] (1)), (6, vL encSObject a0.Objects), (7, .c (.clo 73 [.ptr [3] (0)]))] [8]) ?_
   refine Rg [.a] (sg 19 [(0, vL encSObject a0.Objects), (1, .c (.clo 73 [.ptr [3] (0)]))] [bx [3] [.int .i64 a1], bx [2] (encSState a0)] 9 [(2, vP [2] (0)), (3, vP [3] (0)), (5, vP [2] (1)), (6, vL encSObject a0.Objects), (7, .c (.clo 73 [.ptr [3] (0)]))] [8]) (aN) ?_
   refine Holds.seqJ (X := Unit) (fun v => (sg 19 [] [bx [3] [.int .i64 a1], bx [2] (encSState a0)] 9 [(2, vP [2] (0)), (3, vP [3] (0)), (5, vP [2] (1)), (6, vL encSObject a0.Objects), (7, .c (.clo 73 [.ptr [3] (0)]))] [8])) (fun v => zone_place_J3 = some r) ?_ ?_
   · refine Rg [.a, .a, .a] (sg 19 [(0, vL encSObject a0.Objects), (1, .c (.clo 73 [.ptr [3] (0)])), (7, vI (a0.Objects.length : Int)), (8, vI (0 : Int))] [bx [3] [.int .i64 a1], bx [2] (encSState a0)] 9 [(2, vP [2] (0)), (3, vP [3] (0)), (5, vP [2] (1)), (6, vL encSObject a0.Objects), (7, .c (.clo 73 [.ptr [3] (0)]))] [8]) (aN) ?_
     refine Holds.block ?_
     obtain ⟨oB7, hiB7, h⟩ := bS h
     refine Holds.iter (fun (v : Int) => (sg 19 [(0, vL encSObject a0.Objects), (1, .c (.clo 73 [.ptr [3] (0)])), (7, vI (a0.Objects.length : Int)), (8, vI v)] [bx [3] [.int .i64 a1], bx [2] (encSState a0)] 9 [(2, vP [2] (0)), (3, vP [3] (0)), (5, vP [2] (1)), (6, vL encSObject a0.Objects), (7, .c (.clo 73 [.ptr [3] (0)]))] [8])) hiB7 (lT) ?_
     rintro vt8_5 zB7 hzB7 hoB7
     replace hzB7 : zone_place_B7 a0 a1 vt8_5 = some zB7 := hzB7
     unfold zone_place_B7 at hzB7
     refine Rg [.a] (sg 19 [(0, vL encSObject a0.Objects), (1, .c (.clo 73 [.ptr [3] (0)])), (7, vI (a0.Objects.length : Int)), (8, vI vt8_5), (9, vB (decide (vt8_5 < (a0.Objects.length : Int))))] [bx [3] [.int .i64 a1], bx [2] (encSState a0)] 9 [(2, vP [2] (0)), (3, vP [3] (0)), (5, vP [2] (1)), (6, vL encSObject a0.Objects), (7, .c (.clo 73 [.ptr [3] (0)]))] [8]) (aN) ?_
     refine Holds.seq ?_
     refine iB hzB7 (fun b8 hzB7 => ?_) (fun b8 hzB7 => ?_)
     · refine Holds.skip ?_
       refine Tn ?_
       refine Holds.seq ?_
       refine Holds.block ?_
       refine Rg [.a, .a] (sg 19 [(0, vL encSObject a0.Objects), (1, .c (.clo 73 [.ptr [3] (0)])), (5, vI vt8_5), (7, vI (a0.Objects.length : Int)), (8, vI vt8_5)] [bx [3] [.int .i64 a1], bx [2] (encSState a0)] 9 [(2, vP [2] (0)), (3, vP [3] (0)), (5, vP [2] (1)), (6, vL encSObject a0.Objects), (7, .c (.clo 73 [.ptr [3] (0)]))] [8]) (aN) ?_
       refine Holds.seq ?_
       refine Holds.region ?_
       obtain ⟨e9, he9, hzB7⟩ := bS hzB7
       refine Rp 5 [.a, .a, .a, .a, (.v (vA encSObject e9))] (sg 19 [(0, vL encSObject a0.Objects), (1, .c (.clo 73 [.ptr [3] (0)])), (5, vI vt8_5), (7, vI (a0.Objects.length : Int)), (8, vI vt8_5), (11, .c (.clo 73 [.ptr [3] (0)])), (12, vL encSObject a0.Objects), (13, vI vt8_5), (14, vX encSObject a0.Objects ((vt8_5).toNat * 19)), (15, vA encSObject e9)] [bx [3] [.int .i64 a1], bx [2] (encSState a0)] 9 [(2, vP [2] (0)), (3, vP [3] (0)), (5, vP [2] (1)), (6, vL encSObject a0.Objects), (7, .c (.clo 73 [.ptr [3] (0)]))] [8]) (aC (idx_b he9) <| aC (eld he9 lenSObject 0 19 true (vA encSObject e9)) <| aC (Eq.refl (vA encSObject e9)) <| aN) ?_
       refine Run.inl rfl rfl (Esc.inline (s := True ∧ True) (vs := [vA encSObject e9]) (cs := [.ptr [3] (0)]) 16 rfl rfl rfl (by kernel_rfl) ⟨trivial, trivial⟩ (by kernel_rfl) (by kernel_rfl) Tryz.func73 rfl Tryz.ntmps73 (rs := [.tmp 3]) rfl ?_)
       intro w09 av9 old9 gv9
       refine At (sg 8 [(0, vA encSObject e9), (1, vP [3] (0))] [bx [3] [.int .i64 a1], bx [2] (encSState a0)] 28 [(0, vL encSObject a0.Objects), (1, .c (.clo 73 [.ptr [3] (0)])), (5, vI vt8_5), (7, vI (a0.Objects.length : Int)), (8, vI vt8_5), (11, .c (.clo 73 [.ptr [3] (0)])), (12, vL encSObject a0.Objects), (13, vI vt8_5), (14, vX encSObject a0.Objects ((vt8_5).toNat * 19)), (15, vA encSObject e9), (21, vP [2] (0)), (22, vP [3] (0)), (24, vP [2] (1)), (25, vL encSObject a0.Objects), (26, .c (.clo 73 [.ptr [3] (0)]))] [16, 8]) ?_
       refine Rg [.a, .a] (sg 8 [(1, vP [3] (0)), (2, vP [2, 16, 8] (0))] [bx [2, 16, 8] (encSObject e9), bx [3] [.int .i64 a1], bx [2] (encSState a0)] 28 [(0, vL encSObject a0.Objects), (1, .c (.clo 73 [.ptr [3] (0)])), (5, vI vt8_5), (7, vI (a0.Objects.length : Int)), (8, vI vt8_5), (11, .c (.clo 73 [.ptr [3] (0)])), (12, vL encSObject a0.Objects), (13, vI vt8_5), (14, vX encSObject a0.Objects ((vt8_5).toNat * 19)), (15, vA encSObject e9), (21, vP [2] (0)), (22, vP [3] (0)), (24, vP [2] (1)), (25, vL encSObject a0.Objects), (26, .c (.clo 73 [.ptr [3] (0)]))] [16, 8]) (aN) ?_
       refine Rg [.a, .a, .a, .a, .a] (sg 8 [(3, vB (e9.Id == a1))] [bx [3] [.int .i64 a1], bx [2] (encSState a0)] 28 [(0, vL encSObject a0.Objects), (1, .c (.clo 73 [.ptr [3] (0)])), (5, vI vt8_5), (7, vI (a0.Objects.length : Int)), (8, vI vt8_5), (11, .c (.clo 73 [.ptr [3] (0)])), (12, vL encSObject a0.Objects), (13, vI vt8_5), (14, vX encSObject a0.Objects ((vt8_5).toNat * 19)), (15, vA encSObject e9), (21, vP [2] (0)), (22, vP [3] (0)), (24, vP [2] (1)), (25, vL encSObject a0.Objects), (26, .c (.clo 73 [.ptr [3] (0)]))] [16, 8]) (aN) ?_
       refine Holds.ret ?_
       refine inQ.ret (v := vB (e9.Id == a1)) (by kernel_rfl) ?_
       refine Rw [] (sg 19 [(0, vL encSObject a0.Objects), (1, .c (.clo 73 [.ptr [3] (0)])), (5, vI vt8_5), (7, vI (a0.Objects.length : Int)), (8, vI vt8_5), (11, .c (.clo 73 [.ptr [3] (0)])), (12, vL encSObject a0.Objects), (13, vI vt8_5), (14, vX encSObject a0.Objects ((vt8_5).toNat * 19)), (15, vA encSObject e9), (16, vB (e9.Id == a1))] [bx [3] [.int .i64 a1], bx [2] (encSState a0)] 9 [(2, vP [2] (0)), (3, vP [3] (0)), (5, vP [2] (1)), (6, vL encSObject a0.Objects), (7, .c (.clo 73 [.ptr [3] (0)]))] [8]) (aN) ?_
       refine Tn ?_
       refine iB hzB7 (fun b10 hzB7 => ?_) (fun b10 hzB7 => ?_)
       · refine Rg [.a, .a] (sg 19 [(4, vI vt8_5)] [bx [3] [.int .i64 a1], bx [2] (encSState a0)] 9 [(2, vP [2] (0)), (3, vP [3] (0)), (5, vP [2] (1)), (6, vL encSObject a0.Objects), (7, .c (.clo 73 [.ptr [3] (0)]))] [8]) (aN) ?_
         refine Holds.ret ?_
         refine blockQ.ret ?_
         refine Tr ?_
         have hoB7_ := hoB7 _ (sI hzB7).symm
         subst hoB7_
         replace h := sumL h
         refine Tr ?_
         refine blockQ.ret ?_
         refine Tr ?_
         refine inQ.ret (v := vI vt8_5) (by kernel_rfl) ⟨vt8_5, h, lT⟩
       · refine Holds.skip ?_
         refine blockQ.normal ?_
         refine Tn ?_
         refine Re [.a, .a] (sg 19 [(0, vL encSObject a0.Objects), (1, .c (.clo 73 [.ptr [3] (0)])), (5, vI vt8_5), (7, vI (a0.Objects.length : Int)), (8, vI (wrap64 (vt8_5 + (1 : Int)))), (11, .c (.clo 73 [.ptr [3] (0)])), (12, vL encSObject a0.Objects), (13, vI vt8_5), (14, vX encSObject a0.Objects ((vt8_5).toNat * 19)), (15, vA encSObject e9), (16, vB (e9.Id == a1)), (18, vI (wrap64 (vt8_5 + (1 : Int))))] [bx [3] [.int .i64 a1], bx [2] (encSState a0)] 9 [(2, vP [2] (0)), (3, vP [3] (0)), (5, vP [2] (1)), (6, vL encSObject a0.Objects), (7, .c (.clo 73 [.ptr [3] (0)]))] [8]) (aN) ?_
         refine Tn ⟨(wrap64 (vt8_5 + (1 : Int))), (sI hzB7).symm, lT⟩
     · refine Holds.exit ?_
       refine thenQ.exit ?_
       have hoB7_ := hoB7 _ (sI hzB7).symm
       subst hoB7_
       replace h := sumR h
       refine thenQ.exit ?_
       refine blockQ.out ?_
       refine Tn ⟨(), h, lT⟩
   · rintro _ hJ3
     replace hJ3 : zone_place_J3 = some r := hJ3
     unfold zone_place_J3 at hJ3
     refine Rg [.a] (sg 19 [(4, vI (-1 : Int))] [bx [3] [.int .i64 a1], bx [2] (encSState a0)] 9 [(2, vP [2] (0)), (3, vP [3] (0)), (5, vP [2] (1)), (6, vL encSObject a0.Objects), (7, .c (.clo 73 [.ptr [3] (0)]))] [8]) (aN) ?_
     refine Holds.ret ?_
     refine inQ.ret (v := vI (-1 : Int)) (by kernel_rfl) ⟨(-1 : Int), hJ3, lT⟩
 · rintro vt8_1 hJ2
   replace hJ2 : zone_place_J2 vt8_1 = some r := hJ2
   unfold zone_place_J2 at hJ2
   refine Rw [.a] (sl 9 [(4, vI vt8_1), (8, vI vt8_1)] []) (aN) ?_
   refine Tn ?_
   refine Holds.ret ?_
   exact bQ (vI vt8_1) (congrArg vI (sI hJ2))
/-- cardgame/event.amount -/
def event_amount (a0 : SEvent) : Option (Bool) :=
 (some (if (decide ((1 : Int) ≤ a0.Amount)) = true then decide (a0.Amount ≤ (1000000 : Int)) else false)).bind fun b1 =>
 some b1
def event_amount_C (a0 : SEvent) (r : Bool) : Prop := PCall Tryz.prog I0 23 [vA encSEvent a0] (· = vB r)
theorem event_amount_ok {a0 : SEvent} {r : Bool} (h : event_amount a0 = some r) : event_amount_C a0 r := by
 refine PCall.body I0_stable (by kernel_rfl) Tryz.func23 rfl Tryz.ntmps23 (rs := [.tmp 2]) rfl rfl ?_
 intro w0 av old gv
 unfold event_amount at h
 refine Rg [.a, .a] (sl 11 [(1, vP [1] (0))] [bx [1] (encSEvent a0)]) (aN) ?_
 obtain ⟨b1, hb1, h⟩ := bS h
 refine Rg [.a, .a, .a, .a, .a, .a, .a, (.v (vB b1)), .a] (sl 11 [(2, vB b1)] []) (aG ((decide ((1 : Int) ≤ a0.Amount)) == true) <| aG ((decide ((1 : Int) ≤ a0.Amount)) == true) <| aT (decide ((1 : Int) ≤ a0.Amount)) <| aB hb1 <| aN) ?_
 refine Holds.ret ?_
 exact bQ (vB b1) (congrArg vB (sI h))
/-- cardgame/event.living -/
def event_living (a0 : SState) (a1 : Int) : Option (Bool) :=
 (some (if (decide ((0 : Int) ≤ a1)) = true then decide (a1 < (a0.Players.length : Int)) else false)).bind fun b1 =>
 (gd (b1 == true) (idx a0.Players a1)).bind fun e2 =>
 (some (if b1 = true then !e2.Lost else false)).bind fun b3 =>
 some b3
def event_living_C (a0 : SState) (a1 : Int) (r : Bool) : Prop := PCall Tryz.prog I0 22 [vA encSState a0, vI a1] (· = vB r)
theorem event_living_ok {a0 : SState} {a1 : Int} {r : Bool} (h : event_living a0 a1 = some r) : event_living_C a0 a1 r := by
 refine PCall.body I0_stable (by kernel_rfl) Tryz.func22 rfl Tryz.ntmps22 (rs := [.tmp 4]) rfl rfl ?_
 intro w0 av old gv
 unfold event_living at h
 refine Rg [.a, .a] (sl 23 [(1, vI a1), (2, vP [2] (0))] [bx [2] (encSState a0)]) (aN) ?_
 obtain ⟨b1, hb1, h⟩ := bS h
 obtain ⟨e2, he2, h⟩ := bS h
 obtain ⟨b3, hb3, h⟩ := bS h
 refine Rg [.a, .a, .a, .a, .a, .a, .a, .a, (.v (vB b1)), .a, .a, .a, .a, .a, .a, (.v (vB e2.Lost)), .a, (.v (vB b3)), .a] (sl 23 [(4, vB b3)] []) (aG ((decide ((0 : Int) ≤ a1)) == true) <| aG ((decide ((0 : Int) ≤ a1)) == true) <| aH ((decide ((0 : Int) ≤ a1)) == true) <| aT (decide ((0 : Int) ≤ a1)) <| aB hb1 <| aG (b1 == true) <| aC (fun hg : (b1 == true) = true => aC (gi (b1 == true)) <| aC (gi (b1 == true)) <| aC (gidx_b he2 hg).1 <| aN) <| aG (b1 == true) <| aC (fun hg : (b1 == true) = true => aC (gi (b1 == true)) <| aC (eld (gd_t he2 hg) lenSPlayer 10 1 false (vB e2.Lost)) <| aC (Eq.refl (vB e2.Lost)) <| aN) <| aG (b1 == true) <| aT b1 <| aB hb3 <| aN) ?_
 refine Holds.ret ?_
 exact bQ (vB b3) (congrArg vB (sI h))
def event_aboutObject_J1  : Option (Bool) :=
 some true
/-- cardgame/event.aboutObject -/
def event_aboutObject (a0 : SEvent) : Option (Bool) :=
 (if (a0.Kind == (1 : Int)) = true then
  some (a0.Object != (0 : Int))
 else
  (if (a0.Kind == (2 : Int)) = true then
   (some (if (a0.From == (0 : Int)) = true then true else a0.To == (0 : Int))).bind fun b4 =>
   some b4
  else
   (if (a0.Kind == (6 : Int)) = true then
    event_aboutObject_J1
   else
    (if (a0.Kind == (7 : Int)) = true then
     event_aboutObject_J1
    else
     (if (a0.Kind == (8 : Int)) = true then
      event_aboutObject_J1
     else
      (if (a0.Kind == (9 : Int)) = true then
       event_aboutObject_J1
      else
       some false))))))
def event_aboutObject_C (a0 : SEvent) (r : Bool) : Prop := PCall Tryz.prog I0 33 [vA encSEvent a0] (· = vB r)
theorem event_aboutObject_ok {a0 : SEvent} {r : Bool} (h : event_aboutObject a0 = some r) : event_aboutObject_C a0 r := by
 refine PCall.body I0_stable (by kernel_rfl) Tryz.func33 rfl Tryz.ntmps33 (rs := [.tmp 2]) rfl rfl ?_
 intro w0 av old gv
 unfold event_aboutObject at h
 refine Rg [.a, .a] (sl 28 [(1, vP [1] (0))] [bx [1] (encSEvent a0)]) (aN) ?_
 refine Holds.seq ?_
 refine Rg [.a, .a] (sl 28 [(1, vP [1] (0)), (4, vI a0.Kind)] [bx [1] (encSEvent a0)]) (aN) ?_
 refine Holds.block ?_
 refine Holds.seqJ (X := Unit) (fun v => (sl 28 [] [])) (fun v => event_aboutObject_J1 = some r) ?_ ?_
 · refine Holds.block ?_
   refine Holds.block ?_
   refine Holds.block ?_
   refine Holds.block ?_
   refine Holds.seq ?_
   refine Holds.block ?_
   refine Holds.seq ?_
   refine Holds.block ?_
   refine Holds.seq ?_
   refine Holds.seq ?_
   refine Rg [.a, .a] (sl 28 [(1, vP [1] (0)), (4, vI a0.Kind), (5, vB (a0.Kind == (1 : Int)))] [bx [1] (encSEvent a0)]) (aN) ?_
   refine iB h (fun b2 h => ?_) (fun b2 h => ?_)
   · refine Holds.exit ?_
     refine thenQ.exit ?_
     refine thenQ.exit ?_
     refine blockQ.out ?_
     refine Tn ?_
     refine Holds.seq ?_
     refine Rg [.a, .a, .a, .a] (sl 28 [(2, vB (a0.Object != (0 : Int)))] []) (aN) ?_
     refine Holds.ret ?_
     refine Tr ?_
     refine blockQ.ret ?_
     refine Tr ?_
     refine blockQ.ret ?_
     refine blockQ.ret ?_
     refine blockQ.ret ?_
     refine blockQ.ret ?_
     refine Tr ?_
     refine blockQ.ret ?_
     refine Tr ?_
     exact bQ (vB (a0.Object != (0 : Int))) (congrArg vB (sI h))
   · refine Holds.skip ?_
     refine Tn ?_
     refine Holds.seq ?_
     refine Rg [.a, .a] (sl 28 [(1, vP [1] (0)), (4, vI a0.Kind), (7, vB (a0.Kind == (2 : Int)))] [bx [1] (encSEvent a0)]) (aN) ?_
     refine iB h (fun b3 h => ?_) (fun b3 h => ?_)
     · refine Holds.exit ?_
       refine thenQ.exit ?_
       refine thenQ.exit ?_
       refine blockQ.on rfl ?_
       refine thenQ.exit ?_
       refine blockQ.out ?_
       refine Tn ?_
       refine Holds.seq ?_
       obtain ⟨b4, hb4, h⟩ := bS h
       refine Rg [.a, .a, .a, .a, .a, .a, .a, (.v (vB b4)), .a] (sl 28 [(2, vB b4)] []) (aG ((a0.From == (0 : Int)) == false) <| aG ((a0.From == (0 : Int)) == false) <| aF (a0.From == (0 : Int)) <| aB hb4 <| aN) ?_
       refine Holds.ret ?_
       refine Tr ?_
       refine blockQ.ret ?_
       refine blockQ.ret ?_
       refine blockQ.ret ?_
       refine blockQ.ret ?_
       refine Tr ?_
       refine blockQ.ret ?_
       refine Tr ?_
       exact bQ (vB b4) (congrArg vB (sI h))
     · refine Holds.skip ?_
       refine Tn ?_
       refine Holds.seq ?_
       refine Rg [.a, .a] (sl 28 [(4, vI a0.Kind), (9, vB (a0.Kind == (6 : Int)))] []) (aN) ?_
       refine iB h (fun b5 h => ?_) (fun b5 h => ?_)
       · refine Holds.exit ?_
         refine thenQ.exit ?_
         refine thenQ.exit ?_
         refine blockQ.on rfl ?_
         refine thenQ.exit ?_
         refine blockQ.on rfl ?_
         refine thenQ.exit ?_
         refine blockQ.out ?_
         refine blockQ.normal ?_
         refine blockQ.normal ?_
         refine blockQ.normal ?_
         refine Tn ⟨(), h, lT⟩
       · refine Holds.skip ?_
         refine Tn ?_
         refine Holds.seq ?_
         refine Rg [.a, .a] (sl 28 [(4, vI a0.Kind), (11, vB (a0.Kind == (7 : Int)))] []) (aN) ?_
         refine iB h (fun b6 h => ?_) (fun b6 h => ?_)
         · refine Holds.exit ?_
           refine thenQ.exit ?_
           refine thenQ.exit ?_
           refine blockQ.on rfl ?_
           refine thenQ.exit ?_
           refine blockQ.on rfl ?_
           refine thenQ.exit ?_
           refine blockQ.on rfl ?_
           refine blockQ.out ?_
           refine blockQ.normal ?_
           refine blockQ.normal ?_
           refine Tn ⟨(), h, lT⟩
         · refine Holds.skip ?_
           refine Tn ?_
           refine Holds.seq ?_
           refine Rg [.a, .a] (sl 28 [(4, vI a0.Kind), (13, vB (a0.Kind == (8 : Int)))] []) (aN) ?_
           refine iB h (fun b7 h => ?_) (fun b7 h => ?_)
           · refine Holds.exit ?_
             refine thenQ.exit ?_
             refine thenQ.exit ?_
             refine blockQ.on rfl ?_
             refine thenQ.exit ?_
             refine blockQ.on rfl ?_
             refine thenQ.exit ?_
             refine blockQ.on rfl ?_
             refine blockQ.on rfl ?_
             refine blockQ.out ?_
             refine blockQ.normal ?_
             refine Tn ⟨(), h, lT⟩
           · refine Holds.skip ?_
             refine Tn ?_
             refine Rg [.a, .a] (sl 28 [(15, vB (a0.Kind == (9 : Int)))] []) (aN) ?_
             refine iB h (fun b8 h => ?_) (fun b8 h => ?_)
             · refine Holds.exit ?_
               refine thenQ.exit ?_
               refine blockQ.on rfl ?_
               refine thenQ.exit ?_
               refine blockQ.on rfl ?_
               refine thenQ.exit ?_
               refine blockQ.on rfl ?_
               refine blockQ.on rfl ?_
               refine blockQ.on rfl ?_
               refine blockQ.out ?_
               refine Tn ⟨(), h, lT⟩
             · refine Holds.skip ?_
               refine Tn ?_
               refine Holds.exit ?_
               refine blockQ.on rfl ?_
               refine thenQ.exit ?_
               refine blockQ.on rfl ?_
               refine thenQ.exit ?_
               refine blockQ.on rfl ?_
               refine blockQ.on rfl ?_
               refine blockQ.on rfl ?_
               refine blockQ.on rfl ?_
               refine thenQ.exit ?_
               refine blockQ.out ?_
               refine Tn ?_
               refine Rg [.a] (sl 28 [(2, vB false)] []) (aN) ?_
               refine Holds.ret ?_
               exact bQ (vB false) (congrArg vB (sI h))
 · rintro _ hJ1
   replace hJ1 : event_aboutObject_J1 = some r := hJ1
   unfold event_aboutObject_J1 at hJ1
   refine Holds.seq ?_
   refine Rg [.a] (sl 28 [(2, vB true)] []) (aN) ?_
   refine Holds.ret ?_
   refine Tr ?_
   refine blockQ.ret ?_
   refine Tr ?_
   exact bQ (vB true) (congrArg vB (sI hJ1))
/-- cardgame/cardgameref32.living -/
def r32_living (a0 : SState) (a1 : Int) : Option (Bool) :=
 (some (if (decide ((0 : Int) ≤ a1)) = true then decide (a1 < (a0.Players.length : Int)) else false)).bind fun b1 =>
 (gd (b1 == true) (idx a0.Players a1)).bind fun e2 =>
 (some (if b1 = true then !e2.Lost else false)).bind fun b3 =>
 some b3
/-- cardgame/cardgameref32.amount -/
def r32_amount (a0 : Int) : Option (Bool) :=
 (some (if (decide ((1 : Int) ≤ a0)) = true then decide (a0 ≤ (1000000 : Int)) else false)).bind fun b1 =>
 some b1
end Go.PL
