/- Functions of the program, as partial functions in Lean, with proofs. -/
import Derived.Test.YtedobbmpljbccaaGreatDoorPlDkB
import Derived.Test.YtedobbmpljbccaaGreatDoorPlDkF0
import Derived.Test.YtedobbmpljbccaaGreatDoorPlDkF1
namespace Go.PL
open Go Go.RowKit Go.Proofs
set_option maxRecDepth 100000
set_option linter.all false
set_option maxHeartbeats 1000000
attribute [local irreducible] Holds thenQ blockQ
def r02_Is_J8  : Option (Bool) :=
 some true
def r02_Is_B11 (a0 : List UInt8) (i_t3_10 : Int) : Option ((Int) ⊕ (Unit ⊕ Unit)) :=
 (if (decide (i_t3_10 < (a0.length : Int))) = true then
  (sidx a0 i_t3_10).bind fun c13 =>
  (r02_low c13).bind fun r14 =>
  (gd ((!r14) == true) (sidx a0 i_t3_10)).bind fun c15 =>
  (gd (((!r14) == true) && ((decide (c15 < (48 : Int))) == false)) (sidx a0 i_t3_10)).bind fun c16 =>
  (some (if (decide (c15 < (48 : Int))) = true then true else decide ((57 : Int) < c16))).bind fun b17 =>
  (some (if (!r14) = true then b17 else false)).bind fun b18 =>
  (gd (b18 == true) (sidx a0 i_t3_10)).bind fun c19 =>
  (some (if b18 = true then c19 != (45 : Int) else false)).bind fun b20 =>
  (if b20 = true then
   some (.inr (.inl ()))
  else
   (gd ((decide ((0 : Int) < i_t3_10)) == true) (sidx a0 i_t3_10)).bind fun c22 =>
   (some (if (decide ((0 : Int) < i_t3_10)) = true then c22 == (45 : Int) else false)).bind fun b23 =>
   (gd (b23 == true) (sidx a0 (wrap64 (i_t3_10 - (1 : Int))))).bind fun c24 =>
   (some (if b23 = true then c24 == (45 : Int) else false)).bind fun b25 =>
   (if b25 = true then
    some (.inr (.inl ()))
   else
    some (.inl (wrap64 (i_t3_10 + (1 : Int))))))
 else
  some (.inr (.inr ())))
/-- cardgame/cardgameref02.Is -/
def r02_Is (a0 : List UInt8) : Option (Bool) :=
 (some (if (decide ((a0.length : Int) < (1 : Int))) = true then true else decide ((32 : Int) < (a0.length : Int)))).bind fun b1 =>
 (gd (b1 == false) (sidx a0 (0 : Int))).bind fun c2 =>
 (gd (b1 == false) (r02_low c2)).bind fun r3 =>
 (some (if b1 = true then true else !r3)).bind fun b4 =>
 (gd (b4 == false) (sidx a0 (wrap64 ((a0.length : Int) - (1 : Int))))).bind fun c5 =>
 (some (if b4 = true then true else c5 == (45 : Int))).bind fun b6 =>
 (if b6 = true then
  some false
 else
  (iter (fun (v : Int) => r02_Is_B11 a0 v) FU (0 : Int)).bind (Sum.elim (fun o0 => some false) (fun o1 => r02_Is_J8)))
def r02_Is_C (a0 : List UInt8) (r : Bool) : Prop := PCall Tryz.prog I0 55 [vS a0] (· = vB r)
theorem r02_Is_ok {a0 : List UInt8} {r : Bool} (h : r02_Is a0 = some r) : r02_Is_C a0 r := by
 refine PCall.body I0_stable (by kernel_rfl) Tryz.func55 rfl Tryz.ntmps55 (rs := [.tmp 2]) rfl rfl ?_
 intro w0 av old gv
 unfold r02_Is at h
 refine Rg [.a] (sl 70 [(0, vS a0)] []) (aN) ?_
 refine Holds.seq ?_
 obtain ⟨b1, hb1, h⟩ := bS h
 obtain ⟨c2, hc2, h⟩ := bS h
 obtain ⟨r3, hr3, h⟩ := bS h
 obtain ⟨b4, hb4, h⟩ := bS h
 obtain ⟨c5, hc5, h⟩ := bS h
 obtain ⟨b6, hb6, h⟩ := bS h
 refine Rg [.a, .a, .a, .a, .a, .a, .a, (.v (vB b1)), .a, .a, (.v (.c (.int .u8 c2))), (.c (vB r3)), .a, (.v (vB b4)), .a, .a, .a, .a, .a, (.v (.c (.int .u8 c5))), .a, (.v (vB b6))] (sl 70 [(0, vS a0), (25, vB b6)] []) (aG ((decide ((a0.length : Int) < (1 : Int))) == false) <| aG ((decide ((a0.length : Int) < (1 : Int))) == false) <| aF (decide ((a0.length : Int) < (1 : Int))) <| aB hb1 <| aC (fun hg : (b1 == false) = true => aC (gi (b1 == false)) <| aC (sidx_b (gd_t hc2 hg)) <| aC (congrArg (fun z => V.c (.int .u8 z)) (sidx_x (gd_t hc2 hg)).symm) <| aN) <| aC (c1 hr3 r02_low_ok) <| aG (b1 == false) <| aF b1 <| aB hb4 <| aG (b4 == false) <| aG (b4 == false) <| aC (fun hg : (b4 == false) = true => aC (gi (b4 == false)) <| aC (gi (b4 == false)) <| aC (sidx_b (gd_t hc5 hg)) <| aC (congrArg (fun z => V.c (.int .u8 z)) (sidx_x (gd_t hc5 hg)).symm) <| aN) <| aG (b4 == false) <| aF b4 <| aB hb6 <| aN) ?_
 refine iB h (fun b7 h => ?_) (fun b7 h => ?_)
 · refine Rg [.a] (sl 70 [(2, vB false)] []) (aN) ?_
   refine Holds.ret ?_
   refine Tr ?_
   exact bQ (vB false) (congrArg vB (sI h))
 · refine Holds.skip ?_
   refine Tn ?_
   refine Sj (X := Unit) (fun v => (sl 70 [] [])) (fun v => r02_Is_J8 = some r) ?_ ?_
   · refine Rg [.a] (sl 70 [(0, vS a0), (3, vI (0 : Int))] []) (aN) ?_
     refine Holds.block ?_
     obtain ⟨oB11, hiB11, h⟩ := bS h
     refine It (fun (v : Int) => (sl 70 [(0, vS a0), (3, vI v)] [])) hiB11 (wT) ?_
     rintro i_t3_10 zB11 hzB11 hoB11
     replace hzB11 : r02_Is_B11 a0 i_t3_10 = some zB11 := hzB11
     unfold r02_Is_B11 at hzB11
     refine Holds.seq ?_
     refine Rg [.a, .a, .a, .a] (sl 70 [(0, vS a0), (3, vI i_t3_10), (29, vB (decide (i_t3_10 < (a0.length : Int))))] []) (aN) ?_
     refine iB hzB11 (fun b12 hzB11 => ?_) (fun b12 hzB11 => ?_)
     · refine Holds.skip ?_
       refine Tn ?_
       refine Holds.seq ?_
       refine Holds.block ?_
       refine Holds.seq ?_
       obtain ⟨c13, hc13, hzB11⟩ := bS hzB11
       obtain ⟨r14, hr14, hzB11⟩ := bS hzB11
       obtain ⟨c15, hc15, hzB11⟩ := bS hzB11
       obtain ⟨c16, hc16, hzB11⟩ := bS hzB11
       obtain ⟨b17, hb17, hzB11⟩ := bS hzB11
       obtain ⟨b18, hb18, hzB11⟩ := bS hzB11
       obtain ⟨c19, hc19, hzB11⟩ := bS hzB11
       obtain ⟨b20, hb20, hzB11⟩ := bS hzB11
       refine Rg [.a, .a, (.v (.c (.int .u8 c13))), (.c (vB r14)), .a, .a, .a, .a, (.v (.c (.int .u8 c15))), .a, .a, .a, .a, (.v (.c (.int .u8 c16))), .a, (.v (vB b17)), (.v (vB b18)), .a, .a, .a, (.v (.c (.int .u8 c19))), .a, (.v (vB b20))] (sl 70 [(0, vS a0), (3, vI i_t3_10), (54, vB b20)] []) (aC (sidx_b hc13) <| aC (congrArg (fun z => V.c (.int .u8 z)) (sidx_x hc13).symm) <| aC (r02_low_ok hr14) <| aC (fun hg : ((!r14) == true) = true => aC (gi ((!r14) == true)) <| aC (gi ((!r14) == true)) <| aC (sidx_b (gd_t hc15 hg)) <| aC (congrArg (fun z => V.c (.int .u8 z)) (sidx_x (gd_t hc15 hg)).symm) <| aN) <| aG ((!r14) == true) <| aG ((!r14) == true) <| aC (fun hg : (((!r14) == true) && ((decide (c15 < (48 : Int))) == false)) = true => aC (gi (((!r14) == true) && ((decide (c15 < (48 : Int))) == false))) <| aC (gi (((!r14) == true) && ((decide (c15 < (48 : Int))) == false))) <| aC (sidx_b (gd_t hc16 hg)) <| aC (congrArg (fun z => V.c (.int .u8 z)) (sidx_x (gd_t hc16 hg)).symm) <| aN) <| aG (((!r14) == true) && ((decide (c15 < (48 : Int))) == false)) <| aC (fun hg : ((!r14) == true) = true => aC (gi ((!r14) == true)) <| aC (fun q : (decide (c15 < (48 : Int))) = false => (gA hg (gF q))) <| aB hb17 <| aN) <| aT (!r14) <| aB hb18 <| aC (fun hg : (b18 == true) = true => aC (gi (b18 == true)) <| aC (gi (b18 == true)) <| aC (sidx_b (gd_t hc19 hg)) <| aC (congrArg (fun z => V.c (.int .u8 z)) (sidx_x (gd_t hc19 hg)).symm) <| aN) <| aG (b18 == true) <| aT b18 <| aB hb20 <| aN) ?_
       refine iB hzB11 (fun b21 hzB11 => ?_) (fun b21 hzB11 => ?_)
       · refine Rg [.a] (sl 70 [(2, vB false)] []) (aN) ?_
         refine Holds.ret ?_
         refine Tr ?_
         refine blockQ.ret ?_
         refine Tr ?_
         have hoB11_ := hoB11 _ (sI hzB11).symm
         subst hoB11_
         replace h := sumL h
         refine Tr ?_
         refine blockQ.ret ?_
         refine Tr ?_
         exact bQ (vB false) (congrArg vB (sI h))
       · refine Holds.skip ?_
         refine Tn ?_
         obtain ⟨c22, hc22, hzB11⟩ := bS hzB11
         obtain ⟨b23, hb23, hzB11⟩ := bS hzB11
         obtain ⟨c24, hc24, hzB11⟩ := bS hzB11
         obtain ⟨b25, hb25, hzB11⟩ := bS hzB11
         refine Rg [.a, .a, .a, .a, .a, (.v (.c (.int .u8 c22))), .a, (.v (vB b23)), .a, .a, .a, .a, (.v (.c (.int .u8 c24))), .a, (.v (vB b25))] (sl 70 [(0, vS a0), (3, vI i_t3_10), (69, vB b25)] []) (aC (fun hg : ((decide ((0 : Int) < i_t3_10)) == true) = true => aC (gi ((decide ((0 : Int) < i_t3_10)) == true)) <| aC (gi ((decide ((0 : Int) < i_t3_10)) == true)) <| aC (sidx_b (gd_t hc22 hg)) <| aC (congrArg (fun z => V.c (.int .u8 z)) (sidx_x (gd_t hc22 hg)).symm) <| aN) <| aG ((decide ((0 : Int) < i_t3_10)) == true) <| aT (decide ((0 : Int) < i_t3_10)) <| aB hb23 <| aG (b23 == true) <| aC (fun hg : (b23 == true) = true => aC (gi (b23 == true)) <| aC (gi (b23 == true)) <| aC (sidx_b (gd_t hc24 hg)) <| aC (congrArg (fun z => V.c (.int .u8 z)) (sidx_x (gd_t hc24 hg)).symm) <| aN) <| aG (b23 == true) <| aT b23 <| aB hb25 <| aN) ?_
         refine iB hzB11 (fun b26 hzB11 => ?_) (fun b26 hzB11 => ?_)
         · refine Rg [.a] (sl 70 [(2, vB false)] []) (aN) ?_
           refine Holds.ret ?_
           refine blockQ.ret ?_
           refine Tr ?_
           have hoB11_ := hoB11 _ (sI hzB11).symm
           subst hoB11_
           replace h := sumL h
           refine Tr ?_
           refine blockQ.ret ?_
           refine Tr ?_
           exact bQ (vB false) (congrArg vB (sI h))
         · refine Holds.skip ?_
           refine blockQ.normal ?_
           refine Tn ?_
           refine Re [.a, .a, .a] (sl 70 [(0, vS a0), (3, vI (wrap64 (i_t3_10 + (1 : Int)))), (30, vI i_t3_10), (31, vI (wrap64 (i_t3_10 + (1 : Int)))), (69, vB b25)] []) (aN) ?_
           refine Tn ⟨(wrap64 (i_t3_10 + (1 : Int))), (sI hzB11).symm, wT⟩
     · refine Holds.exit ?_
       refine thenQ.exit ?_
       have hoB11_ := hoB11 _ (sI hzB11).symm
       subst hoB11_
       replace h := sumR h
       refine thenQ.exit ?_
       refine blockQ.out ?_
       refine Tn ⟨(), h, wT⟩
   · rintro _ hJ8
     replace hJ8 : r02_Is_J8 = some r := hJ8
     unfold r02_Is_J8 at hJ8
     refine Rg [.a] (sl 70 [(2, vB true)] []) (aN) ?_
     refine Holds.ret ?_
     exact bQ (vB true) (congrArg vB (sI hJ8))
def r10_joined_J2  (s_t7_1 : List UInt8) : Option ((List UInt8)) :=
 some s_t7_1
def r10_joined_J11 (i_t8_6 : Int) (s_t7_10 : List UInt8) : Option (((List UInt8) × Int) ⊕ ((List UInt8))) :=
 some (.inl (s_t7_10, (wrap64 (i_t8_6 + (1 : Int)))))
def r10_joined_J15 (a0 : List (List UInt8)) (i_t8_6 : Int) (s_t7_14 : List UInt8) : Option (((List UInt8) × Int) ⊕ ((List UInt8))) :=
 (idx a0 i_t8_6).bind fun e16 =>
 (cat s_t7_14 e16).bind fun s17 =>
 r10_joined_J11 i_t8_6 s17
def r10_joined_B8 (a0 : List (List UInt8)) (a1 : Int) (a2 : List UInt8) (s_t7_5 : List UInt8) (i_t8_6 : Int) : Option (((List UInt8) × Int) ⊕ ((List UInt8))) :=
 (if (decide (i_t8_6 < (a0.length : Int))) = true then
  (r10_bit a1 i_t8_6).bind fun r12 =>
  (if r12 = true then
   (if (s_t7_5 != ([] : List UInt8)) = true then
    (cat s_t7_5 a2).bind fun s19 =>
    r10_joined_J15 a0 i_t8_6 s19
   else
    r10_joined_J15 a0 i_t8_6 s_t7_5)
  else
   r10_joined_J11 i_t8_6 s_t7_5)
 else
  some (.inr s_t7_5))
/-- cardgame/cardgameref10.joined -/
def r10_joined (a0 : List (List UInt8)) (a1 : Int) (a2 : List UInt8) : Option ((List UInt8)) :=
 (iter (fun (v : (List UInt8) × Int) => r10_joined_B8 a0 a1 a2 v.1 v.2) FU (([] : List UInt8), (0 : Int))).bind (fun o0 => r10_joined_J2 o0)
def r10_joined_C (a0 : List (List UInt8)) (a1 : Int) (a2 : List UInt8) (r : (List UInt8)) : Prop := PCall Tryz.prog I0 130 [vL eS a0, vI a1, vS a2] (· = vS r)
theorem r10_joined_ok {a0 : List (List UInt8)} {a1 : Int} {a2 : List UInt8} {r : (List UInt8)} (h : r10_joined a0 a1 a2 = some r) : r10_joined_C a0 a1 a2 r := by
 refine PCall.body I0_stable (by kernel_rfl) Tryz.func130 rfl Tryz.ntmps130 (rs := [.tmp 6]) rfl rfl ?_
 intro w0 av old gv
 unfold r10_joined at h
 refine Rg [.a] (sl 30 [(0, vL eS a0), (1, vI a1), (2, vS a2)] []) (aN) ?_
 refine Rg [.a] (sl 30 [(0, vL eS a0), (1, vI a1), (2, vS a2), (7, vS ([] : List UInt8))] []) (aN) ?_
 refine Sj (X := (List UInt8)) (fun v => (sl 30 [(7, vS v)] [])) (fun v => r10_joined_J2 v = some r) ?_ ?_
 · refine Rg [.a] (sl 30 [(0, vL eS a0), (1, vI a1), (2, vS a2), (7, vS ([] : List UInt8)), (8, vI (0 : Int))] []) (aN) ?_
   refine Holds.block ?_
   obtain ⟨oB8, hiB8, h⟩ := bS h
   refine It (fun (v : (List UInt8) × Int) => (sl 30 [(0, vL eS a0), (1, vI a1), (2, vS a2), (7, vS v.1), (8, vI v.2)] [])) hiB8 (wT) ?_
   rintro ⟨s_t7_5, i_t8_6⟩ zB8 hzB8 hoB8
   replace hzB8 : r10_joined_B8 a0 a1 a2 s_t7_5 i_t8_6 = some zB8 := hzB8
   unfold r10_joined_B8 at hzB8
   refine Holds.seq ?_
   refine Rg [.a, .a, .a, .a] (sl 30 [(0, vL eS a0), (1, vI a1), (2, vS a2), (7, vS s_t7_5), (8, vI i_t8_6), (12, vB (decide (i_t8_6 < (a0.length : Int))))] []) (aN) ?_
   refine iB hzB8 (fun b9 hzB8 => ?_) (fun b9 hzB8 => ?_)
   · refine Holds.skip ?_
     refine Tn ?_
     refine Sj (X := (List UInt8)) (fun v => (sl 30 [(0, vL eS a0), (1, vI a1), (2, vS a2), (7, vS v), (8, vI i_t8_6)] [])) (fun v => r10_joined_J11 i_t8_6 v = some zB8) ?_ ?_
     · refine Holds.block ?_
       obtain ⟨r12, hr12, hzB8⟩ := bS hzB8
       refine Rg [.a, .a, (.c (vB r12))] (sl 30 [(0, vL eS a0), (1, vI a1), (2, vS a2), (7, vS s_t7_5), (8, vI i_t8_6), (17, vB r12)] []) (aC (r10_bit_ok hr12) <| aN) ?_
       refine iB hzB8 (fun b13 hzB8 => ?_) (fun b13 hzB8 => ?_)
       · refine Sj (X := (List UInt8)) (fun v => (sl 30 [(0, vL eS a0), (1, vI a1), (2, vS a2), (7, vS v), (8, vI i_t8_6)] [])) (fun v => r10_joined_J15 a0 i_t8_6 v = some zB8) ?_ ?_
         · refine Rg [.a, .a] (sl 30 [(0, vL eS a0), (1, vI a1), (2, vS a2), (7, vS s_t7_5), (8, vI i_t8_6), (19, vB (s_t7_5 != ([] : List UInt8)))] []) (aN) ?_
           refine iB hzB8 (fun b18 hzB8 => ?_) (fun b18 hzB8 => ?_)
           · obtain ⟨s19, hs19, hzB8⟩ := bS hzB8
             refine Re [.a, .a, (.v (vS s19)), .a] (sl 30 [(0, vL eS a0), (1, vI a1), (2, vS a2), (7, vS s19), (8, vI i_t8_6), (19, vB (s_t7_5 != ([] : List UInt8))), (20, vS s_t7_5), (21, vS a2), (22, vS s19)] []) (aC (cat_b hs19) <| aC (congrArg (fun z => V.c (.str z)) (cat_x hs19).symm) <| aN) ?_
             refine Tn ⟨s19, hzB8, wT⟩
           · refine Holds.skip ?_
             refine Tn ⟨s_t7_5, hzB8, wT⟩
         · rintro s_t7_14 hJ15
           replace hJ15 : r10_joined_J15 a0 i_t8_6 s_t7_14 = some zB8 := hJ15
           unfold r10_joined_J15 at hJ15
           obtain ⟨e16, he16, hJ15⟩ := bS hJ15
           obtain ⟨s17, hs17, hJ15⟩ := bS hJ15
           refine Re [.a, .a, .a, .a, (.v (vS e16)), (.v (vS s17)), .a] (sl 30 [(0, vL eS a0), (1, vI a1), (2, vS a2), (7, vS s17), (8, vI i_t8_6), (23, vS s_t7_14), (24, vL eS a0), (25, vI i_t8_6), (26, vX eS a0 ((i_t8_6).toNat * 1)), (27, vS e16), (28, vS s17)] []) (aC (idx_b he16) <| aC (eld he16 lenS 0 1 false (vS e16)) <| aC (Eq.refl (vS e16)) <| aC (cat_b hs17) <| aC (congrArg (fun z => V.c (.str z)) (cat_x hs17).symm) <| aN) ?_
           refine blockQ.normal ?_
           refine Tn ⟨s17, hJ15, wT⟩
       · refine Holds.skip ?_
         refine blockQ.normal ?_
         refine Tn ⟨s_t7_5, hzB8, wT⟩
     · rintro s_t7_10 hJ11
       replace hJ11 : r10_joined_J11 i_t8_6 s_t7_10 = some zB8 := hJ11
       unfold r10_joined_J11 at hJ11
       refine Re [.a, .a, .a] (sl 30 [(0, vL eS a0), (1, vI a1), (2, vS a2), (7, vS s_t7_10), (8, vI (wrap64 (i_t8_6 + (1 : Int)))), (13, vI i_t8_6), (14, vI (wrap64 (i_t8_6 + (1 : Int))))] []) (aN) ?_
       refine Tn ⟨(s_t7_10, (wrap64 (i_t8_6 + (1 : Int)))), (sI hJ11).symm, wT⟩
   · refine Holds.exit ?_
     refine thenQ.exit ?_
     have hoB8_ := hoB8 _ (sI hzB8).symm
     subst hoB8_
     refine thenQ.exit ?_
     refine blockQ.out ?_
     refine Tn ⟨s_t7_5, h, wT⟩
 · rintro s_t7_1 hJ2
   replace hJ2 : r10_joined_J2 s_t7_1 = some r := hJ2
   unfold r10_joined_J2 at hJ2
   refine Rg [.a, .a] (sl 30 [(6, vS s_t7_1)] []) (aN) ?_
   refine Holds.ret ?_
   exact bQ (vS s_t7_1) (congrArg vS (sI hJ2))
def r09_Text_J5  (out_t3_4 : List UInt8) : Option ((List UInt8)) :=
 some out_t3_4
def r09_Text_J14 (i_t4_9 : Int) (out_t3_13 : List UInt8) : Option (((List UInt8) × Int) ⊕ ((List UInt8))) :=
 some (.inl (out_t3_13, (wrap64 (i_t4_9 + (1 : Int)))))
def r09_Text_J19 (i_t4_9 : Int) (out_t3_18 : List UInt8) : Option (((List UInt8) × Int) ⊕ ((List UInt8))) :=
 (r09_Name i_t4_9).bind fun r20 =>
 (cat out_t3_18 r20).bind fun s21 =>
 r09_Text_J14 i_t4_9 s21
def r09_Text_B11 (a0 : Int) (out_t3_8 : List UInt8) (i_t4_9 : Int) : Option (((List UInt8) × Int) ⊕ ((List UInt8))) :=
 (if (decide (i_t4_9 < (5 : Int))) = true then
  (need (0 ≤ i_t4_9)).bind fun u15 =>
  (need ((wrap64 ((1 : Int) * 2 ^ (min (i_t4_9).toNat (IntKind.i64).bits))) ≠ 0)).bind fun u16 =>
  (if ((Int.tmod (wrap64 (Int.tdiv a0 (wrap64 ((1 : Int) * 2 ^ (min (i_t4_9).toNat (IntKind.i64).bits))))) (2 : Int)) == (1 : Int)) = true then
   (if (out_t3_8 != ([] : List UInt8)) = true then
    (cat out_t3_8 str_x2b).bind fun s23 =>
    r09_Text_J19 i_t4_9 s23
   else
    r09_Text_J19 i_t4_9 out_t3_8)
  else
   r09_Text_J14 i_t4_9 out_t3_8)
 else
  some (.inr out_t3_8))
/-- cardgame/cardgameref09.Text -/
def r09_Text (a0 : Int) : Option ((List UInt8)) :=
 (r09_Is a0).bind fun r1 =>
 (if (!r1) = true then
  some ([] : List UInt8)
 else
  (if (a0 == (0 : Int)) = true then
   some str_none
  else
   (iter (fun (v : (List UInt8) × Int) => r09_Text_B11 a0 v.1 v.2) FU (([] : List UInt8), (0 : Int))).bind (fun o0 => r09_Text_J5 o0)))
def r09_Text_C (a0 : Int) (r : (List UInt8)) : Prop := PCall Tryz.prog I0 117 [vI a0] (· = vS r)
theorem r09_Text_ok {a0 : Int} {r : (List UInt8)} (h : r09_Text a0 = some r) : r09_Text_C a0 r := by
 refine PCall.body I0_stable (by kernel_rfl) Tryz.func117 rfl Tryz.ntmps117 (rs := [.tmp 2]) rfl rfl ?_
 intro w0 av old gv
 unfold r09_Text at h
 refine Rg [.a] (sl 29 [(0, vI a0)] []) (aN) ?_
 refine Holds.seq ?_
 obtain ⟨r1, hr1, h⟩ := bS h
 refine Rg [.a, (.c (vB r1)), .a] (sl 29 [(0, vI a0), (7, vB (!r1))] []) (aC (r09_Is_ok hr1) <| aN) ?_
 refine iB h (fun b2 h => ?_) (fun b2 h => ?_)
 · refine Rg [.a] (sl 29 [(2, vS ([] : List UInt8))] []) (aN) ?_
   refine Holds.ret ?_
   refine Tr ?_
   exact bQ (vS ([] : List UInt8)) (congrArg vS (sI h))
 · refine Holds.skip ?_
   refine Tn ?_
   refine Holds.seq ?_
   refine Rg [.a, .a] (sl 29 [(0, vI a0), (9, vB (a0 == (0 : Int)))] []) (aN) ?_
   refine iB h (fun b3 h => ?_) (fun b3 h => ?_)
   · refine Rg [.a] (sl 29 [(2, vS str_none)] []) (aN) ?_
     refine Holds.ret ?_
     refine Tr ?_
     exact bQ (vS str_none) (congrArg vS (sI h))
   · refine Holds.skip ?_
     refine Tn ?_
     refine Rg [.a] (sl 29 [(0, vI a0), (3, vS ([] : List UInt8))] []) (aN) ?_
     refine Sj (X := (List UInt8)) (fun v => (sl 29 [(3, vS v)] [])) (fun v => r09_Text_J5 v = some r) ?_ ?_
     · refine Rg [.a] (sl 29 [(0, vI a0), (3, vS ([] : List UInt8)), (4, vI (0 : Int))] []) (aN) ?_
       refine Holds.block ?_
       obtain ⟨oB11, hiB11, h⟩ := bS h
       refine It (fun (v : (List UInt8) × Int) => (sl 29 [(0, vI a0), (3, vS v.1), (4, vI v.2)] [])) hiB11 (wT) ?_
       rintro ⟨out_t3_8, i_t4_9⟩ zB11 hzB11 hoB11
       replace hzB11 : r09_Text_B11 a0 out_t3_8 i_t4_9 = some zB11 := hzB11
       unfold r09_Text_B11 at hzB11
       refine Holds.seq ?_
       refine Rg [.a, .a] (sl 29 [(0, vI a0), (3, vS out_t3_8), (4, vI i_t4_9), (11, vB (decide (i_t4_9 < (5 : Int))))] []) (aN) ?_
       refine iB hzB11 (fun b12 hzB11 => ?_) (fun b12 hzB11 => ?_)
       · refine Holds.skip ?_
         refine Tn ?_
         refine Sj (X := (List UInt8)) (fun v => (sl 29 [(0, vI a0), (3, vS v), (4, vI i_t4_9)] [])) (fun v => r09_Text_J14 i_t4_9 v = some zB11) ?_ ?_
         · refine Holds.block ?_
           obtain ⟨u15, hu15, hzB11⟩ := bS hzB11
           obtain ⟨u16, hu16, hzB11⟩ := bS hzB11
           refine Rg [.a, .a, .a, .a, .a, .a] (sl 29 [(0, vI a0), (3, vS out_t3_8), (4, vI i_t4_9), (19, vB ((Int.tmod (wrap64 (Int.tdiv a0 (wrap64 ((1 : Int) * 2 ^ (min (i_t4_9).toNat (IntKind.i64).bits))))) (2 : Int)) == (1 : Int)))] []) (aC (need_b hu15) <| aC (need_b hu16) <| aC (show (2 : Int) ≠ 0 from (by decide)) <| aN) ?_
           refine iB hzB11 (fun b17 hzB11 => ?_) (fun b17 hzB11 => ?_)
           · refine Sj (X := (List UInt8)) (fun v => (sl 29 [(0, vI a0), (3, vS v), (4, vI i_t4_9)] [])) (fun v => r09_Text_J19 i_t4_9 v = some zB11) ?_ ?_
             · refine Rg [.a, .a] (sl 29 [(0, vI a0), (3, vS out_t3_8), (4, vI i_t4_9), (21, vB (out_t3_8 != ([] : List UInt8)))] []) (aN) ?_
               refine iB hzB11 (fun b22 hzB11 => ?_) (fun b22 hzB11 => ?_)
               · obtain ⟨s23, hs23, hzB11⟩ := bS hzB11
                 refine Re [.a, (.v (vS s23)), .a] (sl 29 [(0, vI a0), (3, vS s23), (4, vI i_t4_9), (21, vB (out_t3_8 != ([] : List UInt8))), (22, vS out_t3_8), (23, vS s23)] []) (aC (cat_b hs23) <| aC (congrArg (fun z => V.c (.str z)) (cat_x hs23).symm) <| aN) ?_
                 refine Tn ⟨s23, hzB11, wT⟩
               · refine Holds.skip ?_
                 refine Tn ⟨out_t3_8, hzB11, wT⟩
             · rintro out_t3_18 hJ19
               replace hJ19 : r09_Text_J19 i_t4_9 out_t3_18 = some zB11 := hJ19
               unfold r09_Text_J19 at hJ19
               obtain ⟨r20, hr20, hJ19⟩ := bS hJ19
               obtain ⟨s21, hs21, hJ19⟩ := bS hJ19
               refine Re [.a, .a, (.c (vS r20)), (.v (vS s21)), .a] (sl 29 [(0, vI a0), (3, vS s21), (4, vI i_t4_9), (24, vS out_t3_18), (25, vI i_t4_9), (26, vS r20), (27, vS s21)] []) (aC (r09_Name_ok hr20) <| aC (cat_b hs21) <| aC (congrArg (fun z => V.c (.str z)) (cat_x hs21).symm) <| aN) ?_
               refine blockQ.normal ?_
               refine Tn ⟨s21, hJ19, wT⟩
           · refine Holds.skip ?_
             refine blockQ.normal ?_
             refine Tn ⟨out_t3_8, hzB11, wT⟩
         · rintro out_t3_13 hJ14
           replace hJ14 : r09_Text_J14 i_t4_9 out_t3_13 = some zB11 := hJ14
           unfold r09_Text_J14 at hJ14
           refine Re [.a, .a, .a] (sl 29 [(0, vI a0), (3, vS out_t3_13), (4, vI (wrap64 (i_t4_9 + (1 : Int)))), (12, vI i_t4_9), (13, vI (wrap64 (i_t4_9 + (1 : Int))))] []) (aN) ?_
           refine Tn ⟨(out_t3_13, (wrap64 (i_t4_9 + (1 : Int)))), (sI hJ14).symm, wT⟩
       · refine Holds.exit ?_
         refine thenQ.exit ?_
         have hoB11_ := hoB11 _ (sI hzB11).symm
         subst hoB11_
         refine thenQ.exit ?_
         refine blockQ.out ?_
         refine Tn ⟨out_t3_8, h, wT⟩
     · rintro out_t3_4 hJ5
       replace hJ5 : r09_Text_J5 out_t3_4 = some r := hJ5
       unfold r09_Text_J5 at hJ5
       refine Rg [.a, .a] (sl 29 [(2, vS out_t3_4)] []) (aN) ?_
       refine Holds.ret ?_
       exact bQ (vS out_t3_4) (congrArg vS (sI hJ5))
/-- cardgame/cardgameref11.Name -/
def r11_Name (a0 : Int) : Option ((List UInt8)) :=
 (some (if (decide (a0 < (0 : Int))) = true then true else decide ((16 : Int) < a0))).bind fun b1 =>
 (if b1 = true then
  some ([] : List UInt8)
 else
  (r11_names).bind fun r3 =>
  (idx r3 a0).bind fun e4 =>
  some e4)
def r11_Name_C (a0 : Int) (r : (List UInt8)) : Prop := PCall Tryz.prog I0 133 [vI a0] (· = vS r)
theorem r11_Name_ok {a0 : Int} {r : (List UInt8)} (h : r11_Name a0 = some r) : r11_Name_C a0 r := by
 refine PCall.body I0_stable (by kernel_rfl) Tryz.func133 rfl Tryz.ntmps133 (rs := [.tmp 2]) rfl rfl ?_
 intro w0 av old gv
 unfold r11_Name at h
 refine Rg [.a] (sl 13 [(0, vI a0)] []) (aN) ?_
 refine Holds.seq ?_
 obtain ⟨b1, hb1, h⟩ := bS h
 refine Rg [.a, .a, .a, .a, .a, (.v (vB b1))] (sl 13 [(0, vI a0), (8, vB b1)] []) (aG ((decide (a0 < (0 : Int))) == false) <| aF (decide (a0 < (0 : Int))) <| aB hb1 <| aN) ?_
 refine iB h (fun b2 h => ?_) (fun b2 h => ?_)
 · refine Rg [.a] (sl 13 [(2, vS ([] : List UInt8))] []) (aN) ?_
   refine Holds.ret ?_
   refine Tr ?_
   exact bQ (vS ([] : List UInt8)) (congrArg vS (sI h))
 · refine Holds.skip ?_
   refine Tn ?_
   obtain ⟨r3, hr3, h⟩ := bS h
   obtain ⟨e4, he4, h⟩ := bS h
   refine Rg [(.c (vL eS r3)), .a, .a, (.v (vS e4)), .a] (sl 13 [(2, vS e4)] []) (aC (r11_names_ok hr3) <| aC (idx_b he4) <| aC (eld he4 lenS 0 1 false (vS e4)) <| aC (Eq.refl (vS e4)) <| aN) ?_
   refine Holds.ret ?_
   exact bQ (vS e4) (congrArg vS (sI h))
/-- cardgame/cardgameref01.Text -/
def r01_Text (a0 : Int) : Option ((List UInt8)) :=
 (if (decide (a0 < (0 : Int))) = true then
  (r01_digits (IntKind.u64.wrap (0 - (IntKind.u64.wrap (a0))))).bind fun r2 =>
  (cat str_x2d r2).bind fun s3 =>
  some s3
 else
  (r01_digits (IntKind.u64.wrap (a0))).bind fun r4 =>
  some r4)
def r01_Text_C (a0 : Int) (r : (List UInt8)) : Prop := PCall Tryz.prog I0 27 [vI a0] (· = vS r)
theorem r01_Text_ok {a0 : Int} {r : (List UInt8)} (h : r01_Text a0 = some r) : r01_Text_C a0 r := by
 refine PCall.body I0_stable (by kernel_rfl) Tryz.func27 rfl Tryz.ntmps27 (rs := [.tmp 2]) rfl rfl ?_
 intro w0 av old gv
 unfold r01_Text at h
 refine Rg [.a] (sl 13 [(0, vI a0)] []) (aN) ?_
 refine Holds.seq ?_
 refine Rg [.a, .a] (sl 13 [(0, vI a0), (4, vB (decide (a0 < (0 : Int))))] []) (aN) ?_
 refine iB h (fun b1 h => ?_) (fun b1 h => ?_)
 · obtain ⟨r2, hr2, h⟩ := bS h
   obtain ⟨s3, hs3, h⟩ := bS h
   refine Rg [.a, .a, .a, (.c (vS r2)), (.v (vS s3)), .a] (sl 13 [(2, vS s3)] []) (aC (r01_digits_ok hr2) <| aC (cat_b hs3) <| aC (congrArg (fun z => V.c (.str z)) (cat_x hs3).symm) <| aN) ?_
   refine Holds.ret ?_
   refine Tr ?_
   exact bQ (vS s3) (congrArg vS (sI h))
 · refine Holds.skip ?_
   refine Tn ?_
   obtain ⟨r4, hr4, h⟩ := bS h
   refine Rg [.a, .a, (.c (vS r4)), .a] (sl 13 [(2, vS r4)] []) (aC (r01_digits_ok hr4) <| aN) ?_
   refine Holds.ret ?_
   exact bQ (vS r4) (congrArg vS (sI h))
/-- cardgame/cardgameref20.price -/
def r20_price (a0 : SPrice) : Option (Bool) :=
 (r08_Is a0.Mana).bind fun r1 =>
 (some (if r1 = true then a0.Mana.X == (0 : Int) else false)).bind fun b2 =>
 (some (if b2 = true then decide ((0 : Int) ≤ a0.Life) else false)).bind fun b3 =>
 (some (if b3 = true then decide (a0.Life ≤ (99 : Int)) else false)).bind fun b4 =>
 some b4
def r20_price_C (a0 : SPrice) (r : Bool) : Prop := PCall Tryz.prog I0 78 [vA encSPrice a0] (· = vB r)
theorem r20_price_ok {a0 : SPrice} {r : Bool} (h : r20_price a0 = some r) : r20_price_C a0 r := by
 refine PCall.body I0_stable (by kernel_rfl) Tryz.func78 rfl Tryz.ntmps78 (rs := [.tmp 2]) rfl rfl ?_
 intro w0 av old gv
 unfold r20_price at h
 refine Rg [.a, .a] (sl 22 [(1, vP [1] (0))] [bx [1] (encSPrice a0)]) (aN) ?_
 obtain ⟨r1, hr1, h⟩ := bS h
 obtain ⟨b2, hb2, h⟩ := bS h
 obtain ⟨b3, hb3, h⟩ := bS h
 obtain ⟨b4, hb4, h⟩ := bS h
 refine Rg [.a, .a, (.c (vB r1)), .a, .a, .a, .a, .a, (.v (vB b2)), .a, .a, .a, .a, (.v (vB b3)), .a, .a, .a, .a, (.v (vB b4)), .a] (sl 22 [(2, vB b4)] []) (aC (r08_Is_ok hr1) <| aG (r1 == true) <| aG (r1 == true) <| aG (r1 == true) <| aT r1 <| aB hb2 <| aG (b2 == true) <| aG (b2 == true) <| aT b2 <| aB hb3 <| aG (b3 == true) <| aG (b3 == true) <| aT b3 <| aB hb4 <| aN) ?_
 refine Holds.ret ?_
 exact bQ (vB b4) (congrArg vB (sI h))
/-- cardgame/cardgameref18.hasFilter -/
def r18_hasFilter (a0 : Int) : Option (Bool) :=
 (r18_word a0).bind fun r1 =>
 (gd ((r1 != ([] : List UInt8)) == true) (r18_hasWho a0)).bind fun r2 =>
 (some (if (!r2) = true then true else a0 == (9 : Int))).bind fun b3 =>
 (some (if (r1 != ([] : List UInt8)) = true then b3 else false)).bind fun b4 =>
 some b4
def r18_hasFilter_C (a0 : Int) (r : Bool) : Prop := PCall Tryz.prog I0 101 [vI a0] (· = vB r)
theorem r18_hasFilter_ok {a0 : Int} {r : Bool} (h : r18_hasFilter a0 = some r) : r18_hasFilter_C a0 r := by
 refine PCall.body I0_stable (by kernel_rfl) Tryz.func101 rfl Tryz.ntmps101 (rs := [.tmp 2]) rfl rfl ?_
 intro w0 av old gv
 unfold r18_hasFilter at h
 refine Rg [.a] (sl 15 [(0, vI a0)] []) (aN) ?_
 obtain ⟨r1, hr1, h⟩ := bS h
 obtain ⟨r2, hr2, h⟩ := bS h
 obtain ⟨b3, hb3, h⟩ := bS h
 obtain ⟨b4, hb4, h⟩ := bS h
 refine Rg [.a, (.c (vS r1)), .a, .a, .a, (.c (vB r2)), .a, .a, .a, .a, (.v (vB b3)), (.v (vB b4)), .a] (sl 15 [(2, vB b4)] []) (aC (r18_word_ok hr1) <| aC (c1 hr2 r18_hasWho_ok) <| aG ((r1 != ([] : List UInt8)) == true) <| aG ((r1 != ([] : List UInt8)) == true) <| aG (((r1 != ([] : List UInt8)) == true) && ((!r2) == false)) <| aC (fun hg : ((r1 != ([] : List UInt8)) == true) = true => aC (gi ((r1 != ([] : List UInt8)) == true)) <| aC (fun q : (!r2) = false => (gA hg (gF q))) <| aB hb3 <| aN) <| aT (r1 != ([] : List UInt8)) <| aB hb4 <| aN) ?_
 refine Holds.ret ?_
 exact bQ (vB b4) (congrArg vB (sI h))
def r17_uses_J2  : Option (Bool) :=
 some false
def r17_uses_B5 (a1 : Int) (r1 : (List UInt8)) (i_t6_4 : Int) : Option ((Int) ⊕ (Unit ⊕ Unit)) :=
 (if (decide (i_t6_4 < (r1.length : Int))) = true then
  (sidx r1 i_t6_4).bind fun c7 =>
  (if (c7 == a1) = true then
   some (.inr (.inl ()))
  else
   some (.inl (wrap64 (i_t6_4 + (1 : Int)))))
 else
  some (.inr (.inr ())))
/-- cardgame/cardgameref17.uses -/
def r17_uses (a0 : Int) (a1 : Int) : Option (Bool) :=
 (r17_Uses a0).bind fun r1 =>
 (iter (fun (v : Int) => r17_uses_B5 a1 r1 v) FU (0 : Int)).bind (Sum.elim (fun o0 => some true) (fun o1 => r17_uses_J2))
def r17_uses_C (a0 : Int) (a1 : Int) (r : Bool) : Prop := PCall Tryz.prog I0 121 [vI a0, .c (.int .u8 a1)] (· = vB r)
theorem r17_uses_ok {a0 : Int} {a1 : Int} {r : Bool} (h : r17_uses a0 a1 = some r) : r17_uses_C a0 a1 r := by
 refine PCall.body I0_stable (by kernel_rfl) Tryz.func121 rfl Tryz.ntmps121 (rs := [.tmp 4]) rfl rfl ?_
 intro w0 av old gv
 unfold r17_uses at h
 refine Rg [.a] (sl 20 [(0, vI a0), (1, .c (.int .u8 a1))] []) (aN) ?_
 obtain ⟨r1, hr1, h⟩ := bS h
 refine Rg [.a, (.c (vS r1)), .a] (sl 20 [(1, .c (.int .u8 a1)), (5, vS r1)] []) (aC (r17_Uses_ok hr1) <| aN) ?_
 refine Sj (X := Unit) (fun v => (sl 20 [] [])) (fun v => r17_uses_J2 = some r) ?_ ?_
 · refine Rg [.a] (sl 20 [(1, .c (.int .u8 a1)), (5, vS r1), (6, vI (0 : Int))] []) (aN) ?_
   refine Holds.block ?_
   obtain ⟨oB5, hiB5, h⟩ := bS h
   refine It (fun (v : Int) => (sl 20 [(1, .c (.int .u8 a1)), (5, vS r1), (6, vI v)] [])) hiB5 (wT) ?_
   rintro i_t6_4 zB5 hzB5 hoB5
   replace hzB5 : r17_uses_B5 a1 r1 i_t6_4 = some zB5 := hzB5
   unfold r17_uses_B5 at hzB5
   refine Holds.seq ?_
   refine Rg [.a, .a, .a, .a] (sl 20 [(1, .c (.int .u8 a1)), (5, vS r1), (6, vI i_t6_4), (12, vB (decide (i_t6_4 < (r1.length : Int))))] []) (aN) ?_
   refine iB hzB5 (fun b6 hzB5 => ?_) (fun b6 hzB5 => ?_)
   · refine Holds.skip ?_
     refine Tn ?_
     refine Holds.seq ?_
     refine Holds.block ?_
     obtain ⟨c7, hc7, hzB5⟩ := bS hzB5
     refine Rg [.a, .a, (.v (.c (.int .u8 c7))), .a, .a] (sl 20 [(1, .c (.int .u8 a1)), (5, vS r1), (6, vI i_t6_4), (19, vB (c7 == a1))] []) (aC (sidx_b hc7) <| aC (congrArg (fun z => V.c (.int .u8 z)) (sidx_x hc7).symm) <| aN) ?_
     refine iB hzB5 (fun b8 hzB5 => ?_) (fun b8 hzB5 => ?_)
     · refine Rg [.a] (sl 20 [(4, vB true)] []) (aN) ?_
       refine Holds.ret ?_
       refine blockQ.ret ?_
       refine Tr ?_
       have hoB5_ := hoB5 _ (sI hzB5).symm
       subst hoB5_
       replace h := sumL h
       refine Tr ?_
       refine blockQ.ret ?_
       refine Tr ?_
       exact bQ (vB true) (congrArg vB (sI h))
     · refine Holds.skip ?_
       refine blockQ.normal ?_
       refine Tn ?_
       refine Re [.a, .a, .a] (sl 20 [(1, .c (.int .u8 a1)), (5, vS r1), (6, vI (wrap64 (i_t6_4 + (1 : Int)))), (13, vI i_t6_4), (14, vI (wrap64 (i_t6_4 + (1 : Int)))), (19, vB (c7 == a1))] []) (aN) ?_
       refine Tn ⟨(wrap64 (i_t6_4 + (1 : Int))), (sI hzB5).symm, wT⟩
   · refine Holds.exit ?_
     refine thenQ.exit ?_
     have hoB5_ := hoB5 _ (sI hzB5).symm
     subst hoB5_
     replace h := sumR h
     refine thenQ.exit ?_
     refine blockQ.out ?_
     refine Tn ⟨(), h, wT⟩
 · rintro _ hJ2
   replace hJ2 : r17_uses_J2 = some r := hJ2
   unfold r17_uses_J2 at hJ2
   refine Rg [.a] (sl 20 [(4, vB false)] []) (aN) ?_
   refine Holds.ret ?_
   exact bQ (vB false) (congrArg vB (sI hJ2))
def r22_creates_J1  : Option (Bool) :=
 some true
def r22_creates_J6 (i_t5_3 : Int) : Option ((Int) ⊕ (Unit ⊕ Unit)) :=
 some (.inl (wrap64 (i_t5_3 + (1 : Int))))
def r22_creates_B9 (a0 : List (SCard)) (a1 : SCard) (i_t5_3 : Int) (k_t6_8 : Int) : Option ((Int) ⊕ (Unit ⊕ Unit)) :=
 (idx a1.Abilities i_t5_3).bind fun e10 =>
 (if (decide (k_t6_8 < (e10.Effects.length : Int))) = true then
  (idx a1.Abilities i_t5_3).bind fun e12 =>
  (idx e12.Effects k_t6_8).bind fun e13 =>
  (gd ((e13.Op == (12 : Int)) == true) (r22_token a0 e13.Card)).bind fun r14 =>
  (some (if (e13.Op == (12 : Int)) = true then !r14 else false)).bind fun b15 =>
  (if b15 = true then
   some (.inr (.inl ()))
  else
   some (.inl (wrap64 (k_t6_8 + (1 : Int)))))
 else
  some (.inr (.inr ())))
def r22_creates_B4 (a0 : List (SCard)) (a1 : SCard) (i_t5_3 : Int) : Option ((Int) ⊕ (Unit ⊕ Unit)) :=
 (if (decide (i_t5_3 < (a1.Abilities.length : Int))) = true then
  (iter (fun (v : Int) => r22_creates_B9 a0 a1 i_t5_3 v) FU (0 : Int)).bind (Sum.elim (fun o0 => some (.inr (.inl ()))) (fun o1 => r22_creates_J6 i_t5_3))
 else
  some (.inr (.inr ())))
/-- cardgame/cardgameref22.creates -/
def r22_creates (a0 : List (SCard)) (a1 : SCard) : Option (Bool) :=
 (iter (fun (v : Int) => r22_creates_B4 a0 a1 v) FU (0 : Int)).bind (Sum.elim (fun o0 => some false) (fun o1 => r22_creates_J1))
def r22_creates_C (a0 : List (SCard)) (a1 : SCard) (r : Bool) : Prop := PCall Tryz.prog I0 48 [vL encSCard a0, vA encSCard a1] (· = vB r)
theorem r22_creates_ok {a0 : List (SCard)} {a1 : SCard} {r : Bool} (h : r22_creates a0 a1 = some r) : r22_creates_C a0 a1 r := by
 refine PCall.body I0_stable (by kernel_rfl) Tryz.func48 rfl Tryz.ntmps48 (rs := [.tmp 4]) rfl rfl ?_
 intro w0 av old gv
 unfold r22_creates at h
 refine Rg [.a, .a] (sl 45 [(0, vL encSCard a0), (3, vP [3] (0))] [bx [3] (encSCard a1)]) (aN) ?_
 refine Sj (X := Unit) (fun v => (sl 45 [] [])) (fun v => r22_creates_J1 = some r) ?_ ?_
 · refine Rg [.a] (sl 45 [(0, vL encSCard a0), (3, vP [3] (0)), (5, vI (0 : Int))] [bx [3] (encSCard a1)]) (aN) ?_
   refine Holds.block ?_
   obtain ⟨oB4, hiB4, h⟩ := bS h
   refine It (fun (v : Int) => (sl 45 [(0, vL encSCard a0), (3, vP [3] (0)), (5, vI v)] [bx [3] (encSCard a1)])) hiB4 (wT) ?_
   rintro i_t5_3 zB4 hzB4 hoB4
   replace hzB4 : r22_creates_B4 a0 a1 i_t5_3 = some zB4 := hzB4
   unfold r22_creates_B4 at hzB4
   refine Holds.seq ?_
   refine Rg [.a, .a, .a, .a, .a] (sl 45 [(0, vL encSCard a0), (3, vP [3] (0)), (5, vI i_t5_3), (12, vB (decide (i_t5_3 < (a1.Abilities.length : Int))))] [bx [3] (encSCard a1)]) (aN) ?_
   refine iB hzB4 (fun b5 hzB4 => ?_) (fun b5 hzB4 => ?_)
   · refine Holds.skip ?_
     refine Tn ?_
     refine Sj (X := Unit) (fun v => (sl 45 [(0, vL encSCard a0), (3, vP [3] (0)), (5, vI i_t5_3)] [bx [3] (encSCard a1)])) (fun v => r22_creates_J6 i_t5_3 = some zB4) ?_ ?_
     · refine Holds.block ?_
       refine Rg [.a] (sl 45 [(0, vL encSCard a0), (3, vP [3] (0)), (5, vI i_t5_3), (6, vI (0 : Int))] [bx [3] (encSCard a1)]) (aN) ?_
       refine Holds.block ?_
       obtain ⟨oB9, hiB9, hzB4⟩ := bS hzB4
       refine It (fun (v : Int) => (sl 45 [(0, vL encSCard a0), (3, vP [3] (0)), (5, vI i_t5_3), (6, vI v)] [bx [3] (encSCard a1)])) hiB9 (wT) ?_
       rintro k_t6_8 zB9 hzB9 hoB9
       replace hzB9 : r22_creates_B9 a0 a1 i_t5_3 k_t6_8 = some zB9 := hzB9
       unfold r22_creates_B9 at hzB9
       refine Holds.seq ?_
       obtain ⟨e10, he10, hzB9⟩ := bS hzB9
       refine Rg [.a, .a, .a, .a, .a, .a, (.v (vL encSEffect e10.Effects)), .a, .a] (sl 45 [(0, vL encSCard a0), (3, vP [3] (0)), (5, vI i_t5_3), (6, vI k_t6_8), (23, vB (decide (k_t6_8 < (e10.Effects.length : Int))))] [bx [3] (encSCard a1)]) (aC (idx_b he10) <| aC (eld he10 lenSAbility 49 1 false (vL encSEffect e10.Effects)) <| aC (Eq.refl (vL encSEffect e10.Effects)) <| aN) ?_
       refine iB hzB9 (fun b11 hzB9 => ?_) (fun b11 hzB9 => ?_)
       · refine Holds.skip ?_
         refine Tn ?_
         refine Holds.seq ?_
         refine Holds.block ?_
         obtain ⟨e12, he12, hzB9⟩ := bS hzB9
         obtain ⟨e13, he13, hzB9⟩ := bS hzB9
         refine Rg [.a, .a, .a, .a, .a, (.v (vL encSEffect e12.Effects)), .a, .a, (.v (vA encSEffect e13)), .a, .a] (sl 45 [(0, vL encSCard a0), (3, vP [3] (0)), (5, vI i_t5_3), (6, vI k_t6_8), (7, vP [7] (0))] [bx [7] (encSEffect e13), bx [3] (encSCard a1)]) (aC (idx_b he12) <| aC (eld he12 lenSAbility 49 1 false (vL encSEffect e12.Effects)) <| aC (Eq.refl (vL encSEffect e12.Effects)) <| aC (idx_b he13) <| aC (eld he13 lenSEffect 0 64 true (vA encSEffect e13)) <| aC (Eq.refl (vA encSEffect e13)) <| aN) ?_
         obtain ⟨r14, hr14, hzB9⟩ := bS hzB9
         obtain ⟨b15, hb15, hzB9⟩ := bS hzB9
         refine Rg [.a, .a, .a, .a, .a, .a, .a, (.c (vB r14)), .a, (.v (vB b15))] (sl 45 [(0, vL encSCard a0), (3, vP [3] (0)), (5, vI i_t5_3), (6, vI k_t6_8), (44, vB b15)] [bx [3] (encSCard a1)]) (aG ((e13.Op == (12 : Int)) == true) <| aC (c2 hr14 r22_token_ok) <| aG ((e13.Op == (12 : Int)) == true) <| aT (e13.Op == (12 : Int)) <| aB hb15 <| aN) ?_
         refine iB hzB9 (fun b16 hzB9 => ?_) (fun b16 hzB9 => ?_)
         · refine Rg [.a] (sl 45 [(4, vB false)] []) (aN) ?_
           refine Holds.ret ?_
           refine blockQ.ret ?_
           refine Tr ?_
           have hoB9_ := hoB9 _ (sI hzB9).symm
           subst hoB9_
           replace hzB4 := sumL hzB4
           refine Tr ?_
           refine blockQ.ret ?_
           refine blockQ.ret ?_
           refine Tr ?_
           have hoB4_ := hoB4 _ (sI hzB4).symm
           subst hoB4_
           replace h := sumL h
           refine Tr ?_
           refine blockQ.ret ?_
           refine Tr ?_
           exact bQ (vB false) (congrArg vB (sI h))
         · refine Holds.skip ?_
           refine blockQ.normal ?_
           refine Tn ?_
           refine Re [.a, .a, .a] (sl 45 [(0, vL encSCard a0), (3, vP [3] (0)), (5, vI i_t5_3), (6, vI (wrap64 (k_t6_8 + (1 : Int)))), (24, vI k_t6_8), (25, vI (wrap64 (k_t6_8 + (1 : Int)))), (44, vB b15)] [bx [3] (encSCard a1)]) (aN) ?_
           refine Tn ⟨(wrap64 (k_t6_8 + (1 : Int))), (sI hzB9).symm, wT⟩
       · refine Holds.exit ?_
         refine thenQ.exit ?_
         have hoB9_ := hoB9 _ (sI hzB9).symm
         subst hoB9_
         replace hzB4 := sumR hzB4
         refine thenQ.exit ?_
         refine blockQ.out ?_
         refine blockQ.normal ?_
         refine Tn ⟨(), hzB4, wT⟩
     · rintro _ hJ6
       replace hJ6 : r22_creates_J6 i_t5_3 = some zB4 := hJ6
       unfold r22_creates_J6 at hJ6
       refine Re [.a, .a, .a] (sl 45 [(0, vL encSCard a0), (3, vP [3] (0)), (5, vI (wrap64 (i_t5_3 + (1 : Int)))), (13, vI i_t5_3), (14, vI (wrap64 (i_t5_3 + (1 : Int))))] [bx [3] (encSCard a1)]) (aN) ?_
       refine Tn ⟨(wrap64 (i_t5_3 + (1 : Int))), (sI hJ6).symm, wT⟩
   · refine Holds.exit ?_
     refine thenQ.exit ?_
     have hoB4_ := hoB4 _ (sI hzB4).symm
     subst hoB4_
     replace h := sumR h
     refine thenQ.exit ?_
     refine blockQ.out ?_
     refine Tn ⟨(), h, wT⟩
 · rintro _ hJ1
   replace hJ1 : r22_creates_J1 = some r := hJ1
   unfold r22_creates_J1 at hJ1
   refine Rg [.a] (sl 45 [(4, vB true)] []) (aN) ?_
   refine Holds.ret ?_
   exact bQ (vB true) (congrArg vB (sI hJ1))
/-- internal/stringslite.Cut -/
def internal_stringslite_Cut (a0 : List UInt8) (a1 : List UInt8) : Option ((List UInt8) × (List UInt8) × Bool) :=
 (internal_stringslite_Index a0 a1).bind fun r1 =>
 (if (decide ((0 : Int) ≤ r1)) = true then
  (ssub a0 0 r1).bind fun s3 =>
  (ssub a0 (wrap64 (r1 + (a1.length : Int))) (a0.length : Int)).bind fun s4 =>
  some (s3, s4, true)
 else
  some (a0, ([] : List UInt8), false))
def internal_stringslite_Cut_C (a0 : List UInt8) (a1 : List UInt8) (r : (List UInt8) × (List UInt8) × Bool) : Prop := PCall Tryz.prog I0 41 [vS a0, vS a1] (· = .tup [vS r.1, vS r.2.1, vB r.2.2])
theorem internal_stringslite_Cut_ok {a0 : List UInt8} {a1 : List UInt8} {r : (List UInt8) × (List UInt8) × Bool} (h : internal_stringslite_Cut a0 a1 = some r) : internal_stringslite_Cut_C a0 a1 r := by
 refine PCall.body I0_stable (by kernel_rfl) Tryz.func41 rfl Tryz.ntmps41 (rs := [.tmp 4, .tmp 5, .tmp 6]) rfl rfl ?_
 intro w0 av old gv
 unfold internal_stringslite_Cut at h
 refine Rg [.a, .a, .a] (sl 23 [(0, vS a0), (1, vS a1)] []) (aN) ?_
 refine Holds.seq ?_
 obtain ⟨r1, hr1, h⟩ := bS h
 refine Rg [.a, .a, (.c (vI r1)), .a] (sl 23 [(0, vS a0), (1, vS a1), (7, vI r1)] []) (aC (internal_stringslite_Index_ok hr1) <| aN) ?_
 refine Rg [.a, .a] (sl 23 [(0, vS a0), (1, vS a1), (7, vI r1), (12, vB (decide ((0 : Int) ≤ r1)))] []) (aN) ?_
 refine iB h (fun b2 h => ?_) (fun b2 h => ?_)
 · obtain ⟨s3, hs3, h⟩ := bS h
   obtain ⟨s4, hs4, h⟩ := bS h
   refine Rq followsP [.a, .a, (.v (vS s3)), .a, .a, .a, .a, .a, (.v (vS s4)), .a, .a, .a] (sl 23 [(4, vS s3), (5, vS s4), (6, vB true)] []) (aC (ssub_b hs3) <| aC (congrArg (fun z => V.c (.str z)) (ssub_x hs3).symm) <| aC (ssub_b hs4) <| aC (congrArg (fun z => V.c (.str z)) (ssub_x hs4).symm) <| aN) ?_
   refine Holds.ret ?_
   refine Tr ?_
   exact bQ (.tup [vS s3, vS s4, vB true]) (congrArg (fun (q : (List UInt8) × (List UInt8) × Bool) => (.tup [vS q.1, vS q.2.1, vB q.2.2] : V)) (sI h))
 · refine Holds.skip ?_
   refine Tn ?_
   refine Rg [.a, .a, .a, .a] (sl 23 [(4, vS a0), (5, vS ([] : List UInt8)), (6, vB false)] []) (aN) ?_
   refine Holds.ret ?_
   exact bQ (.tup [vS a0, vS ([] : List UInt8), vB false]) (congrArg (fun (q : (List UInt8) × (List UInt8) × Bool) => (.tup [vS q.1, vS q.2.1, vB q.2.2] : V)) (sI h))
/-- cardgame/num.Number -/
def num_NumberV (a0 : List UInt8) : Option (Int × Bool) :=
 (dAtoiV a0).bind fun r1 =>
 (gd (false == false) (num_Clamp r1)).bind fun r2 =>
 (some (if false = true then true else r1 != r2)).bind fun b3 =>
 (gd (b3 == false) (num_Text r1)).bind fun r4 =>
 (some (if b3 = true then true else r4 != a0)).bind fun b5 =>
 (if b5 = true then
  some ((0 : Int), false)
 else
  some (r1, true))
def num_NumberV_C (a0 : List UInt8) (r : Int × Bool) : Prop := PCall Tryz.prog I0 30 [vS a0] (· = .tup [vI r.1, vB r.2])
theorem num_NumberV_ok {a0 : List UInt8} {r : Int × Bool} (h : num_NumberV a0 = some r) : num_NumberV_C a0 r := by
 refine PCall.body I0_stable (by kernel_rfl) Tryz.func30 rfl Tryz.ntmps30 (rs := [.tmp 2, .tmp 3]) rfl rfl ?_
 intro w0 av old gv
 unfold num_NumberV at h
 refine Rg [.a, .a] (sl 26 [(0, vS a0)] []) (aN) ?_
 obtain ⟨r1, hr1, h⟩ := bS h
 refine Rg [.a, (.c (.tup [vI r1, .c (.niface)])), .a, .a, .a, .a, .a] (sl 26 [(0, vS a0), (4, vI r1), (5, .c (.niface))] []) (aC (okAtoiV hr1) <| aC (show True ∧ 0 < [V.undef, V.undef].length from ⟨trivial, (by decide)⟩) <| aC (show True ∧ 1 < [V.undef, V.undef].length from ⟨trivial, (by decide)⟩) <| aN) ?_
 refine Holds.seq ?_
 obtain ⟨r2, hr2, h⟩ := bS h
 obtain ⟨b3, hb3, h⟩ := bS h
 obtain ⟨r4, hr4, h⟩ := bS h
 obtain ⟨b5, hb5, h⟩ := bS h
 refine Rg [.a, .a, .a, .a, .a, (.c (vI r2)), .a, (.v (vB b3)), .a, .a, (.c (vS r4)), .a, .a, (.v (vB b5))] (sl 26 [(4, vI r1), (24, vB b5)] []) (aC (And.intro (Eq.refl true) isif58) <| aC (c1 hr2 num_Clamp_ok) <| aH (false == false) <| aF false <| aB hb3 <| aC (c1 hr4 num_Text_ok) <| aH (b3 == false) <| aF b3 <| aB hb5 <| aN) ?_
 refine iB h (fun b6 h => ?_) (fun b6 h => ?_)
 · refine Rg [.a, .a] (sl 26 [(2, vI (0 : Int)), (3, vB false)] []) (aN) ?_
   refine Holds.ret ?_
   refine Tr ?_
   exact bQ (.tup [vI (0 : Int), vB false]) (congrArg (fun (q : Int × Bool) => (.tup [vI q.1, vB q.2] : V)) (sI h))
 · refine Holds.skip ?_
   refine Tn ?_
   refine Rg [.a, .a, .a] (sl 26 [(2, vI r1), (3, vB true)] []) (aN) ?_
   refine Holds.ret ?_
   exact bQ (.tup [vI r1, vB true]) (congrArg (fun (q : Int × Bool) => (.tup [vI q.1, vB q.2] : V)) (sI h))
/-- cardgame/num.Number -/
def num_NumberB (a0 : List UInt8) : Option (Int × Bool) :=
 (dAtoiB a0).bind fun r1 =>
 (gd (true == false) (num_Clamp r1)).bind fun r2 =>
 (some (if true = true then true else r1 != r2)).bind fun b3 =>
 (gd (b3 == false) (num_Text r1)).bind fun r4 =>
 (some (if b3 = true then true else r4 != a0)).bind fun b5 =>
 (if b5 = true then
  some ((0 : Int), false)
 else
  some (r1, true))
def num_NumberB_C (a0 : List UInt8) (r : Int × Bool) : Prop := PCall Tryz.prog I0 30 [vS a0] (· = .tup [vI r.1, vB r.2])
theorem num_NumberB_ok {a0 : List UInt8} {r : Int × Bool} (h : num_NumberB a0 = some r) : num_NumberB_C a0 r := by
 refine PCall.body I0_stable (by kernel_rfl) Tryz.func30 rfl Tryz.ntmps30 (rs := [.tmp 2, .tmp 3]) rfl rfl ?_
 intro w0 av old gv
 unfold num_NumberB at h
 refine Rg [.a, .a] (sl 26 [(0, vS a0)] []) (aN) ?_
 obtain ⟨r1, hr1, h⟩ := bS h
 refine Rg [.a, (.c (.tup [vI r1, .c (.held)])), .a, .a, .a, .a, .a] (sl 26 [(0, vS a0), (4, vI r1), (5, .c (.held))] []) (aC (okAtoiB hr1) <| aC (show True ∧ 0 < [V.undef, V.undef].length from ⟨trivial, (by decide)⟩) <| aC (show True ∧ 1 < [V.undef, V.undef].length from ⟨trivial, (by decide)⟩) <| aN) ?_
 refine Holds.seq ?_
 obtain ⟨r2, hr2, h⟩ := bS h
 obtain ⟨b3, hb3, h⟩ := bS h
 obtain ⟨r4, hr4, h⟩ := bS h
 obtain ⟨b5, hb5, h⟩ := bS h
 refine Rg [.a, .a, .a, .a, .a, (.c (vI r2)), .a, (.v (vB b3)), .a, .a, (.c (vS r4)), .a, .a, (.v (vB b5))] (sl 26 [(4, vI r1), (24, vB b5)] []) (aC isif58 <| aC (c1 hr2 num_Clamp_ok) <| aH (true == false) <| aF true <| aB hb3 <| aC (c1 hr4 num_Text_ok) <| aH (b3 == false) <| aF b3 <| aB hb5 <| aN) ?_
 refine iB h (fun b6 h => ?_) (fun b6 h => ?_)
 · refine Rg [.a, .a] (sl 26 [(2, vI (0 : Int)), (3, vB false)] []) (aN) ?_
   refine Holds.ret ?_
   refine Tr ?_
   exact bQ (.tup [vI (0 : Int), vB false]) (congrArg (fun (q : Int × Bool) => (.tup [vI q.1, vB q.2] : V)) (sI h))
 · refine Holds.skip ?_
   refine Tn ?_
   refine Rg [.a, .a, .a] (sl 26 [(2, vI r1), (3, vB true)] []) (aN) ?_
   refine Holds.ret ?_
   exact bQ (.tup [vI r1, vB true]) (congrArg (fun (q : Int × Bool) => (.tup [vI q.1, vB q.2] : V)) (sI h))
def deck_Text_B (a0 : List (SCard)) (a1 : SDeck) (i : Int) (acc : List UInt8) : Option ((Int × List UInt8) ⊕ List UInt8) :=
 if (decide (i < (a1.Cards.length : Int))) = true then
  (idx a1.Cards i).bind fun e2 =>
  (idx a1.Counts i).bind fun e3 =>
  (num_Text e3).bind fun r4 =>
  (cat r4 str_x20).bind fun s5 =>
  (idx a0 e2).bind fun e6 =>
  (cat s5 e6.Name).bind fun s7 =>
  (cat s7 str_x0a).bind fun s8 =>
  (need (acc.length + s8.length ≤ 140737488355328)).bind fun u =>
  some (.inl (wrap64 (i + (1 : Int)), acc ++ s8))
 else (need (acc ≠ [])).bind fun u => some (.inr acc)
def deck_Text (a0 : List (SCard)) (a1 : SDeck) : Option (List UInt8) :=
(deck_formed a0 a1).bind fun r1 =>
(if (!r1) = true then some [] else (if (decide (a1.Cards.length = 0)) = true then some [] else (iter (fun v : Int × List UInt8 => deck_Text_B a0 a1 v.1 v.2) FU ((0 : Int), ([] : List UInt8))).bind some))
def deck_Text_C (a0 : List (SCard)) (a1 : SDeck) (r : List UInt8) : Prop := PCall Tryz.prog I0 11 [vL encSCard a0, vA encSDeck a1] (· = vS r)
theorem strL_app (a b : List UInt8) : strL (a ++ b) = strL a ++ strL b := by unfold strL; rw [List.map_append]
theorem AtE {P : Program} {F : Fr} {st : St} {c : Code} {Q : Exit → St → Prop} (st' : St) (h : st' = st) (hh : Holds P F c st' Q) : Holds P F c st Q := h ▸ hh
theorem iB0 {P : Program} {F : Fr} {st : St} {c : Code} {Q : Exit → St → Prop} {β : Type} {b : Bool} {X Y : Option β} {r : β} (h : (if b = true then X else Y) = some r) (h1 : b = true → X = some r → Holds P F c st Q) (h2 : b = false → Y = some r → Holds P F c st Q) : Holds P F c st Q := by
  cases b
  · exact h2 rfl h
  · exact h1 rfl h
theorem deck_Text_ok {a0 : List (SCard)} {a1 : SDeck} {r : List UInt8} (h : deck_Text a0 a1 = some r) : deck_Text_C a0 a1 r := by
 refine PCall.bodyN I0_stable (by kernel_rfl) Tryz.func11 rfl Tryz.ntmps11 (rs := [.tmp 4]) rfl rfl ?_
 intro w0 av
 unfold deck_Text at h
 refine Rg [.a, .a] (sl 37 [(0, vL encSCard a0), (3, vP [3] (0))] [bx [3] (encSDeck a1)]) (aN) ?_
 refine Holds.seq ?_
 obtain ⟨r1, hr1, h⟩ := bS h
 refine Rg [.a, .a, (.c (vB r1)), .a] (sl 37 [(0, vL encSCard a0), (3, vP [3] (0)), (11, vB (!r1))] [bx [3] (encSDeck a1)]) (aC (deck_formed_ok hr1) <| aN) ?_
 refine iB h (fun hb h => ?_) (fun hb h => ?_)
 · refine Rg [.a] (sl 37 [(4, vS [])] []) (aN) ?_
   refine Holds.ret ?_
   refine Tr ?_
   exact bQ (vS []) (congrArg vS (sI h))
 refine Holds.skip ?_
 refine Tn ?_
 refine Ls (sl 37 [(0, vL encSCard a0), (3, vP [3] (0))] [bx [3] (encSDeck a1)]) ?_
 refine Holds.seq ?_
 refine Holds.region ?_
 refine Run.inl rfl rfl (Esc.bldNew 5 rfl rfl ?_)
 refine Rw [] (sl 37 [(0, vL encSCard a0), (3, vP [3] (0)), (5, vP [5] (0))] [⟨[5], none, [.bld [5] 56, .nils], false⟩, bx [3] (encSDeck a1)]) (aN) ?_
 refine Tn ?_
 refine Holds.seq ?_
 refine Rg [.a, .a, .a, .a] (sl 37 [(0, vL encSCard a0), (3, vP [3] (0)), (5, vP [5] (0)), (13, vL (eI .i64) a1.Cards), (14, vI (a1.Cards.length : Int)), (15, vI (0 : Int))] [⟨[5], none, [.bld [5] 56, .nils], false⟩, bx [3] (encSDeck a1)]) (aN) ?_
 refine iB0 h (fun hn h => ?_) (fun hn h => ?_)
 · refine Holds.block ?_
   refine It (σ := Unit) (B := fun _ => some (.inr ())) (o := ()) (N := FU) (s0 := ()) (fun _ => (sl 37 [(0, vL encSCard a0), (3, vP [3] (0)), (5, vP [5] (0)), (13, vL (eI .i64) a1.Cards), (14, vI (a1.Cards.length : Int)), (15, vI (0 : Int))] [⟨[5], none, [.bld [5] 56, .nils], false⟩, bx [3] (encSDeck a1)])) (by kernel_rfl) (wT) ?_
   rintro _ z hz -
   refine Rg [.a] (sl 37 [(0, vL encSCard a0), (3, vP [3] (0)), (5, vP [5] (0)), (13, vL (eI .i64) a1.Cards), (14, vI (a1.Cards.length : Int)), (15, vI (0 : Int)), (16, vB (decide ((0 : Int) < (a1.Cards.length : Int))))] [⟨[5], none, [.bld [5] 56, .nils], false⟩, bx [3] (encSDeck a1)]) (aN) ?_
   refine Holds.seq ?_
   refine Holds.ifB (decide ((0 : Int) < (a1.Cards.length : Int))) (by kernel_rfl) (fun q => ?_) (fun q => ?_)
   · exact absurd (of_decide_eq_true q) (by simp at hn; simp [hn])
   · refine Holds.exit ?_
     refine thenQ.exit ?_
     refine thenQ.exit ?_
     refine blockQ.out ?_
     refine Tn ?_
     refine Holds.seq ?_
     refine Holds.bstr (s := ([] : List UInt8)) (T := 56) (E := 5) (fun _ q => q) rfl (by kernel_rfl) rfl (fun B b l w q hBw => Tryz.Builder_String_any B b l w q hBw) (x := .tmp 5) rfl rfl (.inr ⟨rfl, rfl⟩) rfl ?_
     refine Rw [.a] (sl 37 [(4, vS ([] : List UInt8)), (36, vS ([] : List UInt8))] []) (aN) ?_
     refine Tn ?_
     refine Holds.ret ?_
     exact bQ (vS []) (congrArg vS (sI h))
 · refine Ow [5] 1 [1001, 5] 5 1 (sl 37 [(0, vL encSCard a0), (3, vP [3] (0)), (5, vP [5] (0)), (13, vL (eI .i64) a1.Cards), (14, vI (a1.Cards.length : Int)), (15, vI (0 : Int))] [⟨[1001, 5], some (5, 1, ([] : List UInt8).length), strL ([] : List UInt8), true⟩, ⟨[5], none, [.bld [5] 56, .osl [1001, 5]], false⟩, bx [3] (encSDeck a1)]) ?_
   refine Holds.block ?_
   obtain ⟨o, hi, h⟩ := bS h
   refine It (fun (v : Int × List UInt8) => (sl 37 [(0, vL encSCard a0), (3, vP [3] (0)), (5, vP [5] (0)), (13, vL (eI .i64) a1.Cards), (14, vI (a1.Cards.length : Int)), (15, vI v.1)] [⟨[1001, 5], some (5, 1, v.2.length), strL v.2, true⟩, ⟨[5], none, [.bld [5] 56, .osl [1001, 5]], false⟩, bx [3] (encSDeck a1)])) hi (wT) ?_
   rintro ⟨i, acc⟩ z hz ho
   replace hz : deck_Text_B a0 a1 i acc = some z := hz
   unfold deck_Text_B at hz
   refine Rg [.a] (sl 37 [(0, vL encSCard a0), (3, vP [3] (0)), (5, vP [5] (0)), (13, vL (eI .i64) a1.Cards), (14, vI (a1.Cards.length : Int)), (15, vI i), (16, vB (decide (i < (a1.Cards.length : Int))))] [⟨[1001, 5], some (5, 1, acc.length), strL acc, true⟩, ⟨[5], none, [.bld [5] 56, .osl [1001, 5]], false⟩, bx [3] (encSDeck a1)]) (aN) ?_
   refine Holds.seq ?_
   refine iB hz (fun hb hz => ?_) (fun hb hz => ?_)
   · refine Holds.skip ?_
     refine Tn ?_
     refine Holds.seq ?_
     refine Holds.block ?_
     obtain ⟨e2, he2, hz⟩ := bS hz
     refine Rg [.a, .a, (.v (vI e2)), .a, .a] (sl 37 [(0, vL encSCard a0), (3, vP [3] (0)), (5, vP [5] (0)), (6, vI i), (7, vI e2), (13, vL (eI .i64) a1.Cards), (14, vI (a1.Cards.length : Int)), (15, vI i)] [⟨[1001, 5], some (5, 1, acc.length), strL acc, true⟩, ⟨[5], none, [.bld [5] 56, .osl [1001, 5]], false⟩, bx [3] (encSDeck a1)]) (aC (idx_b he2) <| aC (eld he2 (lenI .i64) 0 1 false (vI e2)) <| aC (Eq.refl (vI e2)) <| aN) ?_
     obtain ⟨e3, he3, hz⟩ := bS hz
     obtain ⟨r4, hr4, hz⟩ := bS hz
     obtain ⟨s5, hs5, hz⟩ := bS hz
     obtain ⟨e6, he6, hz⟩ := bS hz
     obtain ⟨s7, hs7, hz⟩ := bS hz
     obtain ⟨s8, hs8, hz⟩ := bS hz
     obtain ⟨u, hu, hz⟩ := bS hz
     refine Holds.regZ followsP 14 [[], [0], [], [0, 1, 2], [0, 1, 2, 3], [0, 1, 2, 3, 4], [0, 1, 2, 3, 4, 5], [], [], [7, 8], [7, 8, 9], [7, 8, 9, 10], [0, 1, 2, 3, 4, 5, 6, 7, 8, 9, 10, 11], [0, 1, 2, 3, 4, 5, 6, 7, 8, 9, 10, 11, 12], [0, 1, 2, 3, 4, 5, 6, 7, 8, 9, 10, 11, 12, 13]] [] [[]] [.a, .a, .a, .a, (.v (vI e3)), (.c (vS r4)), (.v (vS s5)), .a, .a, .a, .a, (.v (vS e6.Name)), (.v (vS s7)), (.v (vS s8))] [[1001, 5], [5], [3]] ⟨slD 37 0 [(0, [], vL encSCard a0), (3, [], vP [3] (0)), (5, [], vP [5] (0)), (6, [], vI i), (7, [], vI e2), (13, [], vL (eI .i64) a1.Cards), (14, [], vI (a1.Cards.length : Int)), (15, [], vI i), (20, [(0, vP [3] (1))], .undef), (21, [(1, vL (eI .i64) a1.Counts)], .undef), (22, [(2, vI i)], .undef), (23, [(3, vX (eI .i64) a1.Counts ((i).toNat * 1))], .undef), (24, [(4, vI e3)], .undef), (25, [(5, vS r4)], .undef), (26, [(6, vS s5)], .undef), (27, [(7, vL encSCard a0)], .undef), (28, [(8, vI e2)], .undef), (29, [(9, vX encSCard a0 ((e2).toNat * 17))], .undef), (30, [(10, vX encSCard a0 ((e2).toNat * 17 + 0))], .undef), (31, [(11, vS e6.Name)], .undef), (32, [(12, vS s7)], .undef), (33, [(13, vS s8)], .undef)], [([], some (⟨[1001, 5], some (5, 1, acc.length), strL acc, true⟩)), ([], some (⟨[5], none, [.bld [5] 56, .osl [1001, 5]], false⟩)), ([], some (bx [3] (encSDeck a1)))], [], []⟩ [[], [], [], [0 ≤ i ∧ i < (a1.Counts.length : Int)], [(i).toNat * 1 + 1 ≤ (a1.Counts.flatMap (eI .i64)).length ∧ toV false ((i).toNat * 1) 1 (a1.Counts.flatMap (eI .i64)) = vI e3, (vI e3 : V) = vI e3], [num_Text_C e3 r4], [r4.length + str_x20.length ≤ maxLen, V.c (.str (r4 ++ str_x20)) = .c (.str s5)], [], [], [0 ≤ e2 ∧ e2 < (a0.length : Int)], [], [(e2).toNat * 17 + 0 + 1 ≤ (a0.flatMap (encSCard)).length ∧ toV false ((e2).toNat * 17 + 0) 1 (a0.flatMap (encSCard)) = vS e6.Name, (vS e6.Name : V) = vS e6.Name], [s5.length + e6.Name.length ≤ maxLen, V.c (.str (s5 ++ e6.Name)) = .c (.str s7)], [s7.length + str_x0a.length ≤ maxLen, V.c (.str (s7 ++ str_x0a)) = .c (.str s8)], [s7.length + str_x0a.length ≤ maxLen, V.c (.str (s7 ++ str_x0a)) = .c (.str s8)]] (bC (aN) <| bC (aN) <| bC (aN) <| bC (aC (idx_b he3) <| aN) <| bC (aC (eld he3 (lenI .i64) 0 1 false (vI e3)) <| aC (Eq.refl (vI e3)) <| aN) <| bC (aC (num_Text_ok hr4) <| aN) <| bC (aC (cat_b hs5) <| aC (congrArg (fun z => V.c (.str z)) (cat_x hs5).symm) <| aN) <| bC (aN) <| bC (aN) <| bC (aC (idx_b he6) <| aN) <| bC (aN) <| bC (aC (eld he6 lenSCard 0 1 false (vS e6.Name)) <| aC (Eq.refl (vS e6.Name)) <| aN) <| bC (aC (cat_b hs7) <| aC (congrArg (fun z => V.c (.str z)) (cat_x hs7).symm) <| aN) <| bC (aC (cat_b hs8) <| aC (congrArg (fun z => V.c (.str z)) (cat_x hs8).symm) <| aN) <| bC (aC (cat_b hs8) <| aC (congrArg (fun z => V.c (.str z)) (cat_x hs8).symm) <| aN) <| bN) _ ?_ (ho := rfl)
     refine Esc.inline (s := True ∧ (True ∧ True)) (vs := [vP [5] (0), vS s8]) (cs := []) 34 rfl rfl rfl (by kernel_rfl) ⟨trivial, ⟨trivial, trivial⟩⟩ (by kernel_rfl) (by kernel_rfl) Tryz.func24 rfl Tryz.ntmps24 (rs := [.tmp 4, .tmp 5]) rfl ?_
     intro w0 av old gv
     refine At (sg 19 [(0, vP [5] (0)), (1, vS s8)] [⟨[1001, 5], some (5, 1, acc.length), strL acc, true⟩, ⟨[5], none, [.bld [5] 56, .osl [1001, 5]], false⟩, bx [3] (encSDeck a1)] 37 [(0, vL encSCard a0), (3, vP [3] (0)), (5, vP [5] (0)), (6, vI i), (7, vI e2), (13, vL (eI .i64) a1.Cards), (14, vI (a1.Cards.length : Int)), (15, vI i), (20, vP [3] (1)), (21, vL (eI .i64) a1.Counts), (22, vI i), (23, vX (eI .i64) a1.Counts ((i).toNat * 1)), (24, vI e3), (25, vS r4), (26, vS s5), (27, vL encSCard a0), (28, vI e2), (29, vX encSCard a0 ((e2).toNat * 17)), (30, vX encSCard a0 ((e2).toNat * 17 + 0)), (31, vS e6.Name), (32, vS s7), (33, vS s8)] [34]) ?_
     refine Rg [.a, .a] (sg 19 [(0, vP [5] (0)), (1, vS s8)] [⟨[1001, 5], some (5, 1, acc.length), strL acc, true⟩, ⟨[5], none, [.bld [5] 56, .osl [1001, 5]], false⟩, bx [3] (encSDeck a1)] 37 [(0, vL encSCard a0), (3, vP [3] (0)), (5, vP [5] (0)), (6, vI i), (7, vI e2), (13, vL (eI .i64) a1.Cards), (14, vI (a1.Cards.length : Int)), (15, vI i), (20, vP [3] (1)), (21, vL (eI .i64) a1.Counts), (22, vI i), (23, vX (eI .i64) a1.Counts ((i).toNat * 1)), (24, vI e3), (25, vS r4), (26, vS s5), (27, vL encSCard a0), (28, vI e2), (29, vX encSCard a0 ((e2).toNat * 17)), (30, vX encSCard a0 ((e2).toNat * 17 + 0)), (31, vS e6.Name), (32, vS s7), (33, vS s8)] [34]) (aN) ?_
     refine Holds.seq ?_
     refine Holds.region ?_
     refine Rp 1 [.a] (sg 19 [(0, vP [5] (0)), (1, vS s8), (6, vP [5] (0))] [⟨[1001, 5], some (5, 1, acc.length), strL acc, true⟩, ⟨[5], none, [.bld [5] 56, .osl [1001, 5]], false⟩, bx [3] (encSDeck a1)] 37 [(0, vL encSCard a0), (3, vP [3] (0)), (5, vP [5] (0)), (6, vI i), (7, vI e2), (13, vL (eI .i64) a1.Cards), (14, vI (a1.Cards.length : Int)), (15, vI i), (20, vP [3] (1)), (21, vL (eI .i64) a1.Counts), (22, vI i), (23, vX (eI .i64) a1.Counts ((i).toNat * 1)), (24, vI e3), (25, vS r4), (26, vS s5), (27, vL encSCard a0), (28, vI e2), (29, vX encSCard a0 ((e2).toNat * 17)), (30, vX encSCard a0 ((e2).toNat * 17 + 0)), (31, vS e6.Name), (32, vS s7), (33, vS s8)] [34]) (aN) ?_
     refine Run.inl rfl rfl (Esc.cc (id := [5]) (c1 := .osl [1001, 5]) (T := 56) rfl (by kernel_rfl) Tryz.copyCheck_used Tryz.copyCheck_fresh ?_)
     refine Rw [] (sg 19 [(0, vP [5] (0)), (1, vS s8), (6, vP [5] (0)), (7, .tup [])] [⟨[1001, 5], some (5, 1, acc.length), strL acc, true⟩, ⟨[5], none, [.bld [5] 56, .osl [1001, 5]], false⟩, bx [3] (encSDeck a1)] 37 [(0, vL encSCard a0), (3, vP [3] (0)), (5, vP [5] (0)), (6, vI i), (7, vI e2), (13, vL (eI .i64) a1.Cards), (14, vI (a1.Cards.length : Int)), (15, vI i), (20, vP [3] (1)), (21, vL (eI .i64) a1.Counts), (22, vI i), (23, vX (eI .i64) a1.Counts ((i).toNat * 1)), (24, vI e3), (25, vS r4), (26, vS s5), (27, vL encSCard a0), (28, vI e2), (29, vX encSCard a0 ((e2).toNat * 17)), (30, vX encSCard a0 ((e2).toNat * 17 + 0)), (31, vS e6.Name), (32, vS s7), (33, vS s8)] [34]) (aN) ?_
     refine Tn ?_
     refine Ls (sg 19 [(0, vP [5] (0)), (1, vS s8)] [⟨[1001, 5], some (5, 1, acc.length), strL acc, true⟩, ⟨[5], none, [.bld [5] 56, .osl [1001, 5]], false⟩, bx [3] (encSDeck a1)] 37 [(0, vL encSCard a0), (3, vP [3] (0)), (5, vP [5] (0)), (6, vI i), (7, vI e2), (13, vL (eI .i64) a1.Cards), (14, vI (a1.Cards.length : Int)), (15, vI i), (20, vP [3] (1)), (21, vL (eI .i64) a1.Counts), (22, vI i), (23, vX (eI .i64) a1.Counts ((i).toNat * 1)), (24, vI e3), (25, vS r4), (26, vS s5), (27, vL encSCard a0), (28, vI e2), (29, vX encSCard a0 ((e2).toNat * 17)), (30, vX encSCard a0 ((e2).toNat * 17 + 0)), (31, vS e6.Name), (32, vS s7), (33, vS s8)] [34]) ?_
     refine Holds.seq ?_
     refine Holds.region ?_
     refine Rp 6 [.a, .a, .a, .a, .a, .a] (sg 19 [(0, vP [5] (0)), (1, vS s8), (8, vP [5] (0)), (9, vP [5] (0)), (10, vP [5] (0)), (11, vP [5] (1)), (12, vO [1001, 5]), (13, vS s8)] [⟨[1001, 5], some (5, 1, acc.length), strL acc, true⟩, ⟨[5], none, [.bld [5] 56, .osl [1001, 5]], false⟩, bx [3] (encSDeck a1)] 37 [(0, vL encSCard a0), (3, vP [3] (0)), (5, vP [5] (0)), (6, vI i), (7, vI e2), (13, vL (eI .i64) a1.Cards), (14, vI (a1.Cards.length : Int)), (15, vI i), (20, vP [3] (1)), (21, vL (eI .i64) a1.Counts), (22, vI i), (23, vX (eI .i64) a1.Counts ((i).toNat * 1)), (24, vI e3), (25, vS r4), (26, vS s5), (27, vL encSCard a0), (28, vI e2), (29, vX encSCard a0 ((e2).toNat * 17)), (30, vX encSCard a0 ((e2).toNat * 17 + 0)), (31, vS e6.Name), (32, vS s7), (33, vS s8)] [34]) (aC (show True ∧ True from ⟨trivial, trivial⟩) <| aN) ?_
     refine Run.inl rfl rfl (Esc.appS (r := [1001, 5]) (E := 5) (len := acc.length) (cs := strL acc) (pu := true) (s := s8) 14 rfl rfl rfl rfl rfl (need_b hu) ?_)
     refine Rw [.a, .a, .a] (sg 19 [(0, vP [5] (0)), (1, vS s8), (8, vP [5] (0)), (9, vP [5] (0)), (10, vP [5] (0)), (11, vP [5] (1)), (13, vS s8), (14, vO [1001, 5]), (15, vP [5] (0)), (16, vP [5] (1))] [⟨[1001, 5], some (5, 1, acc.length + s8.length), strL acc ++ strL s8, true⟩, ⟨[5], none, [.bld [5] 56, .osl [1001, 5]], false⟩, bx [3] (encSDeck a1)] 37 [(0, vL encSCard a0), (3, vP [3] (0)), (5, vP [5] (0)), (6, vI i), (7, vI e2), (13, vL (eI .i64) a1.Cards), (14, vI (a1.Cards.length : Int)), (15, vI i), (20, vP [3] (1)), (21, vL (eI .i64) a1.Counts), (22, vI i), (23, vX (eI .i64) a1.Counts ((i).toNat * 1)), (24, vI e3), (25, vS r4), (26, vS s5), (27, vL encSCard a0), (28, vI e2), (29, vX encSCard a0 ((e2).toNat * 17)), (30, vX encSCard a0 ((e2).toNat * 17 + 0)), (31, vS e6.Name), (32, vS s7), (33, vS s8)] [34]) (aC (show True ∧ True from ⟨trivial, trivial⟩) <| aN) ?_
     refine Tn ?_
     refine Rg [.a, .a, .a, .a] (sg 19 [(4, vI (s8.length : Int)), (5, .c .niface)] [⟨[1001, 5], some (5, 1, acc.length + s8.length), strL acc ++ strL s8, true⟩, ⟨[5], none, [.bld [5] 56, .osl [1001, 5]], false⟩, bx [3] (encSDeck a1)] 37 [(0, vL encSCard a0), (3, vP [3] (0)), (5, vP [5] (0)), (6, vI i), (7, vI e2), (13, vL (eI .i64) a1.Cards), (14, vI (a1.Cards.length : Int)), (15, vI i), (20, vP [3] (1)), (21, vL (eI .i64) a1.Counts), (22, vI i), (23, vX (eI .i64) a1.Counts ((i).toNat * 1)), (24, vI e3), (25, vS r4), (26, vS s5), (27, vL encSCard a0), (28, vI e2), (29, vX encSCard a0 ((e2).toNat * 17)), (30, vX encSCard a0 ((e2).toNat * 17 + 0)), (31, vS e6.Name), (32, vS s7), (33, vS s8)] [34]) (aN) ?_
     refine Holds.ret ?_
     refine inQ.ret (v := .tup [vI (s8.length : Int), .c .niface]) (by kernel_rfl) ?_
     refine blockQ.normal ?_
     refine Tn ?_
     refine Ls (sl 37 [(0, vL encSCard a0), (3, vP [3] (0)), (5, vP [5] (0)), (13, vL (eI .i64) a1.Cards), (14, vI (a1.Cards.length : Int)), (15, vI i)] [⟨[1001, 5], some (5, 1, acc.length + s8.length), strL acc ++ strL s8, true⟩, ⟨[5], none, [.bld [5] 56, .osl [1001, 5]], false⟩, bx [3] (encSDeck a1)]) ?_
     refine AtE (sl 37 [(0, vL encSCard a0), (3, vP [3] (0)), (5, vP [5] (0)), (13, vL (eI .i64) a1.Cards), (14, vI (a1.Cards.length : Int)), (15, vI i)] [⟨[1001, 5], some (5, 1, (acc ++ s8).length), strL (acc ++ s8), true⟩, ⟨[5], none, [.bld [5] 56, .osl [1001, 5]], false⟩, bx [3] (encSDeck a1)]) (by rw [← strL_app, ← List.length_append]) ?_
     refine Re [.a, .a] (sl 37 [(0, vL encSCard a0), (3, vP [3] (0)), (5, vP [5] (0)), (13, vL (eI .i64) a1.Cards), (14, vI (a1.Cards.length : Int)), (15, vI (wrap64 (i + (1 : Int)))), (35, vI (wrap64 (i + (1 : Int))))] [⟨[1001, 5], some (5, 1, (acc ++ s8).length), strL (acc ++ s8), true⟩, ⟨[5], none, [.bld [5] 56, .osl [1001, 5]], false⟩, bx [3] (encSDeck a1)]) (aN) (Tn ⟨(wrap64 (i + (1 : Int)), acc ++ s8), (sI hz).symm, wT⟩)
   · obtain ⟨u, hu, hz⟩ := bS hz
     have ho_ := ho _ (sI hz).symm
     subst ho_
     refine Holds.exit ?_
     refine thenQ.exit ?_
     refine thenQ.exit ?_
     refine blockQ.out ?_
     refine Tn ?_
     refine Holds.seq ?_
     refine Holds.bstr (s := acc) (T := 56) (E := 5) (fun _ q => q) rfl (by kernel_rfl) rfl (fun B b l w q hBw => Tryz.Builder_String_any B b l w q hBw) (x := .tmp 5) rfl rfl (.inl ⟨[1001, 5], true, rfl, by decide, rfl, need_b hu⟩) rfl ?_
     refine Rw [.a] (sl 37 [(4, vS acc), (36, vS acc)] []) (aN) ?_
     refine Tn ?_
     refine Holds.ret ?_
     exact bQ (vS acc) (congrArg vS (sI h))
-- deck_formed_ok num_Text_ok

/-- cardgame/cardgameref23.Same -/
def r23_Same (a0 : SDeck) (a1 : SDeck) : Option (Bool) :=
 (r23_Ints a0.Cards a1.Cards).bind fun r1 =>
 (gd (r1 == true) (r23_Ints a0.Counts a1.Counts)).bind fun r2 =>
 (some (if r1 = true then r2 else false)).bind fun b3 =>
 some b3
def r23_Same_C (a0 : SDeck) (a1 : SDeck) (r : Bool) : Prop := PCall Tryz.prog I0 15 [vA encSDeck a0, vA encSDeck a1] (· = vB r)
theorem r23_Same_ok {a0 : SDeck} {a1 : SDeck} {r : Bool} (h : r23_Same a0 a1 = some r) : r23_Same_C a0 a1 r := by
 refine PCall.body I0_stable (by kernel_rfl) Tryz.func15 rfl Tryz.ntmps15 (rs := [.tmp 4]) rfl rfl ?_
 intro w0 av old gv
 unfold r23_Same at h
 refine Rg [.a, .a, .a] (sl 17 [(2, vP [2] (0)), (3, vP [3] (0))] [bx [3] (encSDeck a1), bx [2] (encSDeck a0)]) (aN) ?_
 obtain ⟨r1, hr1, h⟩ := bS h
 obtain ⟨r2, hr2, h⟩ := bS h
 obtain ⟨b3, hb3, h⟩ := bS h
 refine Rg [.a, .a, .a, .a, (.c (vB r1)), .a, .a, .a, .a, .a, (.c (vB r2)), (.v (vB b3)), .a] (sl 17 [(4, vB b3)] []) (aC (r23_Ints_ok hr1) <| aG (r1 == true) <| aG (r1 == true) <| aC (c2 hr2 r23_Ints_ok) <| aT r1 <| aB hb3 <| aN) ?_
 refine Holds.ret ?_
 exact bQ (vB b3) (congrArg vB (sI h))
/-- cardgame/num.Add -/
def num_Add (a0 : Int) (a1 : Int) : Option (Int) :=
 (num_Clamp a0).bind fun r1 =>
 (num_Clamp a1).bind fun r2 =>
 (num_Clamp (wrap64 (r1 + r2))).bind fun r3 =>
 some r3
def num_Add_C (a0 : Int) (a1 : Int) (r : Int) : Prop := PCall Tryz.prog I0 34 [vI a0, vI a1] (· = vI r)
theorem num_Add_ok {a0 : Int} {a1 : Int} {r : Int} (h : num_Add a0 a1 = some r) : num_Add_C a0 a1 r := by
 refine PCall.body I0_stable (by kernel_rfl) Tryz.func34 rfl Tryz.ntmps34 (rs := [.tmp 4]) rfl rfl ?_
 intro w0 av old gv
 unfold num_Add at h
 refine Rg [.a] (sl 11 [(0, vI a0), (1, vI a1)] []) (aN) ?_
 obtain ⟨r1, hr1, h⟩ := bS h
 obtain ⟨r2, hr2, h⟩ := bS h
 obtain ⟨r3, hr3, h⟩ := bS h
 refine Rg [.a, (.c (vI r1)), .a, (.c (vI r2)), .a, (.c (vI r3)), .a] (sl 11 [(4, vI r3)] []) (aC (num_Clamp_ok hr1) <| aC (num_Clamp_ok hr2) <| aC (num_Clamp_ok hr3) <| aN) ?_
 refine Holds.ret ?_
 exact bQ (vI r3) (congrArg vI (sI h))
/-- cardgame/word.Index -/
def word_Index (a0 : List (List UInt8)) (a1 : List UInt8) : Option (Int) :=
 (slices_Index_string_string a0 a1).bind fun r1 =>
 some r1
def word_Index_C (a0 : List (List UInt8)) (a1 : List UInt8) (r : Int) : Prop := PCall Tryz.prog I0 21 [vL eS a0, vS a1] (· = vI r)
theorem word_Index_ok {a0 : List (List UInt8)} {a1 : List UInt8} {r : Int} (h : word_Index a0 a1 = some r) : word_Index_C a0 a1 r := by
 refine PCall.body I0_stable (by kernel_rfl) Tryz.func21 rfl Tryz.ntmps21 (rs := [.tmp 4]) rfl rfl ?_
 intro w0 av old gv
 unfold word_Index at h
 refine Rg [.a] (sl 8 [(0, vL eS a0), (1, vS a1)] []) (aN) ?_
 obtain ⟨r1, hr1, h⟩ := bS h
 refine Rg [.a, .a, (.c (vI r1)), .a] (sl 8 [(4, vI r1)] []) (aC (slices_Index_string_string_ok hr1) <| aN) ?_
 refine Holds.ret ?_
 exact bQ (vI r1) (congrArg vI (sI h))
end Go.PL
