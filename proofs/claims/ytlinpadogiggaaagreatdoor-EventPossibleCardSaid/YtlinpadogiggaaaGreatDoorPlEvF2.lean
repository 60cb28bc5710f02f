/- Functions of the program, as partial functions in Lean, with proofs. -/
import Derived.Test.YtlinpadogiggaaaGreatDoorPlEvB
import Derived.Test.YtlinpadogiggaaaGreatDoorPlEvF0
import Derived.Test.YtlinpadogiggaaaGreatDoorPlEvF1
namespace Go.PL
open Go Go.RowKit Go.Proofs
set_option maxRecDepth 100000
set_option linter.all false
set_option maxHeartbeats 1000000
attribute [local irreducible] Holds thenQ blockQ
def r02_Is_J8  : Option (Bool) :=
 some true
def r02_Is_B11 (a0 : List UInt8) (vt3_10 : Int) : Option ((Int) ⊕ (Unit ⊕ Unit)) :=
 (if (decide (vt3_10 < (a0.length : Int))) = true then
  (sidx a0 vt3_10).bind fun c13 =>
  (r02_low c13).bind fun r14 =>
  (gd ((!r14) == true) (sidx a0 vt3_10)).bind fun c15 =>
  (gd (((!r14) == true) && ((decide (c15 < (48 : Int))) == false)) (sidx a0 vt3_10)).bind fun c16 =>
  (some (if (decide (c15 < (48 : Int))) = true then true else decide ((57 : Int) < c16))).bind fun b17 =>
  (some (if (!r14) = true then b17 else false)).bind fun b18 =>
  (gd (b18 == true) (sidx a0 vt3_10)).bind fun c19 =>
  (some (if b18 = true then c19 != (45 : Int) else false)).bind fun b20 =>
  (if b20 = true then
   some (.inr (.inl ()))
  else
   (gd ((decide ((0 : Int) < vt3_10)) == true) (sidx a0 vt3_10)).bind fun c22 =>
   (some (if (decide ((0 : Int) < vt3_10)) = true then c22 == (45 : Int) else false)).bind fun b23 =>
   (gd (b23 == true) (sidx a0 (wrap64 (vt3_10 - (1 : Int))))).bind fun c24 =>
   (some (if b23 = true then c24 == (45 : Int) else false)).bind fun b25 =>
   (if b25 = true then
    some (.inr (.inl ()))
   else
    some (.inl (wrap64 (vt3_10 + (1 : Int))))))
 else
  some (.inr (.inr ())))
/-- cardgame/cardgameref02.Is -/
def r02_Is (a0 : List UInt8) : Option (Bool) :=
 (some (if (decide ((a0.length : Int) < (1 : Int))) = true then true else decide ((32 : Int) < (a0.length : Int)))).bind fun b1 =>
 (gd (b1 == false) (sidx a0 (0 : Int))).bind fun c2 =>
 (gd (b1 == false) (r02_low c2)).bind fun r3 =>
 (some (if b1 = true then true else !r3)).bind fun b4 =>
 (gd (b4 == false) (sidx a0 (wrap64 ((a0.length : Int) - (1 : Int))))).bind fun c5 =>
 (some (if b4 = true then true else c5 == (45 : Int))).bind fun b6 =>
 (if b6 = true then
  some false
 else
  (iter (fun (v : Int) => r02_Is_B11 a0 v) FU (0 : Int)).bind (Sum.elim (fun o0 => some false) (fun o1 => r02_Is_J8)))
def r02_Is_C (a0 : List UInt8) (r : Bool) : Prop := PCall Tryz.prog I0 53 [vS a0] (· = vB r)
theorem r02_Is_ok {a0 : List UInt8} {r : Bool} (h : r02_Is a0 = some r) : r02_Is_C a0 r := by
 refine PCall.body I0_stable (by kernel_rfl) Tryz.func53 rfl Tryz.ntmps53 (rs := [.tmp 2]) rfl rfl ?_
 intro w0 av old gv
 unfold r02_Is at h
 refine Rg [.a] (sl 70 [(0, vS a0)] []) (aN) ?_
 refine Holds.seq ?_
 obtain ⟨b1, hb1, h⟩ := bS h
 obtain ⟨c2, hc2, h⟩ := bS h
 obtain ⟨r3, hr3, h⟩ := bS h
 obtain ⟨b4, hb4, h⟩ := bS h
 obtain ⟨c5, hc5, h⟩ := bS h
 obtain ⟨b6, hb6, h⟩ := bS h
 refine Rg [.a, .a, .a, .a, .a, .a, .a, (.v (vB b1)), .a, .a, (.v (.c (.int .u8 c2))), (.c (vB r3)), .a, (.v (vB b4)), .a, .a, .a, .a, .a, (.v (.c (.int .u8 c5))), .a, (.v (vB b6))] (sl 70 [(0, vS a0), (25, vB b6)] []) (aG ((decide ((a0.length : Int) < (1 : Int))) == false) <| aG ((decide ((a0.length : Int) < (1 : Int))) == false) <| aF (decide ((a0.length : Int) < (1 : Int))) <| aB hb1 <| aC (fun hg : (b1 == false) = true => aC (gi (b1 == false)) <| aC (sidx_b (gd_t hc2 hg)) <| aC (congrArg (fun z => V.c (.int .u8 z)) (sidx_x (gd_t hc2 hg)).symm) <| aN) <| aC (c1 hr3 r02_low_ok) <| aG (b1 == false) <| aF b1 <| aB hb4 <| aG (b4 == false) <| aG (b4 == false) <| aC (fun hg : (b4 == false) = true => aC (gi (b4 == false)) <| aC (gi (b4 == false)) <| aC (sidx_b (gd_t hc5 hg)) <| aC (congrArg (fun z => V.c (.int .u8 z)) (sidx_x (gd_t hc5 hg)).symm) <| aN) <| aG (b4 == false) <| aF b4 <| aB hb6 <| aN) ?_
 refine iB h (fun b7 h => ?_) (fun b7 h => ?_)
 · refine Rg [.a] (sl 70 [(2, vB false)] []) (aN) ?_
   refine Holds.ret ?_
   refine Tr ?_
   exact bQ (vB false) (congrArg vB (sI h))
 · refine Holds.skip ?_
   refine Tn ?_
   refine Holds.seqJ (X := Unit) (fun v => (sl 70 [] [])) (fun v => r02_Is_J8 = some r) ?_ ?_
   · refine Rg [.a] (sl 70 [(0, vS a0), (3, vI (0 : Int))] []) (aN) ?_
     refine Holds.block ?_
     obtain ⟨oB11, hiB11, h⟩ := bS h
     refine Holds.iter (fun (v : Int) => (sl 70 [(0, vS a0), (3, vI v)] [])) hiB11 (lT) ?_
     rintro vt3_10 zB11 hzB11 hoB11
     replace hzB11 : r02_Is_B11 a0 vt3_10 = some zB11 := hzB11
     unfold r02_Is_B11 at hzB11
     refine Holds.seq ?_
     refine Rg [.a, .a, .a, .a] (sl 70 [(0, vS a0), (3, vI vt3_10), (29, vB (decide (vt3_10 < (a0.length : Int))))] []) (aN) ?_
     refine iB hzB11 (fun b12 hzB11 => ?_) (fun b12 hzB11 => ?_)
     · refine Holds.skip ?_
       refine Tn ?_
       refine Holds.seq ?_
       refine Holds.block ?_
       refine Holds.seq ?_
       obtain ⟨c13, hc13, hzB11⟩ := bS hzB11
       obtain ⟨r14, hr14, hzB11⟩ := bS hzB11
       obtain ⟨c15, hc15, hzB11⟩ := bS hzB11
       obtain ⟨c16, hc16, hzB11⟩ := bS hzB11
       obtain ⟨b17, hb17, hzB11⟩ := bS hzB11
       obtain ⟨b18, hb18, hzB11⟩ := bS hzB11
       obtain ⟨c19, hc19, hzB11⟩ := bS hzB11
       obtain ⟨b20, hb20, hzB11⟩ := bS hzB11
       refine Rg [.a, .a, (.v (.c (.int .u8 c13))), (.c (vB r14)), .a, .a, .a, .a, (.v (.c (.int .u8 c15))), .a, .a, .a, .a, (.v (.c (.int .u8 c16))), .a, (.v (vB b17)), (.v (vB b18)), .a, .a, .a, (.v (.c (.int .u8 c19))), .a, (.v (vB b20))] (sl 70 [(0, vS a0), (3, vI vt3_10), (54, vB b20)] []) (aC (sidx_b hc13) <| aC (congrArg (fun z => V.c (.int .u8 z)) (sidx_x hc13).symm) <| aC (r02_low_ok hr14) <| aC (fun hg : ((!r14) == true) = true => aC (gi ((!r14) == true)) <| aC (gi ((!r14) == true)) <| aC (sidx_b (gd_t hc15 hg)) <| aC (congrArg (fun z => V.c (.int .u8 z)) (sidx_x (gd_t hc15 hg)).symm) <| aN) <| aG ((!r14) == true) <| aG ((!r14) == true) <| aC (fun hg : (((!r14) == true) && ((decide (c15 < (48 : Int))) == false)) = true => aC (gi (((!r14) == true) && ((decide (c15 < (48 : Int))) == false))) <| aC (gi (((!r14) == true) && ((decide (c15 < (48 : Int))) == false))) <| aC (sidx_b (gd_t hc16 hg)) <| aC (congrArg (fun z => V.c (.int .u8 z)) (sidx_x (gd_t hc16 hg)).symm) <| aN) <| aG (((!r14) == true) && ((decide (c15 < (48 : Int))) == false)) <| aC (fun hg : ((!r14) == true) = true => aC (gi ((!r14) == true)) <| aC (fun q : (decide (c15 < (48 : Int))) = false => (gA hg (gF q))) <| aB hb17 <| aN) <| aT (!r14) <| aB hb18 <| aC (fun hg : (b18 == true) = true => aC (gi (b18 == true)) <| aC (gi (b18 == true)) <| aC (sidx_b (gd_t hc19 hg)) <| aC (congrArg (fun z => V.c (.int .u8 z)) (sidx_x (gd_t hc19 hg)).symm) <| aN) <| aG (b18 == true) <| aT b18 <| aB hb20 <| aN) ?_
       refine iB hzB11 (fun b21 hzB11 => ?_) (fun b21 hzB11 => ?_)
       · refine Rg [.a] (sl 70 [(2, vB false)] []) (aN) ?_
         refine Holds.ret ?_
         refine Tr ?_
         refine blockQ.ret ?_
         refine Tr ?_
         have hoB11_ := hoB11 _ (sI hzB11).symm
         subst hoB11_
         replace h := sumL h
         refine Tr ?_
         refine blockQ.ret ?_
         refine Tr ?_
         exact bQ (vB false) (congrArg vB (sI h))
       · refine Holds.skip ?_
         refine Tn ?_
         obtain ⟨c22, hc22, hzB11⟩ := bS hzB11
         obtain ⟨b23, hb23, hzB11⟩ := bS hzB11
         obtain ⟨c24, hc24, hzB11⟩ := bS hzB11
         obtain ⟨b25, hb25, hzB11⟩ := bS hzB11
         refine Rg [.a, .a, .a, .a, .a, (.v (.c (.int .u8 c22))), .a, (.v (vB b23)), .a, .a, .a, .a, (.v (.c (.int .u8 c24))), .a, (.v (vB b25))] (sl 70 [(0, vS a0), (3, vI vt3_10), (69, vB b25)] []) (aC (fun hg : ((decide ((0 : Int) < vt3_10)) == true) = true => aC (gi ((decide ((0 : Int) < vt3_10)) == true)) <| aC (gi ((decide ((0 : Int) < vt3_10)) == true)) <| aC (sidx_b (gd_t hc22 hg)) <| aC (congrArg (fun z => V.c (.int .u8 z)) (sidx_x (gd_t hc22 hg)).symm) <| aN) <| aG ((decide ((0 : Int) < vt3_10)) == true) <| aT (decide ((0 : Int) < vt3_10)) <| aB hb23 <| aG (b23 == true) <| aC (fun hg : (b23 == true) = true => aC (gi (b23 == true)) <| aC (gi (b23 == true)) <| aC (sidx_b (gd_t hc24 hg)) <| aC (congrArg (fun z => V.c (.int .u8 z)) (sidx_x (gd_t hc24 hg)).symm) <| aN) <| aG (b23 == true) <| aT b23 <| aB hb25 <| aN) ?_
         refine iB hzB11 (fun b26 hzB11 => ?_) (fun b26 hzB11 => ?_)
         · refine Rg [.a] (sl 70 [(2, vB false)] []) (aN) ?_
           refine Holds.ret ?_
           refine blockQ.ret ?_
           refine Tr ?_
           have hoB11_ := hoB11 _ (sI hzB11).symm
           subst hoB11_
           replace h := sumL h
           refine Tr ?_
           refine blockQ.ret ?_
           refine Tr ?_
           exact bQ (vB false) (congrArg vB (sI h))
         · refine Holds.skip ?_
           refine blockQ.normal ?_
           refine Tn ?_
           refine Re [.a, .a, .a] (sl 70 [(0, vS a0), (3, vI (wrap64 (vt3_10 + (1 : Int)))), (30, vI vt3_10), (31, vI (wrap64 (vt3_10 + (1 : Int)))), (69, vB b25)] []) (aN) ?_
           refine Tn ⟨(wrap64 (vt3_10 + (1 : Int))), (sI hzB11).symm, lT⟩
     · refine Holds.exit ?_
       refine thenQ.exit ?_
       have hoB11_ := hoB11 _ (sI hzB11).symm
       subst hoB11_
       replace h := sumR h
       refine thenQ.exit ?_
       refine blockQ.out ?_
       refine Tn ⟨(), h, lT⟩
   · rintro _ hJ8
     replace hJ8 : r02_Is_J8 = some r := hJ8
     unfold r02_Is_J8 at hJ8
     refine Rg [.a] (sl 70 [(2, vB true)] []) (aN) ?_
     refine Holds.ret ?_
     exact bQ (vB true) (congrArg vB (sI hJ8))
def r10_joined_J2  (s_t7_1 : List UInt8) : Option ((List UInt8)) :=
 some s_t7_1
def r10_joined_J11 (i_t8_6 : Int) (s_t7_10 : List UInt8) : Option (((List UInt8) × Int) ⊕ ((List UInt8))) :=
 some (.inl (s_t7_10, (wrap64 (i_t8_6 + (1 : Int)))))
def r10_joined_J15 (a0 : List (List UInt8)) (i_t8_6 : Int) (s_t7_14 : List UInt8) : Option (((List UInt8) × Int) ⊕ ((List UInt8))) :=
 (idx a0 i_t8_6).bind fun e16 =>
 (cat s_t7_14 e16).bind fun s17 =>
 r10_joined_J11 i_t8_6 s17
def r10_joined_B8 (a0 : List (List UInt8)) (a1 : Int) (a2 : List UInt8) (s_t7_5 : List UInt8) (i_t8_6 : Int) : Option (((List UInt8) × Int) ⊕ ((List UInt8))) :=
 (if (decide (i_t8_6 < (a0.length : Int))) = true then
  (r10_bit a1 i_t8_6).bind fun r12 =>
  (if r12 = true then
   (if (s_t7_5 != ([] : List UInt8)) = true then
    (cat s_t7_5 a2).bind fun s19 =>
    r10_joined_J15 a0 i_t8_6 s19
   else
    r10_joined_J15 a0 i_t8_6 s_t7_5)
  else
   r10_joined_J11 i_t8_6 s_t7_5)
 else
  some (.inr s_t7_5))
/-- cardgame/cardgameref10.joined -/
def r10_joined (a0 : List (List UInt8)) (a1 : Int) (a2 : List UInt8) : Option ((List UInt8)) :=
 (iter (fun (v : (List UInt8) × Int) => r10_joined_B8 a0 a1 a2 v.1 v.2) FU (([] : List UInt8), (0 : Int))).bind (fun o0 => r10_joined_J2 o0)
def r10_joined_C (a0 : List (List UInt8)) (a1 : Int) (a2 : List UInt8) (r : (List UInt8)) : Prop := PCall Tryz.prog I0 169 [vL eS a0, vI a1, vS a2] (· = vS r)
theorem r10_joined_ok {a0 : List (List UInt8)} {a1 : Int} {a2 : List UInt8} {r : (List UInt8)} (h : r10_joined a0 a1 a2 = some r) : r10_joined_C a0 a1 a2 r := by
 refine PCall.body I0_stable (by kernel_rfl) Tryz.func169 rfl Tryz.ntmps169 (rs := [.tmp 6]) rfl rfl ?_
 intro w0 av old gv
 unfold r10_joined at h
 refine Rg [.a] (sl 30 [(0, vL eS a0), (1, vI a1), (2, vS a2)] []) (aN) ?_
 refine Rg [.a] (sl 30 [(0, vL eS a0), (1, vI a1), (2, vS a2), (7, vS ([] : List UInt8))] []) (aN) ?_
 refine Holds.seqJ (X := (List UInt8)) (fun v => (sl 30 [(7, vS v)] [])) (fun v => r10_joined_J2 v = some r) ?_ ?_
 · refine Rg [.a] (sl 30 [(0, vL eS a0), (1, vI a1), (2, vS a2), (7, vS ([] : List UInt8)), (8, vI (0 : Int))] []) (aN) ?_
   refine Holds.block ?_
   obtain ⟨oB8, hiB8, h⟩ := bS h
   refine Holds.iter (fun (v : (List UInt8) × Int) => (sl 30 [(0, vL eS a0), (1, vI a1), (2, vS a2), (7, vS v.1), (8, vI v.2)] [])) hiB8 (lT) ?_
   rintro ⟨s_t7_5, i_t8_6⟩ zB8 hzB8 hoB8
   replace hzB8 : r10_joined_B8 a0 a1 a2 s_t7_5 i_t8_6 = some zB8 := hzB8
   unfold r10_joined_B8 at hzB8
   refine Holds.seq ?_
   refine Rg [.a, .a, .a, .a] (sl 30 [(0, vL eS a0), (1, vI a1), (2, vS a2), (7, vS s_t7_5), (8, vI i_t8_6), (12, vB (decide (i_t8_6 < (a0.length : Int))))] []) (aN) ?_
   refine iB hzB8 (fun b9 hzB8 => ?_) (fun b9 hzB8 => ?_)
   · refine Holds.skip ?_
     refine Tn ?_
     refine Holds.seqJ (X := (List UInt8)) (fun v => (sl 30 [(0, vL eS a0), (1, vI a1), (2, vS a2), (7, vS v), (8, vI i_t8_6)] [])) (fun v => r10_joined_J11 i_t8_6 v = some zB8) ?_ ?_
     · refine Holds.block ?_
       obtain ⟨r12, hr12, hzB8⟩ := bS hzB8
       refine Rg [.a, .a, (.c (vB r12))] (sl 30 [(0, vL eS a0), (1, vI a1), (2, vS a2), (7, vS s_t7_5), (8, vI i_t8_6), (17, vB r12)] []) (aC (r10_bit_ok hr12) <| aN) ?_
       refine iB hzB8 (fun b13 hzB8 => ?_) (fun b13 hzB8 => ?_)
       · refine Holds.seqJ (X := (List UInt8)) (fun v => (sl 30 [(0, vL eS a0), (1, vI a1), (2, vS a2), (7, vS v), (8, vI i_t8_6)] [])) (fun v => r10_joined_J15 a0 i_t8_6 v = some zB8) ?_ ?_
         · refine Rg [.a, .a] (sl 30 [(0, vL eS a0), (1, vI a1), (2, vS a2), (7, vS s_t7_5), (8, vI i_t8_6), (19, vB (s_t7_5 != ([] : List UInt8)))] []) (aN) ?_
           refine iB hzB8 (fun b18 hzB8 => ?_) (fun b18 hzB8 => ?_)
           · obtain ⟨s19, hs19, hzB8⟩ := bS hzB8
             refine Re [.a, .a, (.v (vS s19)), .a] (sl 30 [(0, vL eS a0), (1, vI a1), (2, vS a2), (7, vS s19), (8, vI i_t8_6), (19, vB (s_t7_5 != ([] : List UInt8))), (20, vS s_t7_5), (21, vS a2), (22, vS s19)] []) (aC (cat_b hs19) <| aC (congrArg (fun z => V.c (.str z)) (cat_x hs19).symm) <| aN) ?_
             refine Tn ⟨s19, hzB8, lT⟩
           · refine Holds.skip ?_
             refine Tn ⟨s_t7_5, hzB8, lT⟩
         · rintro s_t7_14 hJ15
           replace hJ15 : r10_joined_J15 a0 i_t8_6 s_t7_14 = some zB8 := hJ15
           unfold r10_joined_J15 at hJ15
           obtain ⟨e16, he16, hJ15⟩ := bS hJ15
           obtain ⟨s17, hs17, hJ15⟩ := bS hJ15
           refine Re [.a, .a, .a, .a, (.v (vS e16)), (.v (vS s17)), .a] (sl 30 [(0, vL eS a0), (1, vI a1), (2, vS a2), (7, vS s17), (8, vI i_t8_6), (23, vS s_t7_14), (24, vL eS a0), (25, vI i_t8_6), (26, vX eS a0 ((i_t8_6).toNat * 1)), (27, vS e16), (28, vS s17)] []) (aC (idx_b he16) <| aC (eld he16 lenS 0 1 false (vS e16)) <| aC (Eq.refl (vS e16)) <| aC (cat_b hs17) <| aC (congrArg (fun z => V.c (.str z)) (cat_x hs17).symm) <| aN) ?_
           refine blockQ.normal ?_
           refine Tn ⟨s17, hJ15, lT⟩
       · refine Holds.skip ?_
         refine blockQ.normal ?_
         refine Tn ⟨s_t7_5, hzB8, lT⟩
     · rintro s_t7_10 hJ11
       replace hJ11 : r10_joined_J11 i_t8_6 s_t7_10 = some zB8 := hJ11
       unfold r10_joined_J11 at hJ11
       refine Re [.a, .a, .a] (sl 30 [(0, vL eS a0), (1, vI a1), (2, vS a2), (7, vS s_t7_10), (8, vI (wrap64 (i_t8_6 + (1 : Int)))), (13, vI i_t8_6), (14, vI (wrap64 (i_t8_6 + (1 : Int))))] []) (aN) ?_
       refine Tn ⟨(s_t7_10, (wrap64 (i_t8_6 + (1 : Int)))), (sI hJ11).symm, lT⟩
   · refine Holds.exit ?_
     refine thenQ.exit ?_
     have hoB8_ := hoB8 _ (sI hzB8).symm
     subst hoB8_
     refine thenQ.exit ?_
     refine blockQ.out ?_
     refine Tn ⟨s_t7_5, h, lT⟩
 · rintro s_t7_1 hJ2
   replace hJ2 : r10_joined_J2 s_t7_1 = some r := hJ2
   unfold r10_joined_J2 at hJ2
   refine Rg [.a, .a] (sl 30 [(6, vS s_t7_1)] []) (aN) ?_
   refine Holds.ret ?_
   exact bQ (vS s_t7_1) (congrArg vS (sI hJ2))
def r09_Text_J5  (out_t3_4 : List UInt8) : Option ((List UInt8)) :=
 some out_t3_4
def r09_Text_J14 (i_t4_9 : Int) (out_t3_13 : List UInt8) : Option (((List UInt8) × Int) ⊕ ((List UInt8))) :=
 some (.inl (out_t3_13, (wrap64 (i_t4_9 + (1 : Int)))))
def r09_Text_J19 (i_t4_9 : Int) (out_t3_18 : List UInt8) : Option (((List UInt8) × Int) ⊕ ((List UInt8))) :=
 (r09_Name i_t4_9).bind fun r20 =>
 (cat out_t3_18 r20).bind fun s21 =>
 r09_Text_J14 i_t4_9 s21
def r09_Text_B11 (a0 : Int) (out_t3_8 : List UInt8) (i_t4_9 : Int) : Option (((List UInt8) × Int) ⊕ ((List UInt8))) :=
 (if (decide (i_t4_9 < (5 : Int))) = true then
  (need (0 ≤ i_t4_9)).bind fun u15 =>
  (need ((wrap64 ((1 : Int) * 2 ^ (min (i_t4_9).toNat (IntKind.i64).bits))) ≠ 0)).bind fun u16 =>
  (if ((Int.tmod (wrap64 (Int.tdiv a0 (wrap64 ((1 : Int) * 2 ^ (min (i_t4_9).toNat (IntKind.i64).bits))))) (2 : Int)) == (1 : Int)) = true then
   (if (out_t3_8 != ([] : List UInt8)) = true then
    (cat out_t3_8 str_x2b).bind fun s23 =>
    r09_Text_J19 i_t4_9 s23
   else
    r09_Text_J19 i_t4_9 out_t3_8)
  else
   r09_Text_J14 i_t4_9 out_t3_8)
 else
  some (.inr out_t3_8))
/-- cardgame/cardgameref09.Text -/
def r09_Text (a0 : Int) : Option ((List UInt8)) :=
 (r09_Is a0).bind fun r1 =>
 (if (!r1) = true then
  some ([] : List UInt8)
 else
  (if (a0 == (0 : Int)) = true then
   some str_none
  else
   (iter (fun (v : (List UInt8) × Int) => r09_Text_B11 a0 v.1 v.2) FU (([] : List UInt8), (0 : Int))).bind (fun o0 => r09_Text_J5 o0)))
def r09_Text_C (a0 : Int) (r : (List UInt8)) : Prop := PCall Tryz.prog I0 140 [vI a0] (· = vS r)
theorem r09_Text_ok {a0 : Int} {r : (List UInt8)} (h : r09_Text a0 = some r) : r09_Text_C a0 r := by
 refine PCall.body I0_stable (by kernel_rfl) Tryz.func140 rfl Tryz.ntmps140 (rs := [.tmp 2]) rfl rfl ?_
 intro w0 av old gv
 unfold r09_Text at h
 refine Rg [.a] (sl 29 [(0, vI a0)] []) (aN) ?_
 refine Holds.seq ?_
 obtain ⟨r1, hr1, h⟩ := bS h
 refine Rg [.a, (.c (vB r1)), .a] (sl 29 [(0, vI a0), (7, vB (!r1))] []) (aC (r09_Is_ok hr1) <| aN) ?_
 refine iB h (fun b2 h => ?_) (fun b2 h => ?_)
 · refine Rg [.a] (sl 29 [(2, vS ([] : List UInt8))] []) (aN) ?_
   refine Holds.ret ?_
   refine Tr ?_
   exact bQ (vS ([] : List UInt8)) (congrArg vS (sI h))
 · refine Holds.skip ?_
   refine Tn ?_
   refine Holds.seq ?_
   refine Rg [.a, .a] (sl 29 [(0, vI a0), (9, vB (a0 == (0 : Int)))] []) (aN) ?_
   refine iB h (fun b3 h => ?_) (fun b3 h => ?_)
   · refine Rg [.a] (sl 29 [(2, vS str_none)] []) (aN) ?_
     refine Holds.ret ?_
     refine Tr ?_
     exact bQ (vS str_none) (congrArg vS (sI h))
   · refine Holds.skip ?_
     refine Tn ?_
     refine Rg [.a] (sl 29 [(0, vI a0), (3, vS ([] : List UInt8))] []) (aN) ?_
     refine Holds.seqJ (X := (List UInt8)) (fun v => (sl 29 [(3, vS v)] [])) (fun v => r09_Text_J5 v = some r) ?_ ?_
     · refine Rg [.a] (sl 29 [(0, vI a0), (3, vS ([] : List UInt8)), (4, vI (0 : Int))] []) (aN) ?_
       refine Holds.block ?_
       obtain ⟨oB11, hiB11, h⟩ := bS h
       refine Holds.iter (fun (v : (List UInt8) × Int) => (sl 29 [(0, vI a0), (3, vS v.1), (4, vI v.2)] [])) hiB11 (lT) ?_
       rintro ⟨out_t3_8, i_t4_9⟩ zB11 hzB11 hoB11
       replace hzB11 : r09_Text_B11 a0 out_t3_8 i_t4_9 = some zB11 := hzB11
       unfold r09_Text_B11 at hzB11
       refine Holds.seq ?_
       refine Rg [.a, .a] (sl 29 [(0, vI a0), (3, vS out_t3_8), (4, vI i_t4_9), (11, vB (decide (i_t4_9 < (5 : Int))))] []) (aN) ?_
       refine iB hzB11 (fun b12 hzB11 => ?_) (fun b12 hzB11 => ?_)
       · refine Holds.skip ?_
         refine Tn ?_
         refine Holds.seqJ (X := (List UInt8)) (fun v => (sl 29 [(0, vI a0), (3, vS v), (4, vI i_t4_9)] [])) (fun v => r09_Text_J14 i_t4_9 v = some zB11) ?_ ?_
         · refine Holds.block ?_
           obtain ⟨u15, hu15, hzB11⟩ := bS hzB11
           obtain ⟨u16, hu16, hzB11⟩ := bS hzB11
           refine Rg [.a, .a, .a, .a, .a, .a] (sl 29 [(0, vI a0), (3, vS out_t3_8), (4, vI i_t4_9), (19, vB ((Int.tmod (wrap64 (Int.tdiv a0 (wrap64 ((1 : Int) * 2 ^ (min (i_t4_9).toNat (IntKind.i64).bits))))) (2 : Int)) == (1 : Int)))] []) (aC (need_b hu15) <| aC (need_b hu16) <| aC (show (2 : Int) ≠ 0 from (by decide)) <| aN) ?_
           refine iB hzB11 (fun b17 hzB11 => ?_) (fun b17 hzB11 => ?_)
           · refine Holds.seqJ (X := (List UInt8)) (fun v => (sl 29 [(0, vI a0), (3, vS v), (4, vI i_t4_9)] [])) (fun v => r09_Text_J19 i_t4_9 v = some zB11) ?_ ?_
             · refine Rg [.a, .a] (sl 29 [(0, vI a0), (3, vS out_t3_8), (4, vI i_t4_9), (21, vB (out_t3_8 != ([] : List UInt8)))] []) (aN) ?_
               refine iB hzB11 (fun b22 hzB11 => ?_) (fun b22 hzB11 => ?_)
               · obtain ⟨s23, hs23, hzB11⟩ := bS hzB11
                 refine Re [.a, (.v (vS s23)), .a] (sl 29 [(0, vI a0), (3, vS s23), (4, vI i_t4_9), (21, vB (out_t3_8 != ([] : List UInt8))), (22, vS out_t3_8), (23, vS s23)] []) (aC (cat_b hs23) <| aC (congrArg (fun z => V.c (.str z)) (cat_x hs23).symm) <| aN) ?_
                 refine Tn ⟨s23, hzB11, lT⟩
               · refine Holds.skip ?_
                 refine Tn ⟨out_t3_8, hzB11, lT⟩
             · rintro out_t3_18 hJ19
               replace hJ19 : r09_Text_J19 i_t4_9 out_t3_18 = some zB11 := hJ19
               unfold r09_Text_J19 at hJ19
               obtain ⟨r20, hr20, hJ19⟩ := bS hJ19
               obtain ⟨s21, hs21, hJ19⟩ := bS hJ19
               refine Re [.a, .a, (.c (vS r20)), (.v (vS s21)), .a] (sl 29 [(0, vI a0), (3, vS s21), (4, vI i_t4_9), (24, vS out_t3_18), (25, vI i_t4_9), (26, vS r20), (27, vS s21)] []) (aC (r09_Name_ok hr20) <| aC (cat_b hs21) <| aC (congrArg (fun z => V.c (.str z)) (cat_x hs21).symm) <| aN) ?_
               refine blockQ.normal ?_
               refine Tn ⟨s21, hJ19, lT⟩
           · refine Holds.skip ?_
             refine blockQ.normal ?_
             refine Tn ⟨out_t3_8, hzB11, lT⟩
         · rintro out_t3_13 hJ14
           replace hJ14 : r09_Text_J14 i_t4_9 out_t3_13 = some zB11 := hJ14
           unfold r09_Text_J14 at hJ14
           refine Re [.a, .a, .a] (sl 29 [(0, vI a0), (3, vS out_t3_13), (4, vI (wrap64 (i_t4_9 + (1 : Int)))), (12, vI i_t4_9), (13, vI (wrap64 (i_t4_9 + (1 : Int))))] []) (aN) ?_
           refine Tn ⟨(out_t3_13, (wrap64 (i_t4_9 + (1 : Int)))), (sI hJ14).symm, lT⟩
       · refine Holds.exit ?_
         refine thenQ.exit ?_
         have hoB11_ := hoB11 _ (sI hzB11).symm
         subst hoB11_
         refine thenQ.exit ?_
         refine blockQ.out ?_
         refine Tn ⟨out_t3_8, h, lT⟩
     · rintro out_t3_4 hJ5
       replace hJ5 : r09_Text_J5 out_t3_4 = some r := hJ5
       unfold r09_Text_J5 at hJ5
       refine Rg [.a, .a] (sl 29 [(2, vS out_t3_4)] []) (aN) ?_
       refine Holds.ret ?_
       exact bQ (vS out_t3_4) (congrArg vS (sI hJ5))
/-- cardgame/cardgameref11.Name -/
def r11_Name (a0 : Int) : Option ((List UInt8)) :=
 (some (if (decide (a0 < (0 : Int))) = true then true else decide ((16 : Int) < a0))).bind fun b1 =>
 (if b1 = true then
  some ([] : List UInt8)
 else
  (r11_names).bind fun r3 =>
  (idx r3 a0).bind fun e4 =>
  some e4)
def r11_Name_C (a0 : Int) (r : (List UInt8)) : Prop := PCall Tryz.prog I0 172 [vI a0] (· = vS r)
theorem r11_Name_ok {a0 : Int} {r : (List UInt8)} (h : r11_Name a0 = some r) : r11_Name_C a0 r := by
 refine PCall.body I0_stable (by kernel_rfl) Tryz.func172 rfl Tryz.ntmps172 (rs := [.tmp 2]) rfl rfl ?_
 intro w0 av old gv
 unfold r11_Name at h
 refine Rg [.a] (sl 13 [(0, vI a0)] []) (aN) ?_
 refine Holds.seq ?_
 obtain ⟨b1, hb1, h⟩ := bS h
 refine Rg [.a, .a, .a, .a, .a, (.v (vB b1))] (sl 13 [(0, vI a0), (8, vB b1)] []) (aG ((decide (a0 < (0 : Int))) == false) <| aF (decide (a0 < (0 : Int))) <| aB hb1 <| aN) ?_
 refine iB h (fun b2 h => ?_) (fun b2 h => ?_)
 · refine Rg [.a] (sl 13 [(2, vS ([] : List UInt8))] []) (aN) ?_
   refine Holds.ret ?_
   refine Tr ?_
   exact bQ (vS ([] : List UInt8)) (congrArg vS (sI h))
 · refine Holds.skip ?_
   refine Tn ?_
   obtain ⟨r3, hr3, h⟩ := bS h
   obtain ⟨e4, he4, h⟩ := bS h
   refine Rg [(.c (vL eS r3)), .a, .a, (.v (vS e4)), .a] (sl 13 [(2, vS e4)] []) (aC (r11_names_ok hr3) <| aC (idx_b he4) <| aC (eld he4 lenS 0 1 false (vS e4)) <| aC (Eq.refl (vS e4)) <| aN) ?_
   refine Holds.ret ?_
   exact bQ (vS e4) (congrArg vS (sI h))
/-- cardgame/cardgameref01.Text -/
def r01_Text (a0 : Int) : Option ((List UInt8)) :=
 (if (decide (a0 < (0 : Int))) = true then
  (r01_digits (IntKind.u64.wrap (0 - (IntKind.u64.wrap (a0))))).bind fun r2 =>
  (cat str_x2d r2).bind fun s3 =>
  some s3
 else
  (r01_digits (IntKind.u64.wrap (a0))).bind fun r4 =>
  some r4)
def r01_Text_C (a0 : Int) (r : (List UInt8)) : Prop := PCall Tryz.prog I0 143 [vI a0] (· = vS r)
theorem r01_Text_ok {a0 : Int} {r : (List UInt8)} (h : r01_Text a0 = some r) : r01_Text_C a0 r := by
 refine PCall.body I0_stable (by kernel_rfl) Tryz.func143 rfl Tryz.ntmps143 (rs := [.tmp 2]) rfl rfl ?_
 intro w0 av old gv
 unfold r01_Text at h
 refine Rg [.a] (sl 13 [(0, vI a0)] []) (aN) ?_
 refine Holds.seq ?_
 refine Rg [.a, .a] (sl 13 [(0, vI a0), (4, vB (decide (a0 < (0 : Int))))] []) (aN) ?_
 refine iB h (fun b1 h => ?_) (fun b1 h => ?_)
 · obtain ⟨r2, hr2, h⟩ := bS h
   obtain ⟨s3, hs3, h⟩ := bS h
   refine Rg [.a, .a, .a, (.c (vS r2)), (.v (vS s3)), .a] (sl 13 [(2, vS s3)] []) (aC (r01_digits_ok hr2) <| aC (cat_b hs3) <| aC (congrArg (fun z => V.c (.str z)) (cat_x hs3).symm) <| aN) ?_
   refine Holds.ret ?_
   refine Tr ?_
   exact bQ (vS s3) (congrArg vS (sI h))
 · refine Holds.skip ?_
   refine Tn ?_
   obtain ⟨r4, hr4, h⟩ := bS h
   refine Rg [.a, .a, (.c (vS r4)), .a] (sl 13 [(2, vS r4)] []) (aC (r01_digits_ok hr4) <| aN) ?_
   refine Holds.ret ?_
   exact bQ (vS r4) (congrArg vS (sI h))
/-- cardgame/cardgameref20.price -/
def r20_price (a0 : SPrice) : Option (Bool) :=
 (r08_Is a0.Mana).bind fun r1 =>
 (some (if r1 = true then a0.Mana.X == (0 : Int) else false)).bind fun b2 =>
 (some (if b2 = true then decide ((0 : Int) ≤ a0.Life) else false)).bind fun b3 =>
 (some (if b3 = true then decide (a0.Life ≤ (99 : Int)) else false)).bind fun b4 =>
 some b4
def r20_price_C (a0 : SPrice) (r : Bool) : Prop := PCall Tryz.prog I0 91 [vA encSPrice a0] (· = vB r)
theorem r20_price_ok {a0 : SPrice} {r : Bool} (h : r20_price a0 = some r) : r20_price_C a0 r := by
 refine PCall.body I0_stable (by kernel_rfl) Tryz.func91 rfl Tryz.ntmps91 (rs := [.tmp 2]) rfl rfl ?_
 intro w0 av old gv
 unfold r20_price at h
 refine Rg [.a, .a] (sl 22 [(1, vP [1] (0))] [bx [1] (encSPrice a0)]) (aN) ?_
 obtain ⟨r1, hr1, h⟩ := bS h
 obtain ⟨b2, hb2, h⟩ := bS h
 obtain ⟨b3, hb3, h⟩ := bS h
 obtain ⟨b4, hb4, h⟩ := bS h
 refine Rg [.a, .a, (.c (vB r1)), .a, .a, .a, .a, .a, (.v (vB b2)), .a, .a, .a, .a, (.v (vB b3)), .a, .a, .a, .a, (.v (vB b4)), .a] (sl 22 [(2, vB b4)] []) (aC (r08_Is_ok hr1) <| aG (r1 == true) <| aG (r1 == true) <| aG (r1 == true) <| aT r1 <| aB hb2 <| aG (b2 == true) <| aG (b2 == true) <| aT b2 <| aB hb3 <| aG (b3 == true) <| aG (b3 == true) <| aT b3 <| aB hb4 <| aN) ?_
 refine Holds.ret ?_
 exact bQ (vB b4) (congrArg vB (sI h))
/-- cardgame/cardgameref18.hasFilter -/
def r18_hasFilter (a0 : Int) : Option (Bool) :=
 (r18_word a0).bind fun r1 =>
 (gd ((r1 != ([] : List UInt8)) == true) (r18_hasWho a0)).bind fun r2 =>
 (some (if (!r2) = true then true else a0 == (9 : Int))).bind fun b3 =>
 (some (if (r1 != ([] : List UInt8)) = true then b3 else false)).bind fun b4 =>
 some b4
def r18_hasFilter_C (a0 : Int) (r : Bool) : Prop := PCall Tryz.prog I0 128 [vI a0] (· = vB r)
theorem r18_hasFilter_ok {a0 : Int} {r : Bool} (h : r18_hasFilter a0 = some r) : r18_hasFilter_C a0 r := by
 refine PCall.body I0_stable (by kernel_rfl) Tryz.func128 rfl Tryz.ntmps128 (rs := [.tmp 2]) rfl rfl ?_
 intro w0 av old gv
 unfold r18_hasFilter at h
 refine Rg [.a] (sl 15 [(0, vI a0)] []) (aN) ?_
 obtain ⟨r1, hr1, h⟩ := bS h
 obtain ⟨r2, hr2, h⟩ := bS h
 obtain ⟨b3, hb3, h⟩ := bS h
 obtain ⟨b4, hb4, h⟩ := bS h
 refine Rg [.a, (.c (vS r1)), .a, .a, .a, (.c (vB r2)), .a, .a, .a, .a, (.v (vB b3)), (.v (vB b4)), .a] (sl 15 [(2, vB b4)] []) (aC (r18_word_ok hr1) <| aC (c1 hr2 r18_hasWho_ok) <| aG ((r1 != ([] : List UInt8)) == true) <| aG ((r1 != ([] : List UInt8)) == true) <| aG (((r1 != ([] : List UInt8)) == true) && ((!r2) == false)) <| aC (fun hg : ((r1 != ([] : List UInt8)) == true) = true => aC (gi ((r1 != ([] : List UInt8)) == true)) <| aC (fun q : (!r2) = false => (gA hg (gF q))) <| aB hb3 <| aN) <| aT (r1 != ([] : List UInt8)) <| aB hb4 <| aN) ?_
 refine Holds.ret ?_
 exact bQ (vB b4) (congrArg vB (sI h))
def r17_uses_J2  : Option (Bool) :=
 some false
def r17_uses_B5 (a1 : Int) (r1 : (List UInt8)) (i_t6_4 : Int) : Option ((Int) ⊕ (Unit ⊕ Unit)) :=
 (if (decide (i_t6_4 < (r1.length : Int))) = true then
  (sidx r1 i_t6_4).bind fun c7 =>
  (if (c7 == a1) = true then
   some (.inr (.inl ()))
  else
   some (.inl (wrap64 (i_t6_4 + (1 : Int)))))
 else
  some (.inr (.inr ())))
/-- cardgame/cardgameref17.uses -/
def r17_uses (a0 : Int) (a1 : Int) : Option (Bool) :=
 (r17_Uses a0).bind fun r1 =>
 (iter (fun (v : Int) => r17_uses_B5 a1 r1 v) FU (0 : Int)).bind (Sum.elim (fun o0 => some true) (fun o1 => r17_uses_J2))
def r17_uses_C (a0 : Int) (a1 : Int) (r : Bool) : Prop := PCall Tryz.prog I0 161 [vI a0, .c (.int .u8 a1)] (· = vB r)
theorem r17_uses_ok {a0 : Int} {a1 : Int} {r : Bool} (h : r17_uses a0 a1 = some r) : r17_uses_C a0 a1 r := by
 refine PCall.body I0_stable (by kernel_rfl) Tryz.func161 rfl Tryz.ntmps161 (rs := [.tmp 4]) rfl rfl ?_
 intro w0 av old gv
 unfold r17_uses at h
 refine Rg [.a] (sl 20 [(0, vI a0), (1, .c (.int .u8 a1))] []) (aN) ?_
 obtain ⟨r1, hr1, h⟩ := bS h
 refine Rg [.a, (.c (vS r1)), .a] (sl 20 [(1, .c (.int .u8 a1)), (5, vS r1)] []) (aC (r17_Uses_ok hr1) <| aN) ?_
 refine Holds.seqJ (X := Unit) (fun v => (sl 20 [] [])) (fun v => r17_uses_J2 = some r) ?_ ?_
 · refine Rg [.a] (sl 20 [(1, .c (.int .u8 a1)), (5, vS r1), (6, vI (0 : Int))] []) (aN) ?_
   refine Holds.block ?_
   obtain ⟨oB5, hiB5, h⟩ := bS h
   refine Holds.iter (fun (v : Int) => (sl 20 [(1, .c (.int .u8 a1)), (5, vS r1), (6, vI v)] [])) hiB5 (lT) ?_
   rintro i_t6_4 zB5 hzB5 hoB5
   replace hzB5 : r17_uses_B5 a1 r1 i_t6_4 = some zB5 := hzB5
   unfold r17_uses_B5 at hzB5
   refine Holds.seq ?_
   refine Rg [.a, .a, .a, .a] (sl 20 [(1, .c (.int .u8 a1)), (5, vS r1), (6, vI i_t6_4), (12, vB (decide (i_t6_4 < (r1.length : Int))))] []) (aN) ?_
   refine iB hzB5 (fun b6 hzB5 => ?_) (fun b6 hzB5 => ?_)
   · refine Holds.skip ?_
     refine Tn ?_
     refine Holds.seq ?_
     refine Holds.block ?_
     obtain ⟨c7, hc7, hzB5⟩ := bS hzB5
     refine Rg [.a, .a, (.v (.c (.int .u8 c7))), .a, .a] (sl 20 [(1, .c (.int .u8 a1)), (5, vS r1), (6, vI i_t6_4), (19, vB (c7 == a1))] []) (aC (sidx_b hc7) <| aC (congrArg (fun z => V.c (.int .u8 z)) (sidx_x hc7).symm) <| aN) ?_
     refine iB hzB5 (fun b8 hzB5 => ?_) (fun b8 hzB5 => ?_)
     · refine Rg [.a] (sl 20 [(4, vB true)] []) (aN) ?_
       refine Holds.ret ?_
       refine blockQ.ret ?_
       refine Tr ?_
       have hoB5_ := hoB5 _ (sI hzB5).symm
       subst hoB5_
       replace h := sumL h
       refine Tr ?_
       refine blockQ.ret ?_
       refine Tr ?_
       exact bQ (vB true) (congrArg vB (sI h))
     · refine Holds.skip ?_
       refine blockQ.normal ?_
       refine Tn ?_
       refine Re [.a, .a, .a] (sl 20 [(1, .c (.int .u8 a1)), (5, vS r1), (6, vI (wrap64 (i_t6_4 + (1 : Int)))), (13, vI i_t6_4), (14, vI (wrap64 (i_t6_4 + (1 : Int)))), (19, vB (c7 == a1))] []) (aN) ?_
       refine Tn ⟨(wrap64 (i_t6_4 + (1 : Int))), (sI hzB5).symm, lT⟩
   · refine Holds.exit ?_
     refine thenQ.exit ?_
     have hoB5_ := hoB5 _ (sI hzB5).symm
     subst hoB5_
     replace h := sumR h
     refine thenQ.exit ?_
     refine blockQ.out ?_
     refine Tn ⟨(), h, lT⟩
 · rintro _ hJ2
   replace hJ2 : r17_uses_J2 = some r := hJ2
   unfold r17_uses_J2 at hJ2
   refine Rg [.a] (sl 20 [(4, vB false)] []) (aN) ?_
   refine Holds.ret ?_
   exact bQ (vB false) (congrArg vB (sI hJ2))
def r22_creates_J1  : Option (Bool) :=
 some true
def r22_creates_J6 (i_t5_3 : Int) : Option ((Int) ⊕ (Unit ⊕ Unit)) :=
 some (.inl (wrap64 (i_t5_3 + (1 : Int))))
def r22_creates_B9 (a0 : List (SCard)) (a1 : SCard) (i_t5_3 : Int) (k_t6_8 : Int) : Option ((Int) ⊕ (Unit ⊕ Unit)) :=
 (idx a1.Abilities i_t5_3).bind fun e10 =>
 (if (decide (k_t6_8 < (e10.Effects.length : Int))) = true then
  (idx a1.Abilities i_t5_3).bind fun e12 =>
  (idx e12.Effects k_t6_8).bind fun e13 =>
  (gd ((e13.Op == (12 : Int)) == true) (r22_token a0 e13.Card)).bind fun r14 =>
  (some (if (e13.Op == (12 : Int)) = true then !r14 else false)).bind fun b15 =>
  (if b15 = true then
   some (.inr (.inl ()))
  else
   some (.inl (wrap64 (k_t6_8 + (1 : Int)))))
 else
  some (.inr (.inr ())))
def r22_creates_B4 (a0 : List (SCard)) (a1 : SCard) (i_t5_3 : Int) : Option ((Int) ⊕ (Unit ⊕ Unit)) :=
 (if (decide (i_t5_3 < (a1.Abilities.length : Int))) = true then
  (iter (fun (v : Int) => r22_creates_B9 a0 a1 i_t5_3 v) FU (0 : Int)).bind (Sum.elim (fun o0 => some (.inr (.inl ()))) (fun o1 => r22_creates_J6 i_t5_3))
 else
  some (.inr (.inr ())))
/-- cardgame/cardgameref22.creates -/
def r22_creates (a0 : List (SCard)) (a1 : SCard) : Option (Bool) :=
 (iter (fun (v : Int) => r22_creates_B4 a0 a1 v) FU (0 : Int)).bind (Sum.elim (fun o0 => some false) (fun o1 => r22_creates_J1))
def r22_creates_C (a0 : List (SCard)) (a1 : SCard) (r : Bool) : Prop := PCall Tryz.prog I0 36 [vL encSCard a0, vA encSCard a1] (· = vB r)
theorem r22_creates_ok {a0 : List (SCard)} {a1 : SCard} {r : Bool} (h : r22_creates a0 a1 = some r) : r22_creates_C a0 a1 r := by
 refine PCall.body I0_stable (by kernel_rfl) Tryz.func36 rfl Tryz.ntmps36 (rs := [.tmp 4]) rfl rfl ?_
 intro w0 av old gv
 unfold r22_creates at h
 refine Rg [.a, .a] (sl 45 [(0, vL encSCard a0), (3, vP [3] (0))] [bx [3] (encSCard a1)]) (aN) ?_
 refine Holds.seqJ (X := Unit) (fun v => (sl 45 [] [])) (fun v => r22_creates_J1 = some r) ?_ ?_
 · refine Rg [.a] (sl 45 [(0, vL encSCard a0), (3, vP [3] (0)), (5, vI (0 : Int))] [bx [3] (encSCard a1)]) (aN) ?_
   refine Holds.block ?_
   obtain ⟨oB4, hiB4, h⟩ := bS h
   refine Holds.iter (fun (v : Int) => (sl 45 [(0, vL encSCard a0), (3, vP [3] (0)), (5, vI v)] [bx [3] (encSCard a1)])) hiB4 (lT) ?_
   rintro i_t5_3 zB4 hzB4 hoB4
   replace hzB4 : r22_creates_B4 a0 a1 i_t5_3 = some zB4 := hzB4
   unfold r22_creates_B4 at hzB4
   refine Holds.seq ?_
   refine Rg [.a, .a, .a, .a, .a] (sl 45 [(0, vL encSCard a0), (3, vP [3] (0)), (5, vI i_t5_3), (12, vB (decide (i_t5_3 < (a1.Abilities.length : Int))))] [bx [3] (encSCard a1)]) (aN) ?_
   refine iB hzB4 (fun b5 hzB4 => ?_) (fun b5 hzB4 => ?_)
   · refine Holds.skip ?_
     refine Tn ?_
     refine Holds.seqJ (X := Unit) (fun v => (sl 45 [(0, vL encSCard a0), (3, vP [3] (0)), (5, vI i_t5_3)] [bx [3] (encSCard a1)])) (fun v => r22_creates_J6 i_t5_3 = some zB4) ?_ ?_
     · refine Holds.block ?_
       refine Rg [.a] (sl 45 [(0, vL encSCard a0), (3, vP [3] (0)), (5, vI i_t5_3), (6, vI (0 : Int))] [bx [3] (encSCard a1)]) (aN) ?_
       refine Holds.block ?_
       obtain ⟨oB9, hiB9, hzB4⟩ := bS hzB4
       refine Holds.iter (fun (v : Int) => (sl 45 [(0, vL encSCard a0), (3, vP [3] (0)), (5, vI i_t5_3), (6, vI v)] [bx [3] (encSCard a1)])) hiB9 (lT) ?_
       rintro k_t6_8 zB9 hzB9 hoB9
       replace hzB9 : r22_creates_B9 a0 a1 i_t5_3 k_t6_8 = some zB9 := hzB9
       unfold r22_creates_B9 at hzB9
       refine Holds.seq ?_
       obtain ⟨e10, he10, hzB9⟩ := bS hzB9
       refine Rg [.a, .a, .a, .a, .a, .a, (.v (vL encSEffect e10.Effects)), .a, .a] (sl 45 [(0, vL encSCard a0), (3, vP [3] (0)), (5, vI i_t5_3), (6, vI k_t6_8), (23, vB (decide (k_t6_8 < (e10.Effects.length : Int))))] [bx [3] (encSCard a1)]) (aC (idx_b he10) <| aC (eld he10 lenSAbility 49 1 false (vL encSEffect e10.Effects)) <| aC (Eq.refl (vL encSEffect e10.Effects)) <| aN) ?_
       refine iB hzB9 (fun b11 hzB9 => ?_) (fun b11 hzB9 => ?_)
       · refine Holds.skip ?_
         refine Tn ?_
         refine Holds.seq ?_
         refine Holds.block ?_
         obtain ⟨e12, he12, hzB9⟩ := bS hzB9
         obtain ⟨e13, he13, hzB9⟩ := bS hzB9
         refine Rg [.a, .a, .a, .a, .a, (.v (vL encSEffect e12.Effects)), .a, .a, (.v (vA encSEffect e13)), .a, .a] (sl 45 [(0, vL encSCard a0), (3, vP [3] (0)), (5, vI i_t5_3), (6, vI k_t6_8), (7, vP [7] (0))] [bx [7] (encSEffect e13), bx [3] (encSCard a1)]) (aC (idx_b he12) <| aC (eld he12 lenSAbility 49 1 false (vL encSEffect e12.Effects)) <| aC (Eq.refl (vL encSEffect e12.Effects)) <| aC (idx_b he13) <| aC (eld he13 lenSEffect 0 64 true (vA encSEffect e13)) <| aC (Eq.refl (vA encSEffect e13)) <| aN) ?_
         obtain ⟨r14, hr14, hzB9⟩ := bS hzB9
         obtain ⟨b15, hb15, hzB9⟩ := bS hzB9
         refine Rg [.a, .a, .a, .a, .a, .a, .a, (.c (vB r14)), .a, (.v (vB b15))] (sl 45 [(0, vL encSCard a0), (3, vP [3] (0)), (5, vI i_t5_3), (6, vI k_t6_8), (44, vB b15)] [bx [3] (encSCard a1)]) (aG ((e13.Op == (12 : Int)) == true) <| aC (c2 hr14 r22_token_ok) <| aG ((e13.Op == (12 : Int)) == true) <| aT (e13.Op == (12 : Int)) <| aB hb15 <| aN) ?_
         refine iB hzB9 (fun b16 hzB9 => ?_) (fun b16 hzB9 => ?_)
         · refine Rg [.a] (sl 45 [(4, vB false)] []) (aN) ?_
           refine Holds.ret ?_
           refine blockQ.ret ?_
           refine Tr ?_
           have hoB9_ := hoB9 _ (sI hzB9).symm
           subst hoB9_
           replace hzB4 := sumL hzB4
           refine Tr ?_
           refine blockQ.ret ?_
           refine blockQ.ret ?_
           refine Tr ?_
           have hoB4_ := hoB4 _ (sI hzB4).symm
           subst hoB4_
           replace h := sumL h
           refine Tr ?_
           refine blockQ.ret ?_
           refine Tr ?_
           exact bQ (vB false) (congrArg vB (sI h))
         · refine Holds.skip ?_
           refine blockQ.normal ?_
           refine Tn ?_
           refine Re [.a, .a, .a] (sl 45 [(0, vL encSCard a0), (3, vP [3] (0)), (5, vI i_t5_3), (6, vI (wrap64 (k_t6_8 + (1 : Int)))), (24, vI k_t6_8), (25, vI (wrap64 (k_t6_8 + (1 : Int)))), (44, vB b15)] [bx [3] (encSCard a1)]) (aN) ?_
           refine Tn ⟨(wrap64 (k_t6_8 + (1 : Int))), (sI hzB9).symm, lT⟩
       · refine Holds.exit ?_
         refine thenQ.exit ?_
         have hoB9_ := hoB9 _ (sI hzB9).symm
         subst hoB9_
         replace hzB4 := sumR hzB4
         refine thenQ.exit ?_
         refine blockQ.out ?_
         refine blockQ.normal ?_
         refine Tn ⟨(), hzB4, lT⟩
     · rintro _ hJ6
       replace hJ6 : r22_creates_J6 i_t5_3 = some zB4 := hJ6
       unfold r22_creates_J6 at hJ6
       refine Re [.a, .a, .a] (sl 45 [(0, vL encSCard a0), (3, vP [3] (0)), (5, vI (wrap64 (i_t5_3 + (1 : Int)))), (13, vI i_t5_3), (14, vI (wrap64 (i_t5_3 + (1 : Int))))] [bx [3] (encSCard a1)]) (aN) ?_
       refine Tn ⟨(wrap64 (i_t5_3 + (1 : Int))), (sI hJ6).symm, lT⟩
   · refine Holds.exit ?_
     refine thenQ.exit ?_
     have hoB4_ := hoB4 _ (sI hzB4).symm
     subst hoB4_
     replace h := sumR h
     refine thenQ.exit ?_
     refine blockQ.out ?_
     refine Tn ⟨(), h, lT⟩
 · rintro _ hJ1
   replace hJ1 : r22_creates_J1 = some r := hJ1
   unfold r22_creates_J1 at hJ1
   refine Rg [.a] (sl 45 [(4, vB true)] []) (aN) ?_
   refine Holds.ret ?_
   exact bQ (vB true) (congrArg vB (sI hJ1))
/-- cardgame/cardgameref25.Find -/
def r25_Find (a0 : SState) (a1 : Int) : Option (SObject × Bool) :=
 (r25_place a0 a1).bind fun r1 =>
 (if (decide (r1 < (0 : Int))) = true then
  some ((⟨(0 : Int), (0 : Int), (0 : Int), (0 : Int), (0 : Int), false, false, false, false, (0 : Int), (⟨(0 : Int), (0 : Int), (0 : Int)⟩ : A3 (Int)), (0 : Int), (0 : Int), (0 : Int), false, (0 : Int), (0 : Int)⟩ : SObject), false)
 else
  (idx a0.Objects r1).bind fun e3 =>
  some (e3, true))
def r25_Find_C (a0 : SState) (a1 : Int) (r : SObject × Bool) : Prop := PCall Tryz.prog I0 27 [vA encSState a0, vI a1] (· = .tup [vA encSObject r.1, vB r.2])
theorem r25_Find_ok {a0 : SState} {a1 : Int} {r : SObject × Bool} (h : r25_Find a0 a1 = some r) : r25_Find_C a0 a1 r := by
 refine PCall.body I0_stable (by kernel_rfl) Tryz.func27 rfl Tryz.ntmps27 (rs := [.cell 4 42, .tmp 5]) rfl rfl ?_
 intro w0 av old gv
 unfold r25_Find at h
 refine Rg [.a, .a, .a] (sl 18 [(1, vI a1), (2, vP [2] (0)), (4, vP [4] (0))] [bx [4] [.int .i64 (0 : Int), .int .i64 (0 : Int), .int .i64 (0 : Int), .int .i64 (0 : Int), .int .i64 (0 : Int), .bool false, .bool false, .bool false, .bool false, .int .i64 (0 : Int), .int .i64 (((⟨(0 : Int), (0 : Int), (0 : Int)⟩ : A3 (Int))).x0), .int .i64 (((⟨(0 : Int), (0 : Int), (0 : Int)⟩ : A3 (Int))).x1), .int .i64 (((⟨(0 : Int), (0 : Int), (0 : Int)⟩ : A3 (Int))).x2), .int .i64 (0 : Int), .int .i64 (0 : Int), .int .i64 (0 : Int), .bool false, .int .i64 (0 : Int), .int .i64 (0 : Int)], bx [2] (encSState a0)]) (aN) ?_
 obtain ⟨r1, hr1, h⟩ := bS h
 refine Rg [.a, .a, (.c (vI r1)), .a] (sl 18 [(2, vP [2] (0)), (4, vP [4] (0)), (6, vI r1)] [bx [4] [.int .i64 (0 : Int), .int .i64 (0 : Int), .int .i64 (0 : Int), .int .i64 (0 : Int), .int .i64 (0 : Int), .bool false, .bool false, .bool false, .bool false, .int .i64 (0 : Int), .int .i64 (((⟨(0 : Int), (0 : Int), (0 : Int)⟩ : A3 (Int))).x0), .int .i64 (((⟨(0 : Int), (0 : Int), (0 : Int)⟩ : A3 (Int))).x1), .int .i64 (((⟨(0 : Int), (0 : Int), (0 : Int)⟩ : A3 (Int))).x2), .int .i64 (0 : Int), .int .i64 (0 : Int), .int .i64 (0 : Int), .bool false, .int .i64 (0 : Int), .int .i64 (0 : Int)], bx [2] (encSState a0)]) (aC (r25_place_ok hr1) <| aN) ?_
 refine Holds.seq ?_
 refine Rg [.a, .a] (sl 18 [(2, vP [2] (0)), (4, vP [4] (0)), (6, vI r1), (11, vB (decide (r1 < (0 : Int))))] [bx [4] [.int .i64 (0 : Int), .int .i64 (0 : Int), .int .i64 (0 : Int), .int .i64 (0 : Int), .int .i64 (0 : Int), .bool false, .bool false, .bool false, .bool false, .int .i64 (0 : Int), .int .i64 (((⟨(0 : Int), (0 : Int), (0 : Int)⟩ : A3 (Int))).x0), .int .i64 (((⟨(0 : Int), (0 : Int), (0 : Int)⟩ : A3 (Int))).x1), .int .i64 (((⟨(0 : Int), (0 : Int), (0 : Int)⟩ : A3 (Int))).x2), .int .i64 (0 : Int), .int .i64 (0 : Int), .int .i64 (0 : Int), .bool false, .int .i64 (0 : Int), .int .i64 (0 : Int)], bx [2] (encSState a0)]) (aN) ?_
 refine iB h (fun b2 h => ?_) (fun b2 h => ?_)
 · refine Rg [.a, .a, .a] (sl 18 [(4, vP [4] (0)), (5, vB false)] [bx [4] [.int .i64 (0 : Int), .int .i64 (0 : Int), .int .i64 (0 : Int), .int .i64 (0 : Int), .int .i64 (0 : Int), .bool false, .bool false, .bool false, .bool false, .int .i64 (0 : Int), .int .i64 (((⟨(0 : Int), (0 : Int), (0 : Int)⟩ : A3 (Int))).x0), .int .i64 (((⟨(0 : Int), (0 : Int), (0 : Int)⟩ : A3 (Int))).x1), .int .i64 (((⟨(0 : Int), (0 : Int), (0 : Int)⟩ : A3 (Int))).x2), .int .i64 (0 : Int), .int .i64 (0 : Int), .int .i64 (0 : Int), .bool false, .int .i64 (0 : Int), .int .i64 (0 : Int)]]) (aC (And.intro trivial okp42) <| aN) ?_
   refine Holds.ret ?_
   refine Tr ?_
   exact bE (.tup [.agg [.int .i64 (0 : Int), .int .i64 (0 : Int), .int .i64 (0 : Int), .int .i64 (0 : Int), .int .i64 (0 : Int), .bool false, .bool false, .bool false, .bool false, .int .i64 (0 : Int), .int .i64 (((⟨(0 : Int), (0 : Int), (0 : Int)⟩ : A3 (Int))).x0), .int .i64 (((⟨(0 : Int), (0 : Int), (0 : Int)⟩ : A3 (Int))).x1), .int .i64 (((⟨(0 : Int), (0 : Int), (0 : Int)⟩ : A3 (Int))).x2), .int .i64 (0 : Int), .int .i64 (0 : Int), .int .i64 (0 : Int), .bool false, .int .i64 (0 : Int), .int .i64 (0 : Int)], vB false]) (.tup [.agg (encSObject (⟨(0 : Int), (0 : Int), (0 : Int), (0 : Int), (0 : Int), false, false, false, false, (0 : Int), (⟨(0 : Int), (0 : Int), (0 : Int)⟩ : A3 (Int)), (0 : Int), (0 : Int), (0 : Int), false, (0 : Int), (0 : Int)⟩ : SObject)), vB false]) (congrArg (fun (q : SObject × Bool) => (.tup [vA encSObject q.1, vB q.2] : V)) (sI h))
 · refine Holds.skip ?_
   refine Tn ?_
   obtain ⟨e3, he3, h⟩ := bS h
   refine Rg [.a, .a, .a, .a, (.v (vA encSObject e3)), .a, .a] (sl 18 [(4, vP [4] (0)), (5, vB true)] [bx [4] (encSObject e3)]) (aC (idx_b he3) <| aC (eld he3 lenSObject 0 19 true (vA encSObject e3)) <| aC (Eq.refl (vA encSObject e3)) <| aN) ?_
   refine Holds.ret ?_
   exact bE (.tup [vA encSObject e3, vB true]) (.tup [.agg (encSObject e3), vB true]) (congrArg (fun (q : SObject × Bool) => (.tup [vA encSObject q.1, vB q.2] : V)) (sI h))
/-- cardgame/cardgameref26.player -/
def r26_player (a0 : SState) (a1 : Int) : Option (Bool) :=
 (r26_in a1 (0 : Int) (wrap64 ((a0.Players.length : Int) - (1 : Int)))).bind fun r1 =>
 some r1
def r26_player_C (a0 : SState) (a1 : Int) (r : Bool) : Prop := PCall Tryz.prog I0 39 [vA encSState a0, vI a1] (· = vB r)
theorem r26_player_ok {a0 : SState} {a1 : Int} {r : Bool} (h : r26_player a0 a1 = some r) : r26_player_C a0 a1 r := by
 refine PCall.body I0_stable (by kernel_rfl) Tryz.func39 rfl Tryz.ntmps39 (rs := [.tmp 4]) rfl rfl ?_
 intro w0 av old gv
 unfold r26_player at h
 refine Rg [.a, .a] (sl 11 [(1, vI a1), (2, vP [2] (0))] [bx [2] (encSState a0)]) (aN) ?_
 obtain ⟨r1, hr1, h⟩ := bS h
 refine Rg [.a, .a, .a, .a, .a, (.c (vB r1)), .a] (sl 11 [(4, vB r1)] []) (aC (r26_in_ok hr1) <| aN) ?_
 refine Holds.ret ?_
 exact bQ (vB r1) (congrArg vB (sI h))
/-- cardgame/cardgameref24.Is -/
def r24_Is (a0 : SObject) (a1 : Int) (a2 : Int) : Option (Bool) :=
 (some (if (decide (a0.Id < (1 : Int))) = true then true else decide (a0.Card < (0 : Int)))).bind fun b1 =>
 (some (if b1 = true then true else decide (a1 ≤ a0.Card))).bind fun b2 =>
 (some (if b2 = true then true else decide (a0.Owner < (0 : Int)))).bind fun b3 =>
 (some (if b3 = true then true else decide (a2 ≤ a0.Owner))).bind fun b4 =>
 (some (if b4 = true then true else decide (a0.Control < (0 : Int)))).bind fun b5 =>
 (some (if b5 = true then true else decide (a2 ≤ a0.Control))).bind fun b6 =>
 (some (if b6 = true then true else decide (a0.Zone < (0 : Int)))).bind fun b7 =>
 (some (if b7 = true then true else decide ((5 : Int) < a0.Zone))).bind fun b8 =>
 (if b8 = true then
  some false
 else
  (some (if (decide (a0.Damage < (0 : Int))) = true then true else decide ((1000000 : Int) < a0.Damage))).bind fun b10 =>
  (some (if b10 = true then true else decide (a0.Stamp < (0 : Int)))).bind fun b11 =>
  (some (if b11 = true then true else decide ((1000000 : Int) < a0.Stamp))).bind fun b12 =>
  (some (if b12 = true then true else decide (a0.Blocks < (0 : Int)))).bind fun b13 =>
  (some (if b13 = true then true else decide ((1000000 : Int) < a0.Blocks))).bind fun b14 =>
  (some (if b14 = true then true else decide (a0.Shield < (0 : Int)))).bind fun b15 =>
  (some (if b15 = true then true else decide ((1000000 : Int) < a0.Shield))).bind fun b16 =>
  (if b16 = true then
   some false
  else
   (r12_Is a0.Counters).bind fun r18 =>
   (some (if (!r18) = true then true else decide (a0.Copy < (-1 : Int)))).bind fun b19 =>
   (some (if b19 = true then true else decide (a1 ≤ a0.Copy))).bind fun b20 =>
   (some (if b20 = true then true else decide (a0.Attack < (-1 : Int)))).bind fun b21 =>
   (some (if b21 = true then true else decide (a2 ≤ a0.Attack))).bind fun b22 =>
   (if b22 = true then
    some false
   else
    (gd ((a0.Zone == (0 : Int)) == false) (r24_Calm a0)).bind fun r24 =>
    (gd (((a0.Zone == (0 : Int)) == false) && ((a0 == r24) == true)) (r24_Ended a0)).bind fun r25 =>
    (some (if (a0 == r24) = true then a0 == r25 else false)).bind fun b26 =>
    (some (if b26 = true then !a0.Tapped else false)).bind fun b27 =>
    (some (if b27 = true then !a0.Sick else false)).bind fun b28 =>
    (some (if b28 = true then a0.Counters == (⟨(0 : Int), (0 : Int), (0 : Int)⟩ : A3 (Int)) else false)).bind fun b29 =>
    (some (if (a0.Zone == (0 : Int)) = true then true else b29)).bind fun b30 =>
    some b30)))
def r24_Is_C (a0 : SObject) (a1 : Int) (a2 : Int) (r : Bool) : Prop := PCall Tryz.prog I0 63 [vA encSObject a0, vI a1, vI a2] (· = vB r)
theorem r24_Is_ok {a0 : SObject} {a1 : Int} {a2 : Int} {r : Bool} (h : r24_Is a0 a1 a2 = some r) : r24_Is_C a0 a1 a2 r := by
 refine PCall.body I0_stable (by kernel_rfl) Tryz.func63 rfl Tryz.ntmps63 (rs := [.tmp 6]) rfl rfl ?_
 intro w0 av old gv
 unfold r24_Is at h
 refine Rg [.a, .a] (sl 148 [(1, vI a1), (2, vI a2), (3, vP [3] (0))] [bx [3] (encSObject a0)]) (aN) ?_
 refine Holds.seq ?_
 obtain ⟨b1, hb1, h⟩ := bS h
 obtain ⟨b2, hb2, h⟩ := bS h
 obtain ⟨b3, hb3, h⟩ := bS h
 obtain ⟨b4, hb4, h⟩ := bS h
 obtain ⟨b5, hb5, h⟩ := bS h
 obtain ⟨b6, hb6, h⟩ := bS h
 obtain ⟨b7, hb7, h⟩ := bS h
 obtain ⟨b8, hb8, h⟩ := bS h
 refine Rg [.a, .a, .a, .a, .a, .a, .a, (.v (vB b1)), .a, .a, .a, .a, .a, (.v (vB b2)), .a, .a, .a, .a, (.v (vB b3)), .a, .a, .a, .a, .a, (.v (vB b4)), .a, .a, .a, .a, (.v (vB b5)), .a, .a, .a, .a, .a, (.v (vB b6)), .a, .a, .a, .a, (.v (vB b7)), .a, .a, .a, .a, (.v (vB b8))] (sl 148 [(1, vI a1), (2, vI a2), (3, vP [3] (0)), (52, vB b8)] [bx [3] (encSObject a0)]) (aG ((decide (a0.Id < (1 : Int))) == false) <| aG ((decide (a0.Id < (1 : Int))) == false) <| aF (decide (a0.Id < (1 : Int))) <| aB hb1 <| aG (b1 == false) <| aH (b1 == false) <| aF b1 <| aB hb2 <| aG (b2 == false) <| aG (b2 == false) <| aF b2 <| aB hb3 <| aG (b3 == false) <| aH (b3 == false) <| aF b3 <| aB hb4 <| aG (b4 == false) <| aG (b4 == false) <| aF b4 <| aB hb5 <| aG (b5 == false) <| aH (b5 == false) <| aF b5 <| aB hb6 <| aG (b6 == false) <| aG (b6 == false) <| aF b6 <| aB hb7 <| aG (b7 == false) <| aG (b7 == false) <| aF b7 <| aB hb8 <| aN) ?_
 refine iB h (fun b9 h => ?_) (fun b9 h => ?_)
 · refine Rg [.a] (sl 148 [(6, vB false)] []) (aN) ?_
   refine Holds.ret ?_
   refine Tr ?_
   exact bQ (vB false) (congrArg vB (sI h))
 · refine Holds.skip ?_
   refine Tn ?_
   refine Holds.seq ?_
   obtain ⟨b10, hb10, h⟩ := bS h
   obtain ⟨b11, hb11, h⟩ := bS h
   obtain ⟨b12, hb12, h⟩ := bS h
   obtain ⟨b13, hb13, h⟩ := bS h
   obtain ⟨b14, hb14, h⟩ := bS h
   obtain ⟨b15, hb15, h⟩ := bS h
   obtain ⟨b16, hb16, h⟩ := bS h
   refine Rg [.a, .a, .a, .a, .a, .a, .a, (.v (vB b10)), .a, .a, .a, .a, (.v (vB b11)), .a, .a, .a, .a, (.v (vB b12)), .a, .a, .a, .a, (.v (vB b13)), .a, .a, .a, .a, (.v (vB b14)), .a, .a, .a, .a, (.v (vB b15)), .a, .a, .a, .a, (.v (vB b16))] (sl 148 [(1, vI a1), (2, vI a2), (3, vP [3] (0)), (90, vB b16)] [bx [3] (encSObject a0)]) (aG ((decide (a0.Damage < (0 : Int))) == false) <| aG ((decide (a0.Damage < (0 : Int))) == false) <| aF (decide (a0.Damage < (0 : Int))) <| aB hb10 <| aG (b10 == false) <| aG (b10 == false) <| aF b10 <| aB hb11 <| aG (b11 == false) <| aG (b11 == false) <| aF b11 <| aB hb12 <| aG (b12 == false) <| aG (b12 == false) <| aF b12 <| aB hb13 <| aG (b13 == false) <| aG (b13 == false) <| aF b13 <| aB hb14 <| aG (b14 == false) <| aG (b14 == false) <| aF b14 <| aB hb15 <| aG (b15 == false) <| aG (b15 == false) <| aF b15 <| aB hb16 <| aN) ?_
   refine iB h (fun b17 h => ?_) (fun b17 h => ?_)
   · refine Rg [.a] (sl 148 [(6, vB false)] []) (aN) ?_
     refine Holds.ret ?_
     refine Tr ?_
     exact bQ (vB false) (congrArg vB (sI h))
   · refine Holds.skip ?_
     refine Tn ?_
     refine Holds.seq ?_
     obtain ⟨r18, hr18, h⟩ := bS h
     obtain ⟨b19, hb19, h⟩ := bS h
     obtain ⟨b20, hb20, h⟩ := bS h
     obtain ⟨b21, hb21, h⟩ := bS h
     obtain ⟨b22, hb22, h⟩ := bS h
     refine Rg [.a, .a, (.c (vB r18)), .a, .a, .a, .a, .a, (.v (vB b19)), .a, .a, .a, .a, .a, (.v (vB b20)), .a, .a, .a, .a, (.v (vB b21)), .a, .a, .a, .a, .a, (.v (vB b22))] (sl 148 [(3, vP [3] (0)), (116, vB b22)] [bx [3] (encSObject a0)]) (aC (r12_Is_ok hr18) <| aG ((!r18) == false) <| aG ((!r18) == false) <| aF (!r18) <| aB hb19 <| aG (b19 == false) <| aH (b19 == false) <| aF b19 <| aB hb20 <| aG (b20 == false) <| aG (b20 == false) <| aF b20 <| aB hb21 <| aG (b21 == false) <| aH (b21 == false) <| aF b21 <| aB hb22 <| aN) ?_
     refine iB h (fun b23 h => ?_) (fun b23 h => ?_)
     · refine Rg [.a] (sl 148 [(6, vB false)] []) (aN) ?_
       refine Holds.ret ?_
       refine Tr ?_
       exact bQ (vB false) (congrArg vB (sI h))
     · refine Holds.skip ?_
       refine Tn ?_
       obtain ⟨r24, hr24, h⟩ := bS h
       obtain ⟨r25, hr25, h⟩ := bS h
       obtain ⟨b26, hb26, h⟩ := bS h
       obtain ⟨b27, hb27, h⟩ := bS h
       obtain ⟨b28, hb28, h⟩ := bS h
       obtain ⟨b29, hb29, h⟩ := bS h
       obtain ⟨b30, hb30, h⟩ := bS h
       refine Rq followsP [.a, .a, .a, .a, .a, .a, (.c (vA encSObject r24)), (.v (vB (a0 == r24))), .a, .a, .a, (.c (vA encSObject r25)), (.v (vB (a0 == r25))), (.v (vB b26)), .a, .a, .a, .a, (.v (vB b27)), .a, .a, .a, .a, (.v (vB b28)), .a, .a, .a, .a, (.v (vB (a0.Counters == (⟨(0 : Int), (0 : Int), (0 : Int)⟩ : A3 (Int))))), (.v (vB b29)), (.v (vB b30)), .a] (sl 148 [(6, vB b30)] []) (aC (c1 hr24 r24_Calm_ok) <| aC (fun hg : ((a0.Zone == (0 : Int)) == false) = true => aC (gi ((a0.Zone == (0 : Int)) == false)) <| aC (gi ((a0.Zone == (0 : Int)) == false)) <| aC (congrArg (fun z => V.c (.bool (z))) (eqT42 a0 r24)) <| aN) <| aG ((a0.Zone == (0 : Int)) == false) <| aC (c1 hr25 r24_Ended_ok) <| aC (fun hg : (((a0.Zone == (0 : Int)) == false) && ((a0 == r24) == true)) = true => aC (gi (((a0.Zone == (0 : Int)) == false) && ((a0 == r24) == true))) <| aC (gi (((a0.Zone == (0 : Int)) == false) && ((a0 == r24) == true))) <| aC (congrArg (fun z => V.c (.bool (z))) (eqT42 a0 r25)) <| aN) <| aC (fun hg : ((a0.Zone == (0 : Int)) == false) = true => aC (gi ((a0.Zone == (0 : Int)) == false)) <| aC (fun q : (a0 == r24) = true => (gA hg (gT q))) <| aB hb26 <| aN) <| aG ((a0.Zone == (0 : Int)) == false) <| aG (((a0.Zone == (0 : Int)) == false) && (b26 == true)) <| aG (((a0.Zone == (0 : Int)) == false) && (b26 == true)) <| aC (fun hg : ((a0.Zone == (0 : Int)) == false) = true => aC (gi ((a0.Zone == (0 : Int)) == false)) <| aC (fun q : b26 = true => (gA hg (gT q))) <| aB hb27 <| aN) <| aG ((a0.Zone == (0 : Int)) == false) <| aG (((a0.Zone == (0 : Int)) == false) && (b27 == true)) <| aG (((a0.Zone == (0 : Int)) == false) && (b27 == true)) <| aC (fun hg : ((a0.Zone == (0 : Int)) == false) = true => aC (gi ((a0.Zone == (0 : Int)) == false)) <| aC (fun q : b27 = true => (gA hg (gT q))) <| aB hb28 <| aN) <| aG ((a0.Zone == (0 : Int)) == false) <| aG (((a0.Zone == (0 : Int)) == false) && (b28 == true)) <| aC (fun hg : (((a0.Zone == (0 : Int)) == false) && (b28 == true)) = true => aC (And.intro trivial okp32) <| aN) <| aC (fun hg : (((a0.Zone == (0 : Int)) == false) && (b28 == true)) = true => aC (gi (((a0.Zone == (0 : Int)) == false) && (b28 == true))) <| aC (gi (((a0.Zone == (0 : Int)) == false) && (b28 == true))) <| aC (congrArg (fun z => V.c (.bool (z))) (eqT32 a0.Counters (⟨(0 : Int), (0 : Int), (0 : Int)⟩ : A3 (Int)))) <| aN) <| aC (fun hg : ((a0.Zone == (0 : Int)) == false) = true => aC (gi ((a0.Zone == (0 : Int)) == false)) <| aC (fun q : b28 = true => (gA hg (gT q))) <| aB hb29 <| aN) <| aF (a0.Zone == (0 : Int)) <| aB hb30 <| aN) ?_
       refine Holds.ret ?_
       exact bQ (vB b30) (congrArg vB (sI h))
/-- cardgame/cardgameref25.List -/
def r25_List (a0 : SState) (a1 : Int) (a2 : Int) : Option ((List (Int))) :=
 (if (a1 == (0 : Int)) = true then
  (r25_ints a0.Battlefield).bind fun r2 =>
  some r2
 else
  (if (a1 == (4 : Int)) = true then
   (r25_ints a0.Exile).bind fun r4 =>
   some r4
  else
   (some (if (decide (a2 < (0 : Int))) = true then true else decide ((a0.Players.length : Int) ≤ a2))).bind fun b5 =>
   (if b5 = true then
    some ([] : List (Int))
   else
    (if (a1 == (1 : Int)) = true then
     (idx a0.Players a2).bind fun e8 =>
     (r25_ints e8.Hand).bind fun r9 =>
     some r9
    else
     (if (a1 == (2 : Int)) = true then
      (idx a0.Players a2).bind fun e11 =>
      (r25_ints e11.Library).bind fun r12 =>
      some r12
     else
      (if (a1 == (3 : Int)) = true then
       (idx a0.Players a2).bind fun e14 =>
       (r25_ints e14.Graveyard).bind fun r15 =>
       some r15
      else
       some ([] : List (Int))))))))
def r25_List_C (a0 : SState) (a1 : Int) (a2 : Int) (r : (List (Int))) : Prop := PCall Tryz.prog I0 102 [vA encSState a0, vI a1, vI a2] (· = vL (eI .i64) r)
theorem r25_List_ok {a0 : SState} {a1 : Int} {a2 : Int} {r : (List (Int))} (h : r25_List a0 a1 a2 = some r) : r25_List_C a0 a1 a2 r := by
 refine PCall.body I0_stable (by kernel_rfl) Tryz.func102 rfl Tryz.ntmps102 (rs := [.tmp 6]) rfl rfl ?_
 intro w0 av old gv
 unfold r25_List at h
 refine Rg [.a, .a] (sl 55 [(1, vI a1), (2, vI a2), (3, vP [3] (0))] [bx [3] (encSState a0)]) (aN) ?_
 refine Holds.seq ?_
 refine Rg [.a] (sl 55 [(1, vI a1), (2, vI a2), (3, vP [3] (0)), (7, vI a1)] [bx [3] (encSState a0)]) (aN) ?_
 refine Holds.block ?_
 refine Rg [.a, .a] (sl 55 [(1, vI a1), (2, vI a2), (3, vP [3] (0)), (7, vI a1), (8, vB (a1 == (0 : Int)))] [bx [3] (encSState a0)]) (aN) ?_
 refine iB h (fun b1 h => ?_) (fun b1 h => ?_)
 · obtain ⟨r2, hr2, h⟩ := bS h
   refine Rg [.a, .a, (.c (vL (eI .i64) r2)), .a] (sl 55 [(6, vL (eI .i64) r2)] []) (aC (r25_ints_ok hr2) <| aN) ?_
   refine Holds.ret ?_
   refine blockQ.ret ?_
   refine Tr ?_
   exact bQ (vL (eI .i64) r2) (congrArg (vL (eI .i64)) (sI h))
 · refine Rg [.a, .a] (sl 55 [(1, vI a1), (2, vI a2), (3, vP [3] (0)), (13, vB (a1 == (4 : Int)))] [bx [3] (encSState a0)]) (aN) ?_
   refine iB h (fun b3 h => ?_) (fun b3 h => ?_)
   · obtain ⟨r4, hr4, h⟩ := bS h
     refine Rg [.a, .a, (.c (vL (eI .i64) r4)), .a] (sl 55 [(6, vL (eI .i64) r4)] []) (aC (r25_ints_ok hr4) <| aN) ?_
     refine Holds.ret ?_
     refine blockQ.ret ?_
     refine Tr ?_
     exact bQ (vL (eI .i64) r4) (congrArg (vL (eI .i64)) (sI h))
   · refine Holds.skip ?_
     refine blockQ.normal ?_
     refine Tn ?_
     refine Holds.seq ?_
     obtain ⟨b5, hb5, h⟩ := bS h
     refine Rg [.a, .a, .a, .a, .a, .a, .a, .a, (.v (vB b5))] (sl 55 [(1, vI a1), (2, vI a2), (3, vP [3] (0)), (26, vB b5)] [bx [3] (encSState a0)]) (aG ((decide (a2 < (0 : Int))) == false) <| aG ((decide (a2 < (0 : Int))) == false) <| aH ((decide (a2 < (0 : Int))) == false) <| aF (decide (a2 < (0 : Int))) <| aB hb5 <| aN) ?_
     refine iB h (fun b6 h => ?_) (fun b6 h => ?_)
     · refine Rg [.a] (sl 55 [(6, vO [6])] [rw_ [6] 3 1 (eI .i64) ([] : List (Int))]) (aN) ?_
       refine Holds.ret ?_
       refine Tr ?_
       exact bE (vO [6]) (vL (eI .i64) ([] : List (Int))) (congrArg (vL (eI .i64)) (sI h))
     · refine Holds.skip ?_
       refine Tn ?_
       refine Holds.seq ?_
       refine Rg [.a] (sl 55 [(2, vI a2), (3, vP [3] (0)), (27, vI a1)] [bx [3] (encSState a0)]) (aN) ?_
       refine Holds.block ?_
       refine Rg [.a, .a] (sl 55 [(2, vI a2), (3, vP [3] (0)), (27, vI a1), (28, vB (a1 == (1 : Int)))] [bx [3] (encSState a0)]) (aN) ?_
       refine iB h (fun b7 h => ?_) (fun b7 h => ?_)
       · obtain ⟨e8, he8, h⟩ := bS h
         obtain ⟨r9, hr9, h⟩ := bS h
         refine Rg [.a, .a, .a, .a, .a, (.v (vL (eI .i64) e8.Hand)), (.c (vL (eI .i64) r9)), .a] (sl 55 [(6, vL (eI .i64) r9)] []) (aC (idx_b he8) <| aC (eld he8 lenSPlayer 12 1 false (vL (eI .i64) e8.Hand)) <| aC (Eq.refl (vL (eI .i64) e8.Hand)) <| aC (r25_ints_ok hr9) <| aN) ?_
         refine Holds.ret ?_
         refine blockQ.ret ?_
         refine Tr ?_
         exact bQ (vL (eI .i64) r9) (congrArg (vL (eI .i64)) (sI h))
       · refine Rg [.a, .a] (sl 55 [(2, vI a2), (3, vP [3] (0)), (27, vI a1), (37, vB (a1 == (2 : Int)))] [bx [3] (encSState a0)]) (aN) ?_
         refine iB h (fun b10 h => ?_) (fun b10 h => ?_)
         · obtain ⟨e11, he11, h⟩ := bS h
           obtain ⟨r12, hr12, h⟩ := bS h
           refine Rg [.a, .a, .a, .a, .a, (.v (vL (eI .i64) e11.Library)), (.c (vL (eI .i64) r12)), .a] (sl 55 [(6, vL (eI .i64) r12)] []) (aC (idx_b he11) <| aC (eld he11 lenSPlayer 11 1 false (vL (eI .i64) e11.Library)) <| aC (Eq.refl (vL (eI .i64) e11.Library)) <| aC (r25_ints_ok hr12) <| aN) ?_
           refine Holds.ret ?_
           refine blockQ.ret ?_
           refine Tr ?_
           exact bQ (vL (eI .i64) r12) (congrArg (vL (eI .i64)) (sI h))
         · refine Rg [.a, .a] (sl 55 [(2, vI a2), (3, vP [3] (0)), (46, vB (a1 == (3 : Int)))] [bx [3] (encSState a0)]) (aN) ?_
           refine iB h (fun b13 h => ?_) (fun b13 h => ?_)
           · obtain ⟨e14, he14, h⟩ := bS h
             obtain ⟨r15, hr15, h⟩ := bS h
             refine Rg [.a, .a, .a, .a, .a, (.v (vL (eI .i64) e14.Graveyard)), (.c (vL (eI .i64) r15)), .a] (sl 55 [(6, vL (eI .i64) r15)] []) (aC (idx_b he14) <| aC (eld he14 lenSPlayer 13 1 false (vL (eI .i64) e14.Graveyard)) <| aC (Eq.refl (vL (eI .i64) e14.Graveyard)) <| aC (r25_ints_ok hr15) <| aN) ?_
             refine Holds.ret ?_
             refine blockQ.ret ?_
             refine Tr ?_
             exact bQ (vL (eI .i64) r15) (congrArg (vL (eI .i64)) (sI h))
           · refine Holds.skip ?_
             refine blockQ.normal ?_
             refine Tn ?_
             refine Rg [.a] (sl 55 [(6, vO [6])] [rw_ [6] 3 1 (eI .i64) ([] : List (Int))]) (aN) ?_
             refine Holds.ret ?_
             exact bE (vO [6]) (vL (eI .i64) ([] : List (Int))) (congrArg (vL (eI .i64)) (sI h))
/-- cardgame/cardgameref17.Same -/
def r17_Same (a0 : SEffect) (a1 : SEffect) : Option (Bool) :=
 (some (if (a0.Op == a1.Op) = true then a0.Ref == a1.Ref else false)).bind fun b1 =>
 (some (if b1 = true then a0.Amount == a1.Amount else false)).bind fun b2 =>
 (some (if b2 = true then a0.Counter == a1.Counter else false)).bind fun b3 =>
 (some (if b3 = true then a0.Zone == a1.Zone else false)).bind fun b4 =>
 (some (if b4 = true then a0.Card == a1.Card else false)).bind fun b5 =>
 (some (if b5 = true then a0.Filter == a1.Filter else false)).bind fun b6 =>
 (some (if b6 = true then a0.Pool == a1.Pool else false)).bind fun b7 =>
 (gd (b7 == true) (r17_SameMods a0.Mods a1.Mods)).bind fun r8 =>
 (some (if b7 = true then r8 else false)).bind fun b9 =>
 some b9
def r17_Same_C (a0 : SEffect) (a1 : SEffect) (r : Bool) : Prop := PCall Tryz.prog I0 168 [vA encSEffect a0, vA encSEffect a1] (· = vB r)
theorem r17_Same_ok {a0 : SEffect} {a1 : SEffect} {r : Bool} (h : r17_Same a0 a1 = some r) : r17_Same_C a0 a1 r := by
 refine PCall.body I0_stable (by kernel_rfl) Tryz.func168 rfl Tryz.ntmps168 (rs := [.tmp 4]) rfl rfl ?_
 intro w0 av old gv
 unfold r17_Same at h
 refine Rg [.a, .a, .a] (sl 66 [(2, vP [2] (0)), (3, vP [3] (0))] [bx [3] (encSEffect a1), bx [2] (encSEffect a0)]) (aN) ?_
 obtain ⟨b1, hb1, h⟩ := bS h
 obtain ⟨b2, hb2, h⟩ := bS h
 obtain ⟨b3, hb3, h⟩ := bS h
 obtain ⟨b4, hb4, h⟩ := bS h
 obtain ⟨b5, hb5, h⟩ := bS h
 obtain ⟨b6, hb6, h⟩ := bS h
 obtain ⟨b7, hb7, h⟩ := bS h
 obtain ⟨r8, hr8, h⟩ := bS h
 obtain ⟨b9, hb9, h⟩ := bS h
 refine Rg [.a, .a, .a, .a, .a, .a, .a, .a, .a, .a, (.v (vB (a0.Ref == a1.Ref))), (.v (vB b1)), .a, .a, .a, .a, .a, (.v (vB (a0.Amount == a1.Amount))), (.v (vB b2)), .a, .a, .a, .a, .a, .a, (.v (vB b3)), .a, .a, .a, .a, .a, .a, (.v (vB b4)), .a, .a, .a, .a, .a, .a, (.v (vB b5)), .a, .a, .a, .a, .a, (.v (vB (a0.Filter == a1.Filter))), (.v (vB b6)), .a, .a, .a, .a, .a, (.v (vB (a0.Pool == a1.Pool))), (.v (vB b7)), .a, .a, .a, .a, .a, (.c (vB r8)), (.v (vB b9)), .a] (sl 66 [(4, vB b9)] []) (aG ((a0.Op == a1.Op) == true) <| aG ((a0.Op == a1.Op) == true) <| aC (fun hg : ((a0.Op == a1.Op) == true) = true => aC (gi ((a0.Op == a1.Op) == true)) <| aC (gi ((a0.Op == a1.Op) == true)) <| aC (congrArg (fun z => V.c (.bool (z))) (eqT117 a0.Ref a1.Ref)) <| aN) <| aT (a0.Op == a1.Op) <| aB hb1 <| aG (b1 == true) <| aG (b1 == true) <| aC (fun hg : (b1 == true) = true => aC (gi (b1 == true)) <| aC (gi (b1 == true)) <| aC (congrArg (fun z => V.c (.bool (z))) (eqT119 a0.Amount a1.Amount)) <| aN) <| aT b1 <| aB hb2 <| aG (b2 == true) <| aG (b2 == true) <| aH (b2 == true) <| aT b2 <| aB hb3 <| aG (b3 == true) <| aG (b3 == true) <| aH (b3 == true) <| aT b3 <| aB hb4 <| aG (b4 == true) <| aG (b4 == true) <| aH (b4 == true) <| aT b4 <| aB hb5 <| aG (b5 == true) <| aG (b5 == true) <| aC (fun hg : (b5 == true) = true => aC (gi (b5 == true)) <| aC (gi (b5 == true)) <| aC (congrArg (fun z => V.c (.bool (z))) (eqT95 a0.Filter a1.Filter)) <| aN) <| aT b5 <| aB hb6 <| aG (b6 == true) <| aG (b6 == true) <| aC (fun hg : (b6 == true) = true => aC (gi (b6 == true)) <| aC (gi (b6 == true)) <| aC (congrArg (fun z => V.c (.bool (z))) (eqT49 a0.Pool a1.Pool)) <| aN) <| aT b6 <| aB hb7 <| aG (b7 == true) <| aG (b7 == true) <| aC (c2 hr8 r17_SameMods_ok) <| aT b7 <| aB hb9 <| aN) ?_
 refine Holds.ret ?_
 exact bQ (vB b9) (congrArg vB (sI h))
def event_Text_J5  (l9_4 : List (List UInt8)) : Option ((List UInt8)) :=
 (dJoin l9_4 str_x20).bind fun r6 =>
 some r6
def event_Text_B12 (a0 : SEvent) (vt35_9 : Int) (l9_10 : List (List UInt8)) : Option ((Int × (List (List UInt8))) ⊕ ((List (List UInt8)))) :=
 (if (decide (vt35_9 < (9 : Int))) = true then
  (idx (⟨a0.Source, a0.Object, a0.Player, a0.Amount, a0.From, a0.To, a0.Cause, a0.Counter, a0.Card⟩ : A9 (Int)).l vt35_9).bind fun e14 =>
  (num_Text e14).bind fun r15 =>
  (app 16 l9_10 ([r15] : List (List UInt8))).bind fun l16 =>
  some (.inl ((wrap64 (vt35_9 + (1 : Int))), l16))
 else
  some (.inr l9_10))
def event_Text_J3 (a0 : SEvent) (l9_2 : List (List UInt8)) : Option ((List UInt8)) :=
 (iter (fun (v : Int × (List (List UInt8))) => event_Text_B12 a0 v.1 v.2) FU ((0 : Int), l9_2)).bind (fun o0 => event_Text_J5 o0)
/-- cardgame/event.Text -/
def event_Text (a0 : SEvent) : Option ((List UInt8)) :=
 (event_Name a0.Kind).bind fun r1 =>
 (idx ([r1] : List (List UInt8)) (0 : Int)).bind fun e17 =>
 (if (e17 == ([] : List UInt8)) = true then
  (idx ([r1] : List (List UInt8)) (0 : Int)).bind fun e19 =>
  (some (([r1] : List (List UInt8)).set ((0 : Int)).toNat str_x3f)).bind fun l20 =>
  event_Text_J3 a0 l20
 else
  event_Text_J3 a0 ([r1] : List (List UInt8)))
def event_Text_C (a0 : SEvent) (r : (List UInt8)) : Prop := PCall Tryz.prog I0 18 [vA encSEvent a0] (· = vS r)
theorem event_Text_ok {a0 : SEvent} {r : (List UInt8)} (h : event_Text a0 = some r) : event_Text_C a0 r := by
 refine PCall.body I0_stable (by kernel_rfl) Tryz.func18 rfl Tryz.ntmps18 (rs := [.tmp 2]) rfl rfl ?_
 intro w0 av old gv
 unfold event_Text at h
 refine Rg [.a, .a] (sl 46 [(1, vP [1] (0))] [bx [1] (encSEvent a0)]) (aN) ?_
 obtain ⟨r1, hr1, h⟩ := bS h
 refine Rg [.a, .a, (.c (vS r1)), .a, .a] (sl 46 [(1, vP [1] (0)), (3, vO [9])] [rw_ [9] 9 1 eS ([r1] : List (List UInt8)), bx [1] (encSEvent a0)]) (aC (event_Name_ok hr1) <| aN) ?_
 refine Holds.seqJ (X := (List (List UInt8))) (fun v => (sl 46 [(1, vP [1] (0)), (3, vO [9])] [rw_ [9] 9 1 eS v, bx [1] (encSEvent a0)])) (fun v => event_Text_J3 a0 v = some r) ?_ ?_
 · obtain ⟨e17, he17, h⟩ := bS h
   refine Rg [.a, .a, (.v (vS e17)), .a] (sl 46 [(1, vP [1] (0)), (3, vO [9]), (13, vB (e17 == ([] : List UInt8)))] [rw_ [9] 9 1 eS ([r1] : List (List UInt8)), bx [1] (encSEvent a0)]) (aC (idx_b he17) <| aC (eld he17 lenS 0 1 false (vS e17)) <| aC (Eq.refl (vS e17)) <| aN) ?_
   refine iB h (fun b18 h => ?_) (fun b18 h => ?_)
   · obtain ⟨e19, he19, h⟩ := bS h
     obtain ⟨l20, hl20, h⟩ := bS h
     refine Re [.a, .a, (.e l20.length (l20.flatMap (eS)))] (sl 46 [(1, vP [1] (0)), (3, vO [9]), (13, vB (e17 == ([] : List UInt8))), (14, vO [9]), (15, vP [9] (((0 : Int)).toNat * 1))] [rw_ [9] 9 1 eS l20, bx [1] (encSEvent a0)]) (aC (idx_b he19) <| aC (show ((0 : Int)).toNat * 1 + 1 ≤ (([r1] : List (List UInt8)).flatMap (eS)).length ∧ (([r1] : List (List UInt8)).flatMap (eS)).take (((0 : Int)).toNat * 1) ++ ([.str str_x3f] : List C) ++ (([r1] : List (List UInt8)).flatMap (eS)).drop (((0 : Int)).toNat * 1 + ([.str str_x3f] : List C).length) = l20.flatMap (eS) from (by rw [← sI hl20]; exact arr_st (e := eS) (N := 1) (l := ([r1] : List (List UInt8))) (i := (0 : Int)) (x' := str_x3f) (o := 0) (base := 0) (cs := ([.str str_x3f] : List C)) (pre := []) (post := []) (by simp) rfl (by simp) rfl he19 lenS (by omega) (Nat.le_of_ble_eq_true (by kernel_rfl)) (by kernel_rfl))) <| aC (show ((some (9, 1, l20.length) : Option (TypeId × Nat × Nat)) = some (9, 1, ([r1] : List (List UInt8)).length)) ∧ True from ⟨by rw [← sI hl20, List.length_set], trivial⟩) <| aN) ?_
     refine Tn ⟨l20, h, lT⟩
   · refine Holds.skip ?_
     refine Tn ⟨([r1] : List (List UInt8)), h, lT⟩
 · rintro l9_2 hJ3
   replace hJ3 : event_Text_J3 a0 l9_2 = some r := hJ3
   unfold event_Text_J3 at hJ3
   refine Holds.seqJ (X := (List (List UInt8))) (fun v => (sl 46 [(3, vO [9])] [rw_ [9] 9 1 eS v])) (fun v => event_Text_J5 v = some r) ?_ ?_
   · refine Rg [.a, .a, .a, .a, .a, .a, .a, .a, .a, .a, .a, .a, .a, .a, .a, .a, .a, .a, .a, .a] (sl 46 [(3, vO [9]), (34, vA (eA9 (eI .i64)) (⟨a0.Source, a0.Object, a0.Player, a0.Amount, a0.From, a0.To, a0.Cause, a0.Counter, a0.Card⟩ : A9 (Int))), (35, vI (0 : Int))] [rw_ [9] 9 1 eS l9_2]) (aC (And.intro (show True ∧ (True ∧ (True ∧ (True ∧ (True ∧ (True ∧ (True ∧ (True ∧ (True ∧ True)))))))) from ⟨trivial, ⟨trivial, ⟨trivial, ⟨trivial, ⟨trivial, ⟨trivial, ⟨trivial, ⟨trivial, ⟨trivial, trivial⟩⟩⟩⟩⟩⟩⟩⟩⟩) okp85) <| aN) ?_
     refine Holds.block ?_
     obtain ⟨oB12, hiB12, hJ3⟩ := bS hJ3
     refine Holds.iter (fun (v : Int × (List (List UInt8))) => (sl 46 [(3, vO [9]), (34, vA (eA9 (eI .i64)) (⟨a0.Source, a0.Object, a0.Player, a0.Amount, a0.From, a0.To, a0.Cause, a0.Counter, a0.Card⟩ : A9 (Int))), (35, vI v.1)] [rw_ [9] 9 1 eS v.2])) hiB12 (lT) ?_
     rintro ⟨vt35_9, l9_10⟩ zB12 hzB12 hoB12
     replace hzB12 : event_Text_B12 a0 vt35_9 l9_10 = some zB12 := hzB12
     unfold event_Text_B12 at hzB12
     refine Rg [.a] (sl 46 [(3, vO [9]), (34, vA (eA9 (eI .i64)) (⟨a0.Source, a0.Object, a0.Player, a0.Amount, a0.From, a0.To, a0.Cause, a0.Counter, a0.Card⟩ : A9 (Int))), (35, vI vt35_9), (36, vB (decide (vt35_9 < (9 : Int))))] [rw_ [9] 9 1 eS l9_10]) (aN) ?_
     refine Holds.seq ?_
     refine iB hzB12 (fun b13 hzB12 => ?_) (fun b13 hzB12 => ?_)
     · refine Holds.skip ?_
       refine Tn ?_
       refine Holds.seq ?_
       refine Holds.block ?_
       obtain ⟨e14, he14, hzB12⟩ := bS hzB12
       refine Rg [(.v (vI e14)), .a] (sl 46 [(3, vO [9]), (5, vI e14), (34, vA (eA9 (eI .i64)) (⟨a0.Source, a0.Object, a0.Player, a0.Amount, a0.From, a0.To, a0.Cause, a0.Counter, a0.Card⟩ : A9 (Int))), (35, vI vt35_9)] [rw_ [9] 9 1 eS l9_10]) (aC (show (0 ≤ vt35_9 ∧ vt35_9 < ((9 : Nat) : Int)) ∧ (vt35_9).toNat * 1 + 1 ≤ (eA9 (eI .i64) (⟨a0.Source, a0.Object, a0.Player, a0.Amount, a0.From, a0.To, a0.Cause, a0.Counter, a0.Card⟩ : A9 (Int))).length ∧ toV false ((vt35_9).toNat * 1) 1 (eA9 (eI .i64) (⟨a0.Source, a0.Object, a0.Player, a0.Amount, a0.From, a0.To, a0.Cause, a0.Counter, a0.Card⟩ : A9 (Int))) = vI e14 from ⟨idx_b he14, arr_ld (e := eI .i64) (N := 1) (l := (⟨a0.Source, a0.Object, a0.Player, a0.Amount, a0.From, a0.To, a0.Cause, a0.Counter, a0.Card⟩ : A9 (Int)).l) (base := 0) (pre := []) (post := []) (by kernel_rfl) rfl he14 (lenI .i64) (o := 0) (by simp) (by decide) (by decide) (by kernel_rfl)⟩) <| aC (Eq.refl (vI e14)) <| aN) ?_
       obtain ⟨r15, hr15, hzB12⟩ := bS hzB12
       obtain ⟨l16, hl16, hzB12⟩ := bS hzB12
       refine Re [.a, .a, (.c (vS r15)), .a, (.e l16.length (l16.flatMap (eS))), .a] (sl 46 [(3, vO [9]), (5, vI e14), (34, vA (eA9 (eI .i64)) (⟨a0.Source, a0.Object, a0.Player, a0.Amount, a0.From, a0.To, a0.Cause, a0.Counter, a0.Card⟩ : A9 (Int))), (35, vI vt35_9), (39, vI e14), (40, vS r15), (41, vO [41]), (42, vO [9])] [rw_ [9] 9 1 eS l16, rw_ [41] 9 1 eS ([r15] : List (List UInt8))]) (aC (num_Text_ok hr15) <| aC (ap1 hl16 eS) <| aC (app_b hl16) <| aN) ?_
       refine blockQ.normal ?_
       refine Tn ?_
       refine Re [.a, .a] (sl 46 [(3, vO [9]), (5, vI e14), (34, vA (eA9 (eI .i64)) (⟨a0.Source, a0.Object, a0.Player, a0.Amount, a0.From, a0.To, a0.Cause, a0.Counter, a0.Card⟩ : A9 (Int))), (35, vI (wrap64 (vt35_9 + (1 : Int)))), (39, vI e14), (40, vS r15), (41, vO [41]), (42, vO [9]), (43, vI (wrap64 (vt35_9 + (1 : Int))))] [rw_ [9] 9 1 eS l16, rw_ [41] 9 1 eS ([r15] : List (List UInt8))]) (aN) ?_
       refine Tn ⟨((wrap64 (vt35_9 + (1 : Int))), l16), (sI hzB12).symm, lT⟩
     · refine Holds.exit ?_
       refine thenQ.exit ?_
       have hoB12_ := hoB12 _ (sI hzB12).symm
       subst hoB12_
       refine thenQ.exit ?_
       refine blockQ.out ?_
       refine Tn ⟨l9_10, hJ3, lT⟩
   · rintro l9_4 hJ5
     replace hJ5 : event_Text_J5 l9_4 = some r := hJ5
     unfold event_Text_J5 at hJ5
     obtain ⟨r6, hr6, hJ5⟩ := bS hJ5
     refine Rg [.a, (.c (vS r6)), .a] (sl 46 [(2, vS r6)] []) (aC (okJoin hr6) <| aN) ?_
     refine Holds.ret ?_
     exact bQ (vS r6) (congrArg vS (sI hJ5))
/-- cardgame/zone.Find -/
def zone_Find (a0 : SState) (a1 : Int) : Option (SObject × Bool) :=
 (zone_place a0 a1).bind fun r1 =>
 (if (decide (r1 < (0 : Int))) = true then
  some ((⟨(0 : Int), (0 : Int), (0 : Int), (0 : Int), (0 : Int), false, false, false, false, (0 : Int), (⟨(0 : Int), (0 : Int), (0 : Int)⟩ : A3 (Int)), (0 : Int), (0 : Int), (0 : Int), false, (0 : Int), (0 : Int)⟩ : SObject), false)
 else
  (idx a0.Objects r1).bind fun e3 =>
  some (e3, true))
def zone_Find_C (a0 : SState) (a1 : Int) (r : SObject × Bool) : Prop := PCall Tryz.prog I0 26 [vA encSState a0, vI a1] (· = .tup [vA encSObject r.1, vB r.2])
theorem zone_Find_ok {a0 : SState} {a1 : Int} {r : SObject × Bool} (h : zone_Find a0 a1 = some r) : zone_Find_C a0 a1 r := by
 refine PCall.body I0_stable (by kernel_rfl) Tryz.func26 rfl Tryz.ntmps26 (rs := [.cell 4 42, .tmp 5]) rfl rfl ?_
 intro w0 av old gv
 unfold zone_Find at h
 refine Rg [.a, .a, .a] (sl 18 [(1, vI a1), (2, vP [2] (0)), (4, vP [4] (0))] [bx [4] [.int .i64 (0 : Int), .int .i64 (0 : Int), .int .i64 (0 : Int), .int .i64 (0 : Int), .int .i64 (0 : Int), .bool false, .bool false, .bool false, .bool false, .int .i64 (0 : Int), .int .i64 (((⟨(0 : Int), (0 : Int), (0 : Int)⟩ : A3 (Int))).x0), .int .i64 (((⟨(0 : Int), (0 : Int), (0 : Int)⟩ : A3 (Int))).x1), .int .i64 (((⟨(0 : Int), (0 : Int), (0 : Int)⟩ : A3 (Int))).x2), .int .i64 (0 : Int), .int .i64 (0 : Int), .int .i64 (0 : Int), .bool false, .int .i64 (0 : Int), .int .i64 (0 : Int)], bx [2] (encSState a0)]) (aN) ?_
 obtain ⟨r1, hr1, h⟩ := bS h
 refine Rg [.a, .a, (.c (vI r1)), .a] (sl 18 [(2, vP [2] (0)), (4, vP [4] (0)), (6, vI r1)] [bx [4] [.int .i64 (0 : Int), .int .i64 (0 : Int), .int .i64 (0 : Int), .int .i64 (0 : Int), .int .i64 (0 : Int), .bool false, .bool false, .bool false, .bool false, .int .i64 (0 : Int), .int .i64 (((⟨(0 : Int), (0 : Int), (0 : Int)⟩ : A3 (Int))).x0), .int .i64 (((⟨(0 : Int), (0 : Int), (0 : Int)⟩ : A3 (Int))).x1), .int .i64 (((⟨(0 : Int), (0 : Int), (0 : Int)⟩ : A3 (Int))).x2), .int .i64 (0 : Int), .int .i64 (0 : Int), .int .i64 (0 : Int), .bool false, .int .i64 (0 : Int), .int .i64 (0 : Int)], bx [2] (encSState a0)]) (aC (zone_place_ok hr1) <| aN) ?_
 refine Holds.seq ?_
 refine Rg [.a, .a] (sl 18 [(2, vP [2] (0)), (4, vP [4] (0)), (6, vI r1), (11, vB (decide (r1 < (0 : Int))))] [bx [4] [.int .i64 (0 : Int), .int .i64 (0 : Int), .int .i64 (0 : Int), .int .i64 (0 : Int), .int .i64 (0 : Int), .bool false, .bool false, .bool false, .bool false, .int .i64 (0 : Int), .int .i64 (((⟨(0 : Int), (0 : Int), (0 : Int)⟩ : A3 (Int))).x0), .int .i64 (((⟨(0 : Int), (0 : Int), (0 : Int)⟩ : A3 (Int))).x1), .int .i64 (((⟨(0 : Int), (0 : Int), (0 : Int)⟩ : A3 (Int))).x2), .int .i64 (0 : Int), .int .i64 (0 : Int), .int .i64 (0 : Int), .bool false, .int .i64 (0 : Int), .int .i64 (0 : Int)], bx [2] (encSState a0)]) (aN) ?_
 refine iB h (fun b2 h => ?_) (fun b2 h => ?_)
 · refine Rg [.a, .a, .a] (sl 18 [(4, vP [4] (0)), (5, vB false)] [bx [4] [.int .i64 (0 : Int), .int .i64 (0 : Int), .int .i64 (0 : Int), .int .i64 (0 : Int), .int .i64 (0 : Int), .bool false, .bool false, .bool false, .bool false, .int .i64 (0 : Int), .int .i64 (((⟨(0 : Int), (0 : Int), (0 : Int)⟩ : A3 (Int))).x0), .int .i64 (((⟨(0 : Int), (0 : Int), (0 : Int)⟩ : A3 (Int))).x1), .int .i64 (((⟨(0 : Int), (0 : Int), (0 : Int)⟩ : A3 (Int))).x2), .int .i64 (0 : Int), .int .i64 (0 : Int), .int .i64 (0 : Int), .bool false, .int .i64 (0 : Int), .int .i64 (0 : Int)]]) (aC (And.intro trivial okp42) <| aN) ?_
   refine Holds.ret ?_
   refine Tr ?_
   exact bE (.tup [.agg [.int .i64 (0 : Int), .int .i64 (0 : Int), .int .i64 (0 : Int), .int .i64 (0 : Int), .int .i64 (0 : Int), .bool false, .bool false, .bool false, .bool false, .int .i64 (0 : Int), .int .i64 (((⟨(0 : Int), (0 : Int), (0 : Int)⟩ : A3 (Int))).x0), .int .i64 (((⟨(0 : Int), (0 : Int), (0 : Int)⟩ : A3 (Int))).x1), .int .i64 (((⟨(0 : Int), (0 : Int), (0 : Int)⟩ : A3 (Int))).x2), .int .i64 (0 : Int), .int .i64 (0 : Int), .int .i64 (0 : Int), .bool false, .int .i64 (0 : Int), .int .i64 (0 : Int)], vB false]) (.tup [.agg (encSObject (⟨(0 : Int), (0 : Int), (0 : Int), (0 : Int), (0 : Int), false, false, false, false, (0 : Int), (⟨(0 : Int), (0 : Int), (0 : Int)⟩ : A3 (Int)), (0 : Int), (0 : Int), (0 : Int), false, (0 : Int), (0 : Int)⟩ : SObject)), vB false]) (congrArg (fun (q : SObject × Bool) => (.tup [vA encSObject q.1, vB q.2] : V)) (sI h))
 · refine Holds.skip ?_
   refine Tn ?_
   obtain ⟨e3, he3, h⟩ := bS h
   refine Rg [.a, .a, .a, .a, (.v (vA encSObject e3)), .a, .a] (sl 18 [(4, vP [4] (0)), (5, vB true)] [bx [4] (encSObject e3)]) (aC (idx_b he3) <| aC (eld he3 lenSObject 0 19 true (vA encSObject e3)) <| aC (Eq.refl (vA encSObject e3)) <| aN) ?_
   refine Holds.ret ?_
   exact bE (.tup [vA encSObject e3, vB true]) (.tup [.agg (encSObject e3), vB true]) (congrArg (fun (q : SObject × Bool) => (.tup [vA encSObject q.1, vB q.2] : V)) (sI h))
/-- cardgame/event.creates -/
def event_creates (a0 : List (SCard)) (a1 : SState) (a2 : SEvent) : Option (Bool) :=
 (event_living a1 a2.Player).bind fun r1 =>
 (some (if r1 = true then decide ((0 : Int) ≤ a2.Card) else false)).bind fun b2 =>
 (some (if b2 = true then decide (a2.Card < (a0.length : Int)) else false)).bind fun b3 =>
 (gd (b3 == true) (idx a0 a2.Card)).bind fun e4 =>
 (some (if b3 = true then e4.Token else false)).bind fun b5 =>
 (gd (b5 == true) (event_amount a2)).bind fun r6 =>
 (some (if b5 = true then r6 else false)).bind fun b7 =>
 some b7
def event_creates_C (a0 : List (SCard)) (a1 : SState) (a2 : SEvent) (r : Bool) : Prop := PCall Tryz.prog I0 25 [vL encSCard a0, vA encSState a1, vA encSEvent a2] (· = vB r)
theorem event_creates_ok {a0 : List (SCard)} {a1 : SState} {a2 : SEvent} {r : Bool} (h : event_creates a0 a1 a2 = some r) : event_creates_C a0 a1 a2 r := by
 refine PCall.body I0_stable (by kernel_rfl) Tryz.func25 rfl Tryz.ntmps25 (rs := [.tmp 6]) rfl rfl ?_
 intro w0 av old gv
 unfold event_creates at h
 refine Rg [.a, .a, .a] (sl 35 [(0, vL encSCard a0), (4, vP [4] (0)), (5, vP [5] (0))] [bx [5] (encSEvent a2), bx [4] (encSState a1)]) (aN) ?_
 obtain ⟨r1, hr1, h⟩ := bS h
 obtain ⟨b2, hb2, h⟩ := bS h
 obtain ⟨b3, hb3, h⟩ := bS h
 obtain ⟨e4, he4, h⟩ := bS h
 obtain ⟨b5, hb5, h⟩ := bS h
 obtain ⟨r6, hr6, h⟩ := bS h
 obtain ⟨b7, hb7, h⟩ := bS h
 refine Rg [.a, .a, .a, (.c (vB r1)), .a, .a, .a, .a, (.v (vB b2)), .a, .a, .a, .a, .a, .a, (.v (vB b3)), .a, .a, .a, .a, .a, .a, (.v (vB e4.Token)), (.v (vB b5)), .a, .a, (.c (vB r6)), (.v (vB b7)), .a] (sl 35 [(6, vB b7)] []) (aC (event_living_ok hr1) <| aG (r1 == true) <| aG (r1 == true) <| aT r1 <| aB hb2 <| aG (b2 == true) <| aG (b2 == true) <| aH (b2 == true) <| aT b2 <| aB hb3 <| aG (b3 == true) <| aC (fun hg : (b3 == true) = true => aC (gi (b3 == true)) <| aC (gi (b3 == true)) <| aC (gidx_b he4 hg).1 <| aN) <| aG (b3 == true) <| aC (fun hg : (b3 == true) = true => aC (gi (b3 == true)) <| aC (eld (gd_t he4 hg) lenSCard 1 1 false (vB e4.Token)) <| aC (Eq.refl (vB e4.Token)) <| aN) <| aT b3 <| aB hb5 <| aC (c1 hr6 event_amount_ok) <| aT b5 <| aB hb7 <| aN) ?_
 refine Holds.ret ?_
 exact bQ (vB b7) (congrArg vB (sI h))
def event_Decider_J3 (a2 : SEvent) : Option (Int) :=
 some a2.Player
def event_Decider_B7 (a0 : SState) (a1 : List (STraits)) (a2 : SEvent) (vt17_5 : Int) : Option ((Int) ⊕ (Int ⊕ Unit)) :=
 (if (decide (vt17_5 < (a0.Objects.length : Int))) = true then
  (idx a0.Objects vt17_5).bind fun e9 =>
  (if (e9.Id != a2.Object) = true then
   some (.inl (wrap64 (vt17_5 + (1 : Int))))
  else
   (if (decide (vt17_5 < (a1.length : Int))) = true then
    (idx a1 vt17_5).bind fun e12 =>
    some (.inr (.inl e12.Control))
   else
    some (.inr (.inl (0 : Int)))))
 else
  some (.inr (.inr ())))
/-- cardgame/event.Decider -/
def event_Decider (a0 : SState) (a1 : List (STraits)) (a2 : SEvent) : Option (Int) :=
 (event_aboutObject a2).bind fun r1 =>
 (if (!r1) = true then
  some a2.Player
 else
  (iter (fun (v : Int) => event_Decider_B7 a0 a1 a2 v) FU (0 : Int)).bind (Sum.elim (fun o0 => some o0) (fun o1 => event_Decider_J3 a2)))
def event_Decider_C (a0 : SState) (a1 : List (STraits)) (a2 : SEvent) (r : Int) : Prop := PCall Tryz.prog I0 12 [vA encSState a0, vL encSTraits a1, vA encSEvent a2] (· = vI r)
theorem event_Decider_ok {a0 : SState} {a1 : List (STraits)} {a2 : SEvent} {r : Int} (h : event_Decider a0 a1 a2 = some r) : event_Decider_C a0 a1 a2 r := by
 refine PCall.body I0_stable (by kernel_rfl) Tryz.func12 rfl Tryz.ntmps12 (rs := [.tmp 6]) rfl rfl ?_
 intro w0 av old gv
 unfold event_Decider at h
 refine Rg [.a, .a, .a] (sl 39 [(1, vL encSTraits a1), (3, vP [3] (0)), (5, vP [5] (0))] [bx [5] (encSEvent a2), bx [3] (encSState a0)]) (aN) ?_
 refine Holds.seq ?_
 obtain ⟨r1, hr1, h⟩ := bS h
 refine Rg [.a, (.c (vB r1)), .a] (sl 39 [(1, vL encSTraits a1), (3, vP [3] (0)), (5, vP [5] (0)), (11, vB (!r1))] [bx [5] (encSEvent a2), bx [3] (encSState a0)]) (aC (event_aboutObject_ok hr1) <| aN) ?_
 refine iB h (fun b2 h => ?_) (fun b2 h => ?_)
 · refine Rg [.a, .a, .a] (sl 39 [(6, vI a2.Player)] []) (aN) ?_
   refine Holds.ret ?_
   refine Tr ?_
   exact bQ (vI a2.Player) (congrArg vI (sI h))
 · refine Holds.skip ?_
   refine Tn ?_
   refine Holds.seqJ (X := Unit) (fun v => (sl 39 [(5, vP [5] (0))] [bx [5] (encSEvent a2)])) (fun v => event_Decider_J3 a2 = some r) ?_ ?_
   · refine Rg [.a, .a, .a, .a] (sl 39 [(1, vL encSTraits a1), (5, vP [5] (0)), (15, vL encSObject a0.Objects), (16, vI (a0.Objects.length : Int)), (17, vI (0 : Int))] [bx [5] (encSEvent a2)]) (aN) ?_
     refine Holds.block ?_
     obtain ⟨oB7, hiB7, h⟩ := bS h
     refine Holds.iter (fun (v : Int) => (sl 39 [(1, vL encSTraits a1), (5, vP [5] (0)), (15, vL encSObject a0.Objects), (16, vI (a0.Objects.length : Int)), (17, vI v)] [bx [5] (encSEvent a2)])) hiB7 (lT) ?_
     rintro vt17_5 zB7 hzB7 hoB7
     replace hzB7 : event_Decider_B7 a0 a1 a2 vt17_5 = some zB7 := hzB7
     unfold event_Decider_B7 at hzB7
     refine Rg [.a] (sl 39 [(1, vL encSTraits a1), (5, vP [5] (0)), (15, vL encSObject a0.Objects), (16, vI (a0.Objects.length : Int)), (17, vI vt17_5), (18, vB (decide (vt17_5 < (a0.Objects.length : Int))))] [bx [5] (encSEvent a2)]) (aN) ?_
     refine Holds.seq ?_
     refine iB hzB7 (fun b8 hzB7 => ?_) (fun b8 hzB7 => ?_)
     · refine Holds.skip ?_
       refine Tn ?_
       refine Holds.seq ?_
       refine Holds.block ?_
       obtain ⟨e9, he9, hzB7⟩ := bS hzB7
       refine Rg [.a, .a, (.v (vA encSObject e9)), .a, .a, .a] (sl 39 [(1, vL encSTraits a1), (5, vP [5] (0)), (7, vI vt17_5), (8, vP [8] (0)), (15, vL encSObject a0.Objects), (16, vI (a0.Objects.length : Int)), (17, vI vt17_5)] [bx [8] (encSObject e9), bx [5] (encSEvent a2)]) (aC (idx_b he9) <| aC (eld he9 lenSObject 0 19 true (vA encSObject e9)) <| aC (Eq.refl (vA encSObject e9)) <| aN) ?_
       refine Holds.seq ?_
       refine Rg [.a, .a, .a, .a, .a] (sl 39 [(1, vL encSTraits a1), (5, vP [5] (0)), (7, vI vt17_5), (15, vL encSObject a0.Objects), (16, vI (a0.Objects.length : Int)), (17, vI vt17_5), (26, vB (e9.Id != a2.Object))] [bx [5] (encSEvent a2)]) (aN) ?_
       refine iB hzB7 (fun b10 hzB7 => ?_) (fun b10 hzB7 => ?_)
       · refine Holds.exit ?_
         refine thenQ.exit ?_
         refine blockQ.out ?_
         refine Tn ?_
         refine Re [.a, .a] (sl 39 [(1, vL encSTraits a1), (5, vP [5] (0)), (7, vI vt17_5), (15, vL encSObject a0.Objects), (16, vI (a0.Objects.length : Int)), (17, vI (wrap64 (vt17_5 + (1 : Int)))), (26, vB (e9.Id != a2.Object)), (36, vI (wrap64 (vt17_5 + (1 : Int))))] [bx [5] (encSEvent a2)]) (aN) ?_
         refine Tn ⟨(wrap64 (vt17_5 + (1 : Int))), (sI hzB7).symm, lT⟩
       · refine Holds.skip ?_
         refine Tn ?_
         refine Holds.seq ?_
         refine Rg [.a, .a, .a, .a] (sl 39 [(1, vL encSTraits a1), (7, vI vt17_5), (30, vB (decide (vt17_5 < (a1.length : Int))))] []) (aN) ?_
         refine iB hzB7 (fun b11 hzB7 => ?_) (fun b11 hzB7 => ?_)
         · obtain ⟨e12, he12, hzB7⟩ := bS hzB7
           refine Rg [.a, .a, .a, .a, (.v (vI e12.Control)), .a] (sl 39 [(6, vI e12.Control)] []) (aC (idx_b he12) <| aC (eld he12 lenSTraits 16 1 false (vI e12.Control)) <| aC (Eq.refl (vI e12.Control)) <| aN) ?_
           refine Holds.ret ?_
           refine Tr ?_
           refine blockQ.ret ?_
           refine Tr ?_
           have hoB7_ := hoB7 _ (sI hzB7).symm
           subst hoB7_
           replace h := sumL h
           refine Tr ?_
           refine blockQ.ret ?_
           refine Tr ?_
           exact bQ (vI e12.Control) (congrArg vI (sI h))
         · refine Holds.skip ?_
           refine Tn ?_
           refine Rg [.a] (sl 39 [(6, vI (0 : Int))] []) (aN) ?_
           refine Holds.ret ?_
           refine blockQ.ret ?_
           refine Tr ?_
           have hoB7_ := hoB7 _ (sI hzB7).symm
           subst hoB7_
           replace h := sumL h
           refine Tr ?_
           refine blockQ.ret ?_
           refine Tr ?_
           exact bQ (vI (0 : Int)) (congrArg vI (sI h))
     · refine Holds.exit ?_
       refine thenQ.exit ?_
       have hoB7_ := hoB7 _ (sI hzB7).symm
       subst hoB7_
       replace h := sumR h
       refine thenQ.exit ?_
       refine blockQ.out ?_
       refine Tn ⟨(), h, lT⟩
   · rintro _ hJ3
     replace hJ3 : event_Decider_J3 a2 = some r := hJ3
     unfold event_Decider_J3 at hJ3
     refine Rg [.a, .a, .a] (sl 39 [(6, vI a2.Player)] []) (aN) ?_
     refine Holds.ret ?_
     exact bQ (vI a2.Player) (congrArg vI (sI hJ3))
end Go.PL
