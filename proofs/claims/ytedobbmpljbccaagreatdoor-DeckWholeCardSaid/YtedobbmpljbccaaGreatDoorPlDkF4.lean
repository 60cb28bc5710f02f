/- Functions of the program, as partial functions in Lean, with proofs. -/
import Derived.Test.YtedobbmpljbccaaGreatDoorPlDkB
import Derived.Test.YtedobbmpljbccaaGreatDoorPlDkF0
import Derived.Test.YtedobbmpljbccaaGreatDoorPlDkF1
import Derived.Test.YtedobbmpljbccaaGreatDoorPlDkF2
import Derived.Test.YtedobbmpljbccaaGreatDoorPlDkF3
namespace Go.PL
open Go Go.RowKit Go.Proofs
set_option maxRecDepth 100000
set_option linter.all false
set_option maxHeartbeats 1000000
attribute [local irreducible] Holds thenQ blockQ
def r10_Is_J6 (a0 : SLine) : Option (Bool) :=
 (some (if (a0.Types == (2 : Int)) = true then true else a0.Types == (4 : Int))).bind fun b7 =>
 (gd (b7 == false) (r10_bit a0.Types (1 : Int))).bind fun r8 =>
 (gd ((b7 == false) && ((!r8) == true)) (r10_bit a0.Types (2 : Int))).bind fun r9 =>
 (some (if (!r8) = true then !r9 else false)).bind fun b10 =>
 (some (if b7 = true then true else b10)).bind fun b11 =>
 some b11
def r10_Is_B14 (a0 : SLine) (i_t3_13 : Int) : Option ((Int) ⊕ (Unit ⊕ Unit)) :=
 (if (decide (i_t3_13 < (a0.Subs.length : Int))) = true then
  (idx a0.Subs i_t3_13).bind fun e16 =>
  (r10_IsSub e16).bind fun r17 =>
  (gd (((!r17) == false) && ((decide ((0 : Int) < i_t3_13)) == true)) (idx a0.Subs (wrap64 (i_t3_13 - (1 : Int))))).bind fun e18 =>
  (gd (((!r17) == false) && ((decide ((0 : Int) < i_t3_13)) == true)) (idx a0.Subs i_t3_13)).bind fun e19 =>
  (some (if (decide ((0 : Int) < i_t3_13)) = true then !(Op.bytesLess e18 e19) else false)).bind fun b20 =>
  (some (if (!r17) = true then true else b20)).bind fun b21 =>
  (if b21 = true then
   some (.inr (.inl ()))
  else
   some (.inl (wrap64 (i_t3_13 + (1 : Int)))))
 else
  some (.inr (.inr ())))
/-- cardgame/cardgameref10.Is -/
def r10_Is (a0 : SLine) : Option (Bool) :=
 (some (if (decide (a0.Super < (0 : Int))) = true then true else decide ((3 : Int) < a0.Super))).bind fun b1 =>
 (some (if b1 = true then true else decide (a0.Types < (1 : Int)))).bind fun b2 =>
 (some (if b2 = true then true else decide ((63 : Int) < a0.Types))).bind fun b3 =>
 (some (if b3 = true then true else decide ((4 : Int) < (a0.Subs.length : Int)))).bind fun b4 =>
 (if b4 = true then
  some false
 else
  (iter (fun (v : Int) => r10_Is_B14 a0 v) FU (0 : Int)).bind (Sum.elim (fun o0 => some false) (fun o1 => r10_Is_J6 a0)))
def r10_Is_C (a0 : SLine) (r : Bool) : Prop := PCall Tryz.prog I0 57 [vA encSLine a0] (· = vB r)
theorem r10_Is_ok {a0 : SLine} {r : Bool} (h : r10_Is a0 = some r) : r10_Is_C a0 r := by
 refine PCall.body I0_stable (by kernel_rfl) Tryz.func57 rfl Tryz.ntmps57 (rs := [.tmp 2]) rfl rfl ?_
 intro w0 av old gv
 unfold r10_Is at h
 refine Rg [.a, .a] (sl 80 [(1, vP [1] (0))] [bx [1] (encSLine a0)]) (aN) ?_
 refine Holds.seq ?_
 obtain ⟨b1, hb1, h⟩ := bS h
 obtain ⟨b2, hb2, h⟩ := bS h
 obtain ⟨b3, hb3, h⟩ := bS h
 obtain ⟨b4, hb4, h⟩ := bS h
 refine Rg [.a, .a, .a, .a, .a, .a, .a, (.v (vB b1)), .a, .a, .a, .a, (.v (vB b2)), .a, .a, .a, .a, (.v (vB b3)), .a, .a, .a, .a, .a, (.v (vB b4))] (sl 80 [(1, vP [1] (0)), (27, vB b4)] [bx [1] (encSLine a0)]) (aG ((decide (a0.Super < (0 : Int))) == false) <| aG ((decide (a0.Super < (0 : Int))) == false) <| aF (decide (a0.Super < (0 : Int))) <| aB hb1 <| aG (b1 == false) <| aG (b1 == false) <| aF b1 <| aB hb2 <| aG (b2 == false) <| aG (b2 == false) <| aF b2 <| aB hb3 <| aG (b3 == false) <| aG (b3 == false) <| aG (b3 == false) <| aF b3 <| aB hb4 <| aN) ?_
 refine iB h (fun b5 h => ?_) (fun b5 h => ?_)
 · refine Rg [.a] (sl 80 [(2, vB false)] []) (aN) ?_
   refine Holds.ret ?_
   refine Tr ?_
   exact bQ (vB false) (congrArg vB (sI h))
 · refine Holds.skip ?_
   refine Tn ?_
   refine Sj (X := Unit) (fun v => (sl 80 [(1, vP [1] (0))] [bx [1] (encSLine a0)])) (fun v => r10_Is_J6 a0 = some r) ?_ ?_
   · refine Rg [.a] (sl 80 [(1, vP [1] (0)), (3, vI (0 : Int))] [bx [1] (encSLine a0)]) (aN) ?_
     refine Holds.block ?_
     obtain ⟨oB14, hiB14, h⟩ := bS h
     refine It (fun (v : Int) => (sl 80 [(1, vP [1] (0)), (3, vI v)] [bx [1] (encSLine a0)])) hiB14 (wT) ?_
     rintro i_t3_13 zB14 hzB14 hoB14
     replace hzB14 : r10_Is_B14 a0 i_t3_13 = some zB14 := hzB14
     unfold r10_Is_B14 at hzB14
     refine Holds.seq ?_
     refine Rg [.a, .a, .a, .a, .a] (sl 80 [(1, vP [1] (0)), (3, vI i_t3_13), (32, vB (decide (i_t3_13 < (a0.Subs.length : Int))))] [bx [1] (encSLine a0)]) (aN) ?_
     refine iB hzB14 (fun b15 hzB14 => ?_) (fun b15 hzB14 => ?_)
     · refine Holds.skip ?_
       refine Tn ?_
       refine Holds.seq ?_
       refine Holds.block ?_
       obtain ⟨e16, he16, hzB14⟩ := bS hzB14
       obtain ⟨r17, hr17, hzB14⟩ := bS hzB14
       obtain ⟨e18, he18, hzB14⟩ := bS hzB14
       obtain ⟨e19, he19, hzB14⟩ := bS hzB14
       obtain ⟨b20, hb20, hzB14⟩ := bS hzB14
       obtain ⟨b21, hb21, hzB14⟩ := bS hzB14
       refine Rq followsP [.a, .a, .a, .a, (.v (vS e16)), (.c (vB r17)), .a, .a, .a, .a, .a, .a, .a, .a, .a, .a, (.v (vS e18)), .a, .a, .a, .a, (.v (vS e19)), .a, (.v (vB b20)), (.v (vB b21))] (sl 80 [(1, vP [1] (0)), (3, vI i_t3_13), (59, vB b21)] [bx [1] (encSLine a0)]) (aC (idx_b he16) <| aC (eld he16 lenS 0 1 false (vS e16)) <| aC (Eq.refl (vS e16)) <| aC (r10_IsSub_ok hr17) <| aG ((!r17) == false) <| aG ((!r17) == false) <| aG (((!r17) == false) && ((decide ((0 : Int) < i_t3_13)) == true)) <| aG (((!r17) == false) && ((decide ((0 : Int) < i_t3_13)) == true)) <| aC (fun hg : (((!r17) == false) && ((decide ((0 : Int) < i_t3_13)) == true)) = true => aC (gi (((!r17) == false) && ((decide ((0 : Int) < i_t3_13)) == true))) <| aC (gi (((!r17) == false) && ((decide ((0 : Int) < i_t3_13)) == true))) <| aC (gidx_b he18 hg).1 <| aN) <| aC (fun hg : (((!r17) == false) && ((decide ((0 : Int) < i_t3_13)) == true)) = true => aC (gi (((!r17) == false) && ((decide ((0 : Int) < i_t3_13)) == true))) <| aC (eld (gd_t he18 hg) lenS 0 1 false (vS e18)) <| aC (Eq.refl (vS e18)) <| aN) <| aG (((!r17) == false) && ((decide ((0 : Int) < i_t3_13)) == true)) <| aC (fun hg : (((!r17) == false) && ((decide ((0 : Int) < i_t3_13)) == true)) = true => aC (gi (((!r17) == false) && ((decide ((0 : Int) < i_t3_13)) == true))) <| aC (gi (((!r17) == false) && ((decide ((0 : Int) < i_t3_13)) == true))) <| aC (gidx_b he19 hg).1 <| aN) <| aC (fun hg : (((!r17) == false) && ((decide ((0 : Int) < i_t3_13)) == true)) = true => aC (gi (((!r17) == false) && ((decide ((0 : Int) < i_t3_13)) == true))) <| aC (eld (gd_t he19 hg) lenS 0 1 false (vS e19)) <| aC (Eq.refl (vS e19)) <| aN) <| aH (((!r17) == false) && ((decide ((0 : Int) < i_t3_13)) == true)) <| aC (fun hg : ((!r17) == false) = true => aC (gi ((!r17) == false)) <| aC (fun q : (decide ((0 : Int) < i_t3_13)) = true => (gA hg (gT q))) <| aB hb20 <| aN) <| aF (!r17) <| aB hb21 <| aN) ?_
       refine iB hzB14 (fun b22 hzB14 => ?_) (fun b22 hzB14 => ?_)
       · refine Rg [.a] (sl 80 [(2, vB false)] []) (aN) ?_
         refine Holds.ret ?_
         refine blockQ.ret ?_
         refine Tr ?_
         have hoB14_ := hoB14 _ (sI hzB14).symm
         subst hoB14_
         replace h := sumL h
         refine Tr ?_
         refine blockQ.ret ?_
         refine Tr ?_
         exact bQ (vB false) (congrArg vB (sI h))
       · refine Holds.skip ?_
         refine blockQ.normal ?_
         refine Tn ?_
         refine Re [.a, .a, .a] (sl 80 [(1, vP [1] (0)), (3, vI (wrap64 (i_t3_13 + (1 : Int)))), (33, vI i_t3_13), (34, vI (wrap64 (i_t3_13 + (1 : Int)))), (59, vB b21)] [bx [1] (encSLine a0)]) (aN) ?_
         refine Tn ⟨(wrap64 (i_t3_13 + (1 : Int))), (sI hzB14).symm, wT⟩
     · refine Holds.exit ?_
       refine thenQ.exit ?_
       have hoB14_ := hoB14 _ (sI hzB14).symm
       subst hoB14_
       replace h := sumR h
       refine thenQ.exit ?_
       refine blockQ.out ?_
       refine Tn ⟨(), h, wT⟩
   · rintro _ hJ6
     replace hJ6 : r10_Is_J6 a0 = some r := hJ6
     unfold r10_Is_J6 at hJ6
     obtain ⟨b7, hb7, hJ6⟩ := bS hJ6
     obtain ⟨r8, hr8, hJ6⟩ := bS hJ6
     obtain ⟨r9, hr9, hJ6⟩ := bS hJ6
     obtain ⟨b10, hb10, hJ6⟩ := bS hJ6
     obtain ⟨b11, hb11, hJ6⟩ := bS hJ6
     refine Rg [.a, .a, .a, .a, .a, .a, .a, (.v (vB b7)), .a, .a, .a, (.c (vB r8)), .a, .a, .a, .a, (.c (vB r9)), .a, (.v (vB b10)), (.v (vB b11)), .a] (sl 80 [(2, vB b11)] []) (aG ((a0.Types == (2 : Int)) == false) <| aG ((a0.Types == (2 : Int)) == false) <| aF (a0.Types == (2 : Int)) <| aB hb7 <| aG (b7 == false) <| aC (c1 hr8 r10_bit_ok) <| aG (b7 == false) <| aG (b7 == false) <| aG ((b7 == false) && ((!r8) == true)) <| aC (c1 hr9 r10_bit_ok) <| aG ((b7 == false) && ((!r8) == true)) <| aC (fun hg : (b7 == false) = true => aC (gi (b7 == false)) <| aC (fun q : (!r8) = true => (gA hg (gT q))) <| aB hb10 <| aN) <| aF b7 <| aB hb11 <| aN) ?_
     refine Holds.ret ?_
     exact bQ (vB b11) (congrArg vB (sI hJ6))
/-- cardgame/cardgameref13.Is -/
def r13_Is (a0 : SFilter) : Option (Bool) :=
 (some (if (decide (a0.Zone < (0 : Int))) = true then true else decide ((5 : Int) < a0.Zone))).bind fun b1 =>
 (some (if b1 = true then true else decide (a0.Who < (0 : Int)))).bind fun b2 =>
 (some (if b2 = true then true else decide ((2 : Int) < a0.Who))).bind fun b3 =>
 (some (if b3 = true then true else decide (a0.Self < (0 : Int)))).bind fun b4 =>
 (some (if b4 = true then true else decide ((2 : Int) < a0.Self))).bind fun b5 =>
 (some (if b5 = true then true else decide (a0.Tap < (0 : Int)))).bind fun b6 =>
 (some (if b6 = true then true else decide ((2 : Int) < a0.Tap))).bind fun b7 =>
 (if b7 = true then
  some false
 else
  (r13_apart a0.Types a0.NotTypes (63 : Int)).bind fun r9 =>
  (gd ((!r9) == false) (r13_apart a0.Colors a0.NotColors (31 : Int))).bind fun r10 =>
  (some (if (!r9) = true then true else !r10)).bind fun b11 =>
  (if b11 = true then
   some false
  else
   (gd ((a0.Sub != ([] : List UInt8)) == true) (r10_IsSub a0.Sub)).bind fun r13 =>
   (some (if (a0.Sub != ([] : List UInt8)) = true then !r13 else false)).bind fun b14 =>
   (some (if b14 = true then true else decide (a0.Keys < (0 : Int)))).bind fun b15 =>
   (some (if b15 = true then true else decide ((131071 : Int) < a0.Keys))).bind fun b16 =>
   (if b16 = true then
    some false
   else
    (r13_bound a0.Power).bind fun r18 =>
    (gd (r18 == true) (r13_bound a0.Tough)).bind fun r19 =>
    (some (if r18 = true then r19 else false)).bind fun b20 =>
    (gd (b20 == true) (r13_bound a0.Value)).bind fun r21 =>
    (some (if b20 = true then r21 else false)).bind fun b22 =>
    some b22)))
def r13_Is_C (a0 : SFilter) (r : Bool) : Prop := PCall Tryz.prog I0 76 [vA encSFilter a0] (· = vB r)
theorem r13_Is_ok {a0 : SFilter} {r : Bool} (h : r13_Is a0 = some r) : r13_Is_C a0 r := by
 refine PCall.body I0_stable (by kernel_rfl) Tryz.func76 rfl Tryz.ntmps76 (rs := [.tmp 2]) rfl rfl ?_
 intro w0 av old gv
 unfold r13_Is at h
 refine Rg [.a, .a] (sl 87 [(1, vP [1] (0))] [bx [1] (encSFilter a0)]) (aN) ?_
 refine Holds.seq ?_
 obtain ⟨b1, hb1, h⟩ := bS h
 obtain ⟨b2, hb2, h⟩ := bS h
 obtain ⟨b3, hb3, h⟩ := bS h
 obtain ⟨b4, hb4, h⟩ := bS h
 obtain ⟨b5, hb5, h⟩ := bS h
 obtain ⟨b6, hb6, h⟩ := bS h
 obtain ⟨b7, hb7, h⟩ := bS h
 refine Rg [.a, .a, .a, .a, .a, .a, .a, (.v (vB b1)), .a, .a, .a, .a, (.v (vB b2)), .a, .a, .a, .a, (.v (vB b3)), .a, .a, .a, .a, (.v (vB b4)), .a, .a, .a, .a, (.v (vB b5)), .a, .a, .a, .a, (.v (vB b6)), .a, .a, .a, .a, (.v (vB b7))] (sl 87 [(1, vP [1] (0)), (40, vB b7)] [bx [1] (encSFilter a0)]) (aG ((decide (a0.Zone < (0 : Int))) == false) <| aG ((decide (a0.Zone < (0 : Int))) == false) <| aF (decide (a0.Zone < (0 : Int))) <| aB hb1 <| aG (b1 == false) <| aG (b1 == false) <| aF b1 <| aB hb2 <| aG (b2 == false) <| aG (b2 == false) <| aF b2 <| aB hb3 <| aG (b3 == false) <| aG (b3 == false) <| aF b3 <| aB hb4 <| aG (b4 == false) <| aG (b4 == false) <| aF b4 <| aB hb5 <| aG (b5 == false) <| aG (b5 == false) <| aF b5 <| aB hb6 <| aG (b6 == false) <| aG (b6 == false) <| aF b6 <| aB hb7 <| aN) ?_
 refine iB h (fun b8 h => ?_) (fun b8 h => ?_)
 · refine Rg [.a] (sl 87 [(2, vB false)] []) (aN) ?_
   refine Holds.ret ?_
   refine Tr ?_
   exact bQ (vB false) (congrArg vB (sI h))
 · refine Holds.skip ?_
   refine Tn ?_
   refine Holds.seq ?_
   obtain ⟨r9, hr9, h⟩ := bS h
   obtain ⟨r10, hr10, h⟩ := bS h
   obtain ⟨b11, hb11, h⟩ := bS h
   refine Rg [.a, .a, .a, .a, (.c (vB r9)), .a, .a, .a, .a, .a, .a, (.c (vB r10)), .a, (.v (vB b11))] (sl 87 [(1, vP [1] (0)), (54, vB b11)] [bx [1] (encSFilter a0)]) (aC (r13_apart_ok hr9) <| aG ((!r9) == false) <| aG ((!r9) == false) <| aC (c2 hr10 r13_apart_ok) <| aG ((!r9) == false) <| aF (!r9) <| aB hb11 <| aN) ?_
   refine iB h (fun b12 h => ?_) (fun b12 h => ?_)
   · refine Rg [.a] (sl 87 [(2, vB false)] []) (aN) ?_
     refine Holds.ret ?_
     refine Tr ?_
     exact bQ (vB false) (congrArg vB (sI h))
   · refine Holds.skip ?_
     refine Tn ?_
     refine Holds.seq ?_
     obtain ⟨r13, hr13, h⟩ := bS h
     obtain ⟨b14, hb14, h⟩ := bS h
     obtain ⟨b15, hb15, h⟩ := bS h
     obtain ⟨b16, hb16, h⟩ := bS h
     refine Rg [.a, .a, .a, .a, .a, .a, (.c (vB r13)), .a, (.v (vB b14)), .a, .a, .a, .a, (.v (vB b15)), .a, .a, .a, .a, (.v (vB b16))] (sl 87 [(1, vP [1] (0)), (73, vB b16)] [bx [1] (encSFilter a0)]) (aG ((a0.Sub != ([] : List UInt8)) == true) <| aC (c1 hr13 r10_IsSub_ok) <| aG ((a0.Sub != ([] : List UInt8)) == true) <| aT (a0.Sub != ([] : List UInt8)) <| aB hb14 <| aG (b14 == false) <| aG (b14 == false) <| aF b14 <| aB hb15 <| aG (b15 == false) <| aG (b15 == false) <| aF b15 <| aB hb16 <| aN) ?_
     refine iB h (fun b17 h => ?_) (fun b17 h => ?_)
     · refine Rg [.a] (sl 87 [(2, vB false)] []) (aN) ?_
       refine Holds.ret ?_
       refine Tr ?_
       exact bQ (vB false) (congrArg vB (sI h))
     · refine Holds.skip ?_
       refine Tn ?_
       obtain ⟨r18, hr18, h⟩ := bS h
       obtain ⟨r19, hr19, h⟩ := bS h
       obtain ⟨b20, hb20, h⟩ := bS h
       obtain ⟨r21, hr21, h⟩ := bS h
       obtain ⟨b22, hb22, h⟩ := bS h
       refine Rg [.a, .a, (.c (vB r18)), .a, .a, .a, (.c (vB r19)), (.v (vB b20)), .a, .a, .a, (.c (vB r21)), (.v (vB b22)), .a] (sl 87 [(2, vB b22)] []) (aC (r13_bound_ok hr18) <| aG (r18 == true) <| aC (c1 hr19 r13_bound_ok) <| aT r18 <| aB hb20 <| aG (b20 == true) <| aC (c1 hr21 r13_bound_ok) <| aT b20 <| aB hb22 <| aN) ?_
       refine Holds.ret ?_
       exact bQ (vB b22) (congrArg vB (sI h))
def r13_typeWord_J2  (mask_t3_1 : Int) : Option ((List UInt8)) :=
 (r10_TypesText mask_t3_1).bind fun r3 =>
 some r3
def r13_typeWord_B9 (a0 : Int) (mask_t3_6 : Int) (k_t4_7 : Int) : Option ((Int × Int) ⊕ (Int)) :=
 (if (decide (k_t4_7 < a0)) = true then
  some (.inl ((wrap64 (mask_t3_6 * (2 : Int))), (wrap64 (k_t4_7 + (1 : Int)))))
 else
  some (.inr mask_t3_6))
/-- cardgame/cardgameref13.typeWord -/
def r13_typeWord (a0 : Int) : Option ((List UInt8)) :=
 (iter (fun (v : Int × Int) => r13_typeWord_B9 a0 v.1 v.2) FU ((1 : Int), (0 : Int))).bind (fun o0 => r13_typeWord_J2 o0)
def r13_typeWord_C (a0 : Int) (r : (List UInt8)) : Prop := PCall Tryz.prog I0 140 [vI a0] (· = vS r)
theorem r13_typeWord_ok {a0 : Int} {r : (List UInt8)} (h : r13_typeWord a0 = some r) : r13_typeWord_C a0 r := by
 refine PCall.body I0_stable (by kernel_rfl) Tryz.func140 rfl Tryz.ntmps140 (rs := [.tmp 2]) rfl rfl ?_
 intro w0 av old gv
 unfold r13_typeWord at h
 refine Rg [.a] (sl 14 [(0, vI a0)] []) (aN) ?_
 refine Rg [.a] (sl 14 [(0, vI a0), (3, vI (1 : Int))] []) (aN) ?_
 refine Sj (X := Int) (fun v => (sl 14 [(3, vI v)] [])) (fun v => r13_typeWord_J2 v = some r) ?_ ?_
 · refine Rg [.a] (sl 14 [(0, vI a0), (3, vI (1 : Int)), (4, vI (0 : Int))] []) (aN) ?_
   refine Holds.block ?_
   obtain ⟨oB9, hiB9, h⟩ := bS h
   refine It (fun (v : Int × Int) => (sl 14 [(0, vI a0), (3, vI v.1), (4, vI v.2)] [])) hiB9 (wT) ?_
   rintro ⟨mask_t3_6, k_t4_7⟩ zB9 hzB9 hoB9
   replace hzB9 : r13_typeWord_B9 a0 mask_t3_6 k_t4_7 = some zB9 := hzB9
   unfold r13_typeWord_B9 at hzB9
   refine Holds.seq ?_
   refine Rg [.a, .a, .a] (sl 14 [(0, vI a0), (3, vI mask_t3_6), (4, vI k_t4_7), (7, vB (decide (k_t4_7 < a0)))] []) (aN) ?_
   refine iB hzB9 (fun b10 hzB9 => ?_) (fun b10 hzB9 => ?_)
   · refine Holds.skip ?_
     refine Tn ?_
     refine Holds.seq ?_
     refine Holds.block ?_
     refine Re [.a, .a, .a] (sl 14 [(0, vI a0), (3, vI (wrap64 (mask_t3_6 * (2 : Int)))), (4, vI k_t4_7), (7, vB (decide (k_t4_7 < a0))), (10, vI mask_t3_6), (11, vI (wrap64 (mask_t3_6 * (2 : Int))))] []) (aN) ?_
     refine blockQ.normal ?_
     refine Tn ?_
     refine Re [.a, .a, .a] (sl 14 [(0, vI a0), (3, vI (wrap64 (mask_t3_6 * (2 : Int)))), (4, vI (wrap64 (k_t4_7 + (1 : Int)))), (7, vB (decide (k_t4_7 < a0))), (8, vI k_t4_7), (9, vI (wrap64 (k_t4_7 + (1 : Int)))), (10, vI mask_t3_6), (11, vI (wrap64 (mask_t3_6 * (2 : Int))))] []) (aN) ?_
     refine Tn ⟨((wrap64 (mask_t3_6 * (2 : Int))), (wrap64 (k_t4_7 + (1 : Int)))), (sI hzB9).symm, wT⟩
   · refine Holds.exit ?_
     refine thenQ.exit ?_
     have hoB9_ := hoB9 _ (sI hzB9).symm
     subst hoB9_
     refine thenQ.exit ?_
     refine blockQ.out ?_
     refine Tn ⟨mask_t3_6, h, wT⟩
 · rintro mask_t3_1 hJ2
   replace hJ2 : r13_typeWord_J2 mask_t3_1 = some r := hJ2
   unfold r13_typeWord_J2 at hJ2
   obtain ⟨r3, hr3, hJ2⟩ := bS hJ2
   refine Rg [.a, (.c (vS r3)), .a] (sl 14 [(2, vS r3)] []) (aC (r10_TypesText_ok hr3) <| aN) ?_
   refine Holds.ret ?_
   exact bQ (vS r3) (congrArg vS (sI hJ2))
/-- cardgame/cardgameref08.PoolText -/
def r08_PoolText (a0 : A6 (Int)) : Option ((List UInt8)) :=
 (r08_cost a0).bind fun r1 =>
 (r08_Text r1).bind fun r2 =>
 some r2
def r08_PoolText_C (a0 : A6 (Int)) (r : (List UInt8)) : Prop := PCall Tryz.prog I0 126 [vA (eA6 (eI .i64)) a0] (· = vS r)
theorem r08_PoolText_ok {a0 : A6 (Int)} {r : (List UInt8)} (h : r08_PoolText a0 = some r) : r08_PoolText_C a0 r := by
 refine PCall.body I0_stable (by kernel_rfl) Tryz.func126 rfl Tryz.ntmps126 (rs := [.tmp 2]) rfl rfl ?_
 intro w0 av old gv
 unfold r08_PoolText at h
 refine Rg [.a, .a] (sl 6 [(1, vP [1] (0))] [bx [1] (eA6 (eI .i64) a0)]) (aN) ?_
 obtain ⟨r1, hr1, h⟩ := bS h
 obtain ⟨r2, hr2, h⟩ := bS h
 refine Rg [.a, (.c (vA encSCost r1)), (.c (vS r2)), .a] (sl 6 [(2, vS r2)] []) (aC (r08_cost_ok hr1) <| aC (r08_Text_ok hr2) <| aN) ?_
 refine Holds.ret ?_
 exact bQ (vS r2) (congrArg vS (sI h))
def deck_Parse_J5 (a0 : List (SCard)) (a1 : List UInt8) (l1000_6_3 : List (Int)) (l1001_6_4 : List (Int)) : Option (SDeck × Int) :=
 (deck_formed a0 (⟨l1000_6_3, l1001_6_4⟩ : SDeck)).bind fun r6 =>
 (gd ((!r6) == false) (deck_Text a0 (⟨l1000_6_3, l1001_6_4⟩ : SDeck))).bind fun r7 =>
 (some (if (!r6) = true then true else r7 != a1)).bind fun b8 =>
 (if b8 = true then
  some ((⟨([] : List (Int)), ([] : List (Int))⟩ : SDeck), (3 : Int))
 else
  some ((⟨l1000_6_3, l1001_6_4⟩ : SDeck), (0 : Int)))
def deck_Parse_B18 (a0 : List (SCard)) (r2 : (List (List UInt8)) × Bool) (vt28_13 : Int) (l1000_6_14 : List (Int)) (l1001_6_15 : List (Int)) : Option ((Int × (List (Int)) × (List (Int))) ⊕ (Unit ⊕ ((List (Int)) × (List (Int))))) :=
 (if (decide (vt28_13 < (r2.1.length : Int))) = true then
  (idx r2.1 vt28_13).bind fun e20 =>
  (strings_Cut e20 str_x20).bind fun r21 =>
  (num_Number r21.1).bind fun r22 =>
  (catalog_Find a0 r21.2.1).bind fun r23 =>
  (some (if (!r22.2) = true then true else decide (r23 < (0 : Int)))).bind fun b24 =>
  (some (if b24 = true then true else (l1000_6_14.length : Int) == (a0.length : Int))).bind fun b25 =>
  (if b25 = true then
   some (.inr (.inl ()))
  else
   (app 8 l1000_6_14 ([r23] : List (Int))).bind fun l27 =>
   (app 8 l1001_6_15 ([r22.1] : List (Int))).bind fun l28 =>
   some (.inl ((wrap64 (vt28_13 + (1 : Int))), l27, l28)))
 else
  some (.inr (.inr (l1000_6_14, l1001_6_15))))
/-- cardgame/deck.Parse -/
def deck_Parse (a0 : List (SCard)) (a1 : List UInt8) : Option (SDeck × Int) :=
 (if (decide ((65536 : Int) < (a1.length : Int))) = true then
  some ((⟨([] : List (Int)), ([] : List (Int))⟩ : SDeck), (5 : Int))
 else
  (word_Lines a1).bind fun r2 =>
  (iter (fun (v : Int × (List (Int)) × (List (Int))) => deck_Parse_B18 a0 r2 v.1 v.2.1 v.2.2) FU ((0 : Int), ([] : List (Int)), ([] : List (Int)))).bind (Sum.elim (fun o0 => some ((⟨([] : List (Int)), ([] : List (Int))⟩ : SDeck), (3 : Int))) (fun o1 => deck_Parse_J5 a0 a1 o1.1 o1.2)))
def deck_Parse_C (a0 : List (SCard)) (a1 : List UInt8) (r : SDeck × Int) : Prop := PCall Tryz.prog I0 14 [vL encSCard a0, vS a1] (· = .tup [vA encSDeck r.1, vI r.2])
theorem deck_Parse_ok {a0 : List (SCard)} {a1 : List UInt8} {r : SDeck × Int} (h : deck_Parse a0 a1 = some r) : deck_Parse_C a0 a1 r := by
 refine PCall.body I0_stable (by kernel_rfl) Tryz.func14 rfl Tryz.ntmps14 (rs := [.cell 4 25, .tmp 5]) rfl rfl ?_
 intro w0 av old gv
 unfold deck_Parse at h
 refine Rg [.a, .a] (sl 87 [(0, vL encSCard a0), (1, vS a1), (4, vP [4] (0))] [bx [4] [.nils, .nils]]) (aN) ?_
 refine Holds.seq ?_
 refine Rg [.a, .a, .a] (sl 87 [(0, vL encSCard a0), (1, vS a1), (4, vP [4] (0)), (19, vB (decide ((65536 : Int) < (a1.length : Int))))] [bx [4] [.nils, .nils]]) (aN) ?_
 refine iB h (fun b1 h => ?_) (fun b1 h => ?_)
 · refine Rg [.a, .a, .a] (sl 87 [(4, vP [4] (0)), (5, vI (5 : Int))] [bx [4] [.nils, .nils]]) (aC (And.intro trivial okp25) <| aN) ?_
   refine Holds.ret ?_
   refine Tr ?_
   exact bE (.tup [.agg [.nils, .nils], vI (5 : Int)]) (.tup [.agg (encSDeck (⟨([] : List (Int)), ([] : List (Int))⟩ : SDeck)), vI (5 : Int)]) (congrArg (fun (q : SDeck × Int) => (.tup [vA encSDeck q.1, vI q.2] : V)) (sI h))
 · refine Holds.skip ?_
   refine Tn ?_
   refine Rg [.a] (sl 87 [(0, vL encSCard a0), (1, vS a1), (4, vP [4] (0)), (6, vP [6] (0))] [bx [6] [.nils, .nils], bx [4] [.nils, .nils]]) (aN) ?_
   refine Ow [6] 0 [1000, 6] 3 1 (sl 87 [(0, vL encSCard a0), (1, vS a1), (4, vP [4] (0)), (6, vP [6] (0))] [rw_ [1000, 6] 3 1 (eI .i64) ([] : List (Int)), bx [6] [.osl [1000, 6], .nils], bx [4] [.nils, .nils]]) ?_
   refine Ow [6] 1 [1001, 6] 3 1 (sl 87 [(0, vL encSCard a0), (1, vS a1), (4, vP [4] (0)), (6, vP [6] (0))] [rw_ [1001, 6] 3 1 (eI .i64) ([] : List (Int)), rw_ [1000, 6] 3 1 (eI .i64) ([] : List (Int)), bx [6] [.osl [1000, 6], .osl [1001, 6]], bx [4] [.nils, .nils]]) ?_
   obtain ⟨r2, hr2, h⟩ := bS h
   refine Rg [.a, (.c (.tup [vL eS r2.1, vB r2.2])), .a, .a, .a, .a, .a] (sl 87 [(0, vL encSCard a0), (1, vS a1), (4, vP [4] (0)), (6, vP [6] (0)), (7, vL eS r2.1)] [rw_ [1001, 6] 3 1 (eI .i64) ([] : List (Int)), rw_ [1000, 6] 3 1 (eI .i64) ([] : List (Int)), bx [6] [.osl [1000, 6], .osl [1001, 6]], bx [4] [.nils, .nils]]) (aC (word_Lines_ok hr2) <| aC (show True ∧ 0 < [V.undef, V.undef].length from ⟨trivial, (by decide)⟩) <| aC (show True ∧ 1 < [V.undef, V.undef].length from ⟨trivial, (by decide)⟩) <| aN) ?_
   refine Sj (X := (List (Int)) × (List (Int))) (fun v => (sl 87 [(0, vL encSCard a0), (1, vS a1), (4, vP [4] (0)), (6, vP [6] (0))] [rw_ [1001, 6] 3 1 (eI .i64) v.2, rw_ [1000, 6] 3 1 (eI .i64) v.1, bx [6] [.osl [1000, 6], .osl [1001, 6]], bx [4] [.nils, .nils]])) (fun v => deck_Parse_J5 a0 a1 v.1 v.2 = some r) ?_ ?_
   · refine Rg [.a, .a, .a] (sl 87 [(0, vL encSCard a0), (1, vS a1), (4, vP [4] (0)), (6, vP [6] (0)), (26, vL eS r2.1), (27, vI (r2.1.length : Int)), (28, vI (0 : Int))] [rw_ [1001, 6] 3 1 (eI .i64) ([] : List (Int)), rw_ [1000, 6] 3 1 (eI .i64) ([] : List (Int)), bx [6] [.osl [1000, 6], .osl [1001, 6]], bx [4] [.nils, .nils]]) (aN) ?_
     refine Holds.block ?_
     obtain ⟨oB18, hiB18, h⟩ := bS h
     refine It (fun (v : Int × (List (Int)) × (List (Int))) => (sl 87 [(0, vL encSCard a0), (1, vS a1), (4, vP [4] (0)), (6, vP [6] (0)), (26, vL eS r2.1), (27, vI (r2.1.length : Int)), (28, vI v.1)] [rw_ [1001, 6] 3 1 (eI .i64) v.2.2, rw_ [1000, 6] 3 1 (eI .i64) v.2.1, bx [6] [.osl [1000, 6], .osl [1001, 6]], bx [4] [.nils, .nils]])) hiB18 (wT) ?_
     rintro ⟨vt28_13, l1000_6_14, l1001_6_15⟩ zB18 hzB18 hoB18
     replace hzB18 : deck_Parse_B18 a0 r2 vt28_13 l1000_6_14 l1001_6_15 = some zB18 := hzB18
     unfold deck_Parse_B18 at hzB18
     refine Rg [.a] (sl 87 [(0, vL encSCard a0), (1, vS a1), (4, vP [4] (0)), (6, vP [6] (0)), (26, vL eS r2.1), (27, vI (r2.1.length : Int)), (28, vI vt28_13), (29, vB (decide (vt28_13 < (r2.1.length : Int))))] [rw_ [1001, 6] 3 1 (eI .i64) l1001_6_15, rw_ [1000, 6] 3 1 (eI .i64) l1000_6_14, bx [6] [.osl [1000, 6], .osl [1001, 6]], bx [4] [.nils, .nils]]) (aN) ?_
     refine Holds.seq ?_
     refine iB hzB18 (fun b19 hzB18 => ?_) (fun b19 hzB18 => ?_)
     · refine Holds.skip ?_
       refine Tn ?_
       refine Holds.seq ?_
       refine Holds.block ?_
       obtain ⟨e20, he20, hzB18⟩ := bS hzB18
       refine Rg [.a, (.v (vS e20)), .a] (sl 87 [(0, vL encSCard a0), (1, vS a1), (4, vP [4] (0)), (6, vP [6] (0)), (10, vS e20), (26, vL eS r2.1), (27, vI (r2.1.length : Int)), (28, vI vt28_13)] [rw_ [1001, 6] 3 1 (eI .i64) l1001_6_15, rw_ [1000, 6] 3 1 (eI .i64) l1000_6_14, bx [6] [.osl [1000, 6], .osl [1001, 6]], bx [4] [.nils, .nils]]) (aC (idx_b he20) <| aC (eld he20 lenS 0 1 false (vS e20)) <| aC (Eq.refl (vS e20)) <| aN) ?_
       obtain ⟨r21, hr21, hzB18⟩ := bS hzB18
       refine Rg [.a, (.c (.tup [vS r21.1, vS r21.2.1, vB r21.2.2])), .a, .a, .a, .a, .a, .a, .a] (sl 87 [(0, vL encSCard a0), (1, vS a1), (4, vP [4] (0)), (6, vP [6] (0)), (11, vS r21.1), (12, vS r21.2.1), (26, vL eS r2.1), (27, vI (r2.1.length : Int)), (28, vI vt28_13)] [rw_ [1001, 6] 3 1 (eI .i64) l1001_6_15, rw_ [1000, 6] 3 1 (eI .i64) l1000_6_14, bx [6] [.osl [1000, 6], .osl [1001, 6]], bx [4] [.nils, .nils]]) (aC (strings_Cut_ok hr21) <| aC (show True ∧ 0 < [V.undef, V.undef, V.undef].length from ⟨trivial, (by decide)⟩) <| aC (show True ∧ 1 < [V.undef, V.undef, V.undef].length from ⟨trivial, (by decide)⟩) <| aC (show True ∧ 2 < [V.undef, V.undef, V.undef].length from ⟨trivial, (by decide)⟩) <| aN) ?_
       obtain ⟨r22, hr22, hzB18⟩ := bS hzB18
       refine Rg [.a, (.c (.tup [vI r22.1, vB r22.2])), .a, .a, .a, .a, .a] (sl 87 [(0, vL encSCard a0), (1, vS a1), (4, vP [4] (0)), (6, vP [6] (0)), (12, vS r21.2.1), (14, vI r22.1), (15, vB r22.2), (26, vL eS r2.1), (27, vI (r2.1.length : Int)), (28, vI vt28_13)] [rw_ [1001, 6] 3 1 (eI .i64) l1001_6_15, rw_ [1000, 6] 3 1 (eI .i64) l1000_6_14, bx [6] [.osl [1000, 6], .osl [1001, 6]], bx [4] [.nils, .nils]]) (aC (num_Number_ok hr22) <| aC (show True ∧ 0 < [V.undef, V.undef].length from ⟨trivial, (by decide)⟩) <| aC (show True ∧ 1 < [V.undef, V.undef].length from ⟨trivial, (by decide)⟩) <| aN) ?_
       obtain ⟨r23, hr23, hzB18⟩ := bS hzB18
       refine Rg [.a, .a, (.c (vI r23)), .a] (sl 87 [(0, vL encSCard a0), (1, vS a1), (4, vP [4] (0)), (6, vP [6] (0)), (14, vI r22.1), (15, vB r22.2), (16, vI r23), (26, vL eS r2.1), (27, vI (r2.1.length : Int)), (28, vI vt28_13)] [rw_ [1001, 6] 3 1 (eI .i64) l1001_6_15, rw_ [1000, 6] 3 1 (eI .i64) l1000_6_14, bx [6] [.osl [1000, 6], .osl [1001, 6]], bx [4] [.nils, .nils]]) (aC (catalog_Find_ok hr23) <| aN) ?_
       refine Holds.seq ?_
       obtain ⟨b24, hb24, hzB18⟩ := bS hzB18
       obtain ⟨b25, hb25, hzB18⟩ := bS hzB18
       refine Rg [.a, .a, .a, .a, .a, (.v (vB b24)), .a, .a, .a, .a, .a, .a, .a, (.v (vB b25))] (sl 87 [(0, vL encSCard a0), (1, vS a1), (4, vP [4] (0)), (6, vP [6] (0)), (14, vI r22.1), (16, vI r23), (26, vL eS r2.1), (27, vI (r2.1.length : Int)), (28, vI vt28_13), (59, vB b25)] [rw_ [1001, 6] 3 1 (eI .i64) l1001_6_15, rw_ [1000, 6] 3 1 (eI .i64) l1000_6_14, bx [6] [.osl [1000, 6], .osl [1001, 6]], bx [4] [.nils, .nils]]) (aG ((!r22.2) == false) <| aF (!r22.2) <| aB hb24 <| aG (b24 == false) <| aG (b24 == false) <| aG (b24 == false) <| aH (b24 == false) <| aF b24 <| aB hb25 <| aN) ?_
       refine iB hzB18 (fun b26 hzB18 => ?_) (fun b26 hzB18 => ?_)
       · refine Rg [.a, .a, .a] (sl 87 [(4, vP [4] (0)), (5, vI (3 : Int))] [bx [4] [.nils, .nils]]) (aC (And.intro trivial okp25) <| aN) ?_
         refine Holds.ret ?_
         refine Tr ?_
         refine blockQ.ret ?_
         refine Tr ?_
         have hoB18_ := hoB18 _ (sI hzB18).symm
         subst hoB18_
         replace h := sumL h
         refine Tr ?_
         refine blockQ.ret ?_
         refine Tr ?_
         exact bE (.tup [.agg [.nils, .nils], vI (3 : Int)]) (.tup [.agg (encSDeck (⟨([] : List (Int)), ([] : List (Int))⟩ : SDeck)), vI (3 : Int)]) (congrArg (fun (q : SDeck × Int) => (.tup [vA encSDeck q.1, vI q.2] : V)) (sI h))
       · refine Holds.skip ?_
         refine Tn ?_
         obtain ⟨l27, hl27, hzB18⟩ := bS hzB18
         refine Rg [.a, .a, .a, .a, (.e l27.length (l27.flatMap (eI .i64))), .a, .a] (sl 87 [(0, vL encSCard a0), (1, vS a1), (4, vP [4] (0)), (6, vP [6] (0)), (14, vI r22.1), (26, vL eS r2.1), (27, vI (r2.1.length : Int)), (28, vI vt28_13)] [rw_ [1000, 6] 3 1 (eI .i64) l27, rw_ [1001, 6] 3 1 (eI .i64) l1001_6_15, bx [6] [.osl [1000, 6], .osl [1001, 6]], bx [4] [.nils, .nils]]) (aC (ap1 hl27 (eI .i64)) <| aC (app_b hl27) <| aN) ?_
         obtain ⟨l28, hl28, hzB18⟩ := bS hzB18
         refine Re [.a, .a, .a, .a, (.e l28.length (l28.flatMap (eI .i64))), .a, .a] (sl 87 [(0, vL encSCard a0), (1, vS a1), (4, vP [4] (0)), (6, vP [6] (0)), (14, vI r22.1), (26, vL eS r2.1), (27, vI (r2.1.length : Int)), (28, vI vt28_13), (67, vP [6] (1)), (69, vI r22.1), (70, vO [70]), (71, vO [1001, 6]), (72, vP [6] (1))] [rw_ [1001, 6] 3 1 (eI .i64) l28, rw_ [70] 3 1 (eI .i64) ([r22.1] : List (Int)), rw_ [1000, 6] 3 1 (eI .i64) l27, bx [6] [.osl [1000, 6], .osl [1001, 6]], bx [4] [.nils, .nils]]) (aC (ap1 hl28 (eI .i64)) <| aC (app_b hl28) <| aN) ?_
         refine blockQ.normal ?_
         refine Tn ?_
         refine Re [.a, .a] (sl 87 [(0, vL encSCard a0), (1, vS a1), (4, vP [4] (0)), (6, vP [6] (0)), (14, vI r22.1), (26, vL eS r2.1), (27, vI (r2.1.length : Int)), (28, vI (wrap64 (vt28_13 + (1 : Int)))), (67, vP [6] (1)), (69, vI r22.1), (70, vO [70]), (71, vO [1001, 6]), (72, vP [6] (1)), (73, vI (wrap64 (vt28_13 + (1 : Int))))] [rw_ [1001, 6] 3 1 (eI .i64) l28, rw_ [70] 3 1 (eI .i64) ([r22.1] : List (Int)), rw_ [1000, 6] 3 1 (eI .i64) l27, bx [6] [.osl [1000, 6], .osl [1001, 6]], bx [4] [.nils, .nils]]) (aN) ?_
         refine Tn ⟨((wrap64 (vt28_13 + (1 : Int))), l27, l28), (sI hzB18).symm, wT⟩
     · refine Holds.exit ?_
       refine thenQ.exit ?_
       have hoB18_ := hoB18 _ (sI hzB18).symm
       subst hoB18_
       replace h := sumR h
       refine thenQ.exit ?_
       refine blockQ.out ?_
       refine Tn ⟨(l1000_6_14, l1001_6_15), h, wT⟩
   · rintro ⟨l1000_6_3, l1001_6_4⟩ hJ5
     replace hJ5 : deck_Parse_J5 a0 a1 l1000_6_3 l1001_6_4 = some r := hJ5
     unfold deck_Parse_J5 at hJ5
     refine Holds.seq ?_
     obtain ⟨r6, hr6, hJ5⟩ := bS hJ5
     obtain ⟨r7, hr7, hJ5⟩ := bS hJ5
     obtain ⟨b8, hb8, hJ5⟩ := bS hJ5
     refine Rg [.a, .a, (.c (vB r6)), .a, .a, .a, .a, (.c (vS r7)), .a, .a, (.v (vB b8))] (sl 87 [(4, vP [4] (0)), (6, vP [6] (0)), (84, vB b8)] [rw_ [1001, 6] 3 1 (eI .i64) l1001_6_4, rw_ [1000, 6] 3 1 (eI .i64) l1000_6_3, bx [6] [.osl [1000, 6], .osl [1001, 6]], bx [4] [.nils, .nils]]) (aC (deck_formed_ok hr6) <| aC (c2 hr7 deck_Text_ok) <| aH ((!r6) == false) <| aF (!r6) <| aB hb8 <| aN) ?_
     refine iB hJ5 (fun b9 hJ5 => ?_) (fun b9 hJ5 => ?_)
     · refine Rg [.a, .a, .a] (sl 87 [(4, vP [4] (0)), (5, vI (3 : Int))] [bx [4] [.nils, .nils]]) (aC (And.intro trivial okp25) <| aN) ?_
       refine Holds.ret ?_
       refine Tr ?_
       exact bE (.tup [.agg [.nils, .nils], vI (3 : Int)]) (.tup [.agg (encSDeck (⟨([] : List (Int)), ([] : List (Int))⟩ : SDeck)), vI (3 : Int)]) (congrArg (fun (q : SDeck × Int) => (.tup [vA encSDeck q.1, vI q.2] : V)) (sI hJ5))
     · refine Holds.skip ?_
       refine Tn ?_
       refine Rg [.a, .a, .a] (sl 87 [(4, vP [4] (0)), (5, vI (0 : Int))] [rw_ [1001, 6] 3 1 (eI .i64) l1001_6_4, rw_ [1000, 6] 3 1 (eI .i64) l1000_6_3, bx [4] [.osl [1000, 6], .osl [1001, 6]]]) (aN) ?_
       refine Holds.ret ?_
       exact bE (.tup [.agg [.osl [1000, 6], .osl [1001, 6]], vI (0 : Int)]) (.tup [.agg (encSDeck (⟨l1000_6_3, l1001_6_4⟩ : SDeck)), vI (0 : Int)]) (congrArg (fun (q : SDeck × Int) => (.tup [vA encSDeck q.1, vI q.2] : V)) (sI hJ5))
def deck_Check_J7  : Option (Int) :=
 some (0 : Int)
def deck_Check_B10 (a0 : List (SCard)) (a1 : SDeck) (a2 : SFormat) (vt31_9 : Int) : Option ((Int) ⊕ (Unit ⊕ Unit)) :=
 (if (decide (vt31_9 < (a1.Cards.length : Int))) = true then
  (idx a1.Cards vt31_9).bind fun e12 =>
  (idx a0 e12).bind fun e13 =>
  (gd (((bAnd .i64 e13.Line.Super (1 : Int)) == (0 : Int)) == true) (idx a1.Counts vt31_9)).bind fun e14 =>
  (some (if ((bAnd .i64 e13.Line.Super (1 : Int)) == (0 : Int)) = true then decide (a2.Copies < e14) else false)).bind fun b15 =>
  (gd (b15 == false) (idx a0 e12)).bind fun e16 =>
  (gd (b15 == false) (word_Index a2.Banned e16.Name)).bind fun r17 =>
  (some (if b15 = true then true else decide ((0 : Int) ≤ r17))).bind fun b18 =>
  (if b18 = true then
   some (.inr (.inl ()))
  else
   some (.inl (wrap64 (vt31_9 + (1 : Int)))))
 else
  some (.inr (.inr ())))
/-- cardgame/deck.Check -/
def deck_Check (a0 : List (SCard)) (a1 : SDeck) (a2 : SFormat) : Option (Int) :=
 (deck_formed a0 a1).bind fun r1 =>
 (if (!r1) = true then
  some (1 : Int)
 else
  (deck_Size a1).bind fun r3 =>
  (if (decide ((250 : Int) < r3)) = true then
   some (5 : Int)
  else
   (some (if (decide (r3 < a2.Least)) = true then true else decide (a2.Most < r3))).bind fun b5 =>
   (if b5 = true then
    some (10 : Int)
   else
    (iter (fun (v : Int) => deck_Check_B10 a0 a1 a2 v) FU (0 : Int)).bind (Sum.elim (fun o0 => some (10 : Int)) (fun o1 => deck_Check_J7)))))
def deck_Check_C (a0 : List (SCard)) (a1 : SDeck) (a2 : SFormat) (r : Int) : Prop := PCall Tryz.prog I0 9 [vL encSCard a0, vA encSDeck a1, vA encSFormat a2] (· = vI r)
theorem deck_Check_ok {a0 : List (SCard)} {a1 : SDeck} {a2 : SFormat} {r : Int} (h : deck_Check a0 a1 a2 = some r) : deck_Check_C a0 a1 a2 r := by
 refine PCall.body I0_stable (by kernel_rfl) Tryz.func9 rfl Tryz.ntmps9 (rs := [.tmp 6]) rfl rfl ?_
 intro w0 av old gv
 unfold deck_Check at h
 refine Rg [.a, .a, .a] (sl 66 [(0, vL encSCard a0), (4, vP [4] (0)), (5, vP [5] (0))] [bx [5] (encSFormat a2), bx [4] (encSDeck a1)]) (aN) ?_
 refine Holds.seq ?_
 obtain ⟨r1, hr1, h⟩ := bS h
 refine Rg [.a, .a, (.c (vB r1)), .a] (sl 66 [(0, vL encSCard a0), (4, vP [4] (0)), (5, vP [5] (0)), (13, vB (!r1))] [bx [5] (encSFormat a2), bx [4] (encSDeck a1)]) (aC (deck_formed_ok hr1) <| aN) ?_
 refine iB h (fun b2 h => ?_) (fun b2 h => ?_)
 · refine Rg [.a] (sl 66 [(6, vI (1 : Int))] []) (aN) ?_
   refine Holds.ret ?_
   refine Tr ?_
   exact bQ (vI (1 : Int)) (congrArg vI (sI h))
 · refine Holds.skip ?_
   refine Tn ?_
   obtain ⟨r3, hr3, h⟩ := bS h
   refine Rg [.a, (.c (vI r3)), .a] (sl 66 [(0, vL encSCard a0), (4, vP [4] (0)), (5, vP [5] (0)), (7, vI r3)] [bx [5] (encSFormat a2), bx [4] (encSDeck a1)]) (aC (deck_Size_ok hr3) <| aN) ?_
   refine Holds.seq ?_
   refine Rg [.a, .a] (sl 66 [(0, vL encSCard a0), (4, vP [4] (0)), (5, vP [5] (0)), (7, vI r3), (17, vB (decide ((250 : Int) < r3)))] [bx [5] (encSFormat a2), bx [4] (encSDeck a1)]) (aN) ?_
   refine iB h (fun b4 h => ?_) (fun b4 h => ?_)
   · refine Rg [.a] (sl 66 [(6, vI (5 : Int))] []) (aN) ?_
     refine Holds.ret ?_
     refine Tr ?_
     exact bQ (vI (5 : Int)) (congrArg vI (sI h))
   · refine Holds.skip ?_
     refine Tn ?_
     refine Holds.seq ?_
     obtain ⟨b5, hb5, h⟩ := bS h
     refine Rg [.a, .a, .a, .a, .a, .a, .a, .a, .a, (.v (vB b5))] (sl 66 [(0, vL encSCard a0), (4, vP [4] (0)), (5, vP [5] (0)), (27, vB b5)] [bx [5] (encSFormat a2), bx [4] (encSDeck a1)]) (aG ((decide (r3 < a2.Least)) == false) <| aH ((decide (r3 < a2.Least)) == false) <| aF (decide (r3 < a2.Least)) <| aB hb5 <| aN) ?_
     refine iB h (fun b6 h => ?_) (fun b6 h => ?_)
     · refine Rg [.a] (sl 66 [(6, vI (10 : Int))] []) (aN) ?_
       refine Holds.ret ?_
       refine Tr ?_
       exact bQ (vI (10 : Int)) (congrArg vI (sI h))
     · refine Holds.skip ?_
       refine Tn ?_
       refine Sj (X := Unit) (fun v => (sl 66 [] [])) (fun v => deck_Check_J7 = some r) ?_ ?_
       · refine Rg [.a, .a, .a, .a] (sl 66 [(0, vL encSCard a0), (4, vP [4] (0)), (5, vP [5] (0)), (29, vL (eI .i64) a1.Cards), (30, vI (a1.Cards.length : Int)), (31, vI (0 : Int))] [bx [5] (encSFormat a2), bx [4] (encSDeck a1)]) (aN) ?_
         refine Holds.block ?_
         obtain ⟨oB10, hiB10, h⟩ := bS h
         refine It (fun (v : Int) => (sl 66 [(0, vL encSCard a0), (4, vP [4] (0)), (5, vP [5] (0)), (29, vL (eI .i64) a1.Cards), (30, vI (a1.Cards.length : Int)), (31, vI v)] [bx [5] (encSFormat a2), bx [4] (encSDeck a1)])) hiB10 (wT) ?_
         rintro vt31_9 zB10 hzB10 hoB10
         replace hzB10 : deck_Check_B10 a0 a1 a2 vt31_9 = some zB10 := hzB10
         unfold deck_Check_B10 at hzB10
         refine Rg [.a] (sl 66 [(0, vL encSCard a0), (4, vP [4] (0)), (5, vP [5] (0)), (29, vL (eI .i64) a1.Cards), (30, vI (a1.Cards.length : Int)), (31, vI vt31_9), (32, vB (decide (vt31_9 < (a1.Cards.length : Int))))] [bx [5] (encSFormat a2), bx [4] (encSDeck a1)]) (aN) ?_
         refine Holds.seq ?_
         refine iB hzB10 (fun b11 hzB10 => ?_) (fun b11 hzB10 => ?_)
         · refine Holds.skip ?_
           refine Tn ?_
           refine Holds.seq ?_
           refine Holds.block ?_
           obtain ⟨e12, he12, hzB10⟩ := bS hzB10
           refine Rg [.a, .a, (.v (vI e12)), .a, .a] (sl 66 [(0, vL encSCard a0), (4, vP [4] (0)), (5, vP [5] (0)), (8, vI vt31_9), (9, vI e12), (29, vL (eI .i64) a1.Cards), (30, vI (a1.Cards.length : Int)), (31, vI vt31_9)] [bx [5] (encSFormat a2), bx [4] (encSDeck a1)]) (aC (idx_b he12) <| aC (eld he12 (lenI .i64) 0 1 false (vI e12)) <| aC (Eq.refl (vI e12)) <| aN) ?_
           obtain ⟨e13, he13, hzB10⟩ := bS hzB10
           obtain ⟨e14, he14, hzB10⟩ := bS hzB10
           obtain ⟨b15, hb15, hzB10⟩ := bS hzB10
           obtain ⟨e16, he16, hzB10⟩ := bS hzB10
           obtain ⟨r17, hr17, hzB10⟩ := bS hzB10
           obtain ⟨b18, hb18, hzB10⟩ := bS hzB10
           refine Rq followsP [.a, .a, .a, .a, .a, (.v (vI e13.Line.Super)), .a, .a, .a, .a, .a, .a, .a, (.v (vI e14)), .a, .a, .a, (.v (vB b15)), .a, .a, .a, .a, .a, .a, .a, (.v (vS e16.Name)), (.c (vI r17)), .a, (.v (vB b18))] (sl 66 [(0, vL encSCard a0), (4, vP [4] (0)), (5, vP [5] (0)), (29, vL (eI .i64) a1.Cards), (30, vI (a1.Cards.length : Int)), (31, vI vt31_9), (64, vB b18)] [bx [5] (encSFormat a2), bx [4] (encSDeck a1)]) (aC (idx_b he13) <| aC (eld he13 lenSCard 10 1 false (vI e13.Line.Super)) <| aC (Eq.refl (vI e13.Line.Super)) <| aG (((bAnd .i64 e13.Line.Super (1 : Int)) == (0 : Int)) == true) <| aC (fun hg : (((bAnd .i64 e13.Line.Super (1 : Int)) == (0 : Int)) == true) = true => aC (gi (((bAnd .i64 e13.Line.Super (1 : Int)) == (0 : Int)) == true)) <| aC (gi (((bAnd .i64 e13.Line.Super (1 : Int)) == (0 : Int)) == true)) <| aC (gidx_b he14 hg).1 <| aN) <| aC (fun hg : (((bAnd .i64 e13.Line.Super (1 : Int)) == (0 : Int)) == true) = true => aC (gi (((bAnd .i64 e13.Line.Super (1 : Int)) == (0 : Int)) == true)) <| aC (eld (gd_t he14 hg) (lenI .i64) 0 1 false (vI e14)) <| aC (Eq.refl (vI e14)) <| aN) <| aG (((bAnd .i64 e13.Line.Super (1 : Int)) == (0 : Int)) == true) <| aH (((bAnd .i64 e13.Line.Super (1 : Int)) == (0 : Int)) == true) <| aT ((bAnd .i64 e13.Line.Super (1 : Int)) == (0 : Int)) <| aB hb15 <| aG (b15 == false) <| aC (fun hg : (b15 == false) = true => aC (gi (b15 == false)) <| aC (gi (b15 == false)) <| aC (gidx_b he16 hg).1 <| aN) <| aG (b15 == false) <| aC (fun hg : (b15 == false) = true => aC (gi (b15 == false)) <| aC (eld (gd_t he16 hg) lenSCard 0 1 false (vS e16.Name)) <| aC (Eq.refl (vS e16.Name)) <| aN) <| aC (c2 hr17 word_Index_ok) <| aG (b15 == false) <| aF b15 <| aB hb18 <| aN) ?_
           refine iB hzB10 (fun b19 hzB10 => ?_) (fun b19 hzB10 => ?_)
           · refine Rg [.a] (sl 66 [(6, vI (10 : Int))] []) (aN) ?_
             refine Holds.ret ?_
             refine blockQ.ret ?_
             refine Tr ?_
             have hoB10_ := hoB10 _ (sI hzB10).symm
             subst hoB10_
             replace h := sumL h
             refine Tr ?_
             refine blockQ.ret ?_
             refine Tr ?_
             exact bQ (vI (10 : Int)) (congrArg vI (sI h))
           · refine Holds.skip ?_
             refine blockQ.normal ?_
             refine Tn ?_
             refine Re [.a, .a] (sl 66 [(0, vL encSCard a0), (4, vP [4] (0)), (5, vP [5] (0)), (29, vL (eI .i64) a1.Cards), (30, vI (a1.Cards.length : Int)), (31, vI (wrap64 (vt31_9 + (1 : Int)))), (64, vB b18), (65, vI (wrap64 (vt31_9 + (1 : Int))))] [bx [5] (encSFormat a2), bx [4] (encSDeck a1)]) (aN) ?_
             refine Tn ⟨(wrap64 (vt31_9 + (1 : Int))), (sI hzB10).symm, wT⟩
         · refine Holds.exit ?_
           refine thenQ.exit ?_
           have hoB10_ := hoB10 _ (sI hzB10).symm
           subst hoB10_
           replace h := sumR h
           refine thenQ.exit ?_
           refine blockQ.out ?_
           refine Tn ⟨(), h, wT⟩
       · rintro _ hJ7
         replace hJ7 : deck_Check_J7 = some r := hJ7
         unfold deck_Check_J7 at hJ7
         refine Rg [.a] (sl 66 [(6, vI (0 : Int))] []) (aN) ?_
         refine Holds.ret ?_
         exact bQ (vI (0 : Int)) (congrArg vI (sI hJ7))
end Go.PL
