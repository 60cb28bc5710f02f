/- Functions of the program, as partial functions in Lean, with proofs. -/
import Derived.Test.YtlinpadogiggaaaGreatDoorPlEvB
import Derived.Test.YtlinpadogiggaaaGreatDoorPlEvF0
import Derived.Test.YtlinpadogiggaaaGreatDoorPlEvF1
import Derived.Test.YtlinpadogiggaaaGreatDoorPlEvF2
import Derived.Test.YtlinpadogiggaaaGreatDoorPlEvF3
namespace Go.PL
open Go Go.RowKit Go.Proofs
set_option maxRecDepth 100000
set_option linter.all false
set_option maxHeartbeats 1000000
attribute [local irreducible] Holds thenQ blockQ
def r10_Is_J6 (a0 : SLine) : Option (Bool) :=
 (some (if (a0.Types == (2 : Int)) = true then true else a0.Types == (4 : Int))).bind fun b7 =>
 (gd (b7 == false) (r10_bit a0.Types (1 : Int))).bind fun r8 =>
 (gd ((b7 == false) && ((!r8) == true)) (r10_bit a0.Types (2 : Int))).bind fun r9 =>
 (some (if (!r8) = true then !r9 else false)).bind fun b10 =>
 (some (if b7 = true then true else b10)).bind fun b11 =>
 some b11
def r10_Is_B14 (a0 : SLine) (vt3_13 : Int) : Option ((Int) ⊕ (Unit ⊕ Unit)) :=
 (if (decide (vt3_13 < (a0.Subs.length : Int))) = true then
  (idx a0.Subs vt3_13).bind fun e16 =>
  (r10_IsSub e16).bind fun r17 =>
  (gd (((!r17) == false) && ((decide ((0 : Int) < vt3_13)) == true)) (idx a0.Subs (wrap64 (vt3_13 - (1 : Int))))).bind fun e18 =>
  (gd (((!r17) == false) && ((decide ((0 : Int) < vt3_13)) == true)) (idx a0.Subs vt3_13)).bind fun e19 =>
  (some (if (decide ((0 : Int) < vt3_13)) = true then !(Op.bytesLess e18 e19) else false)).bind fun b20 =>
  (some (if (!r17) = true then true else b20)).bind fun b21 =>
  (if b21 = true then
   some (.inr (.inl ()))
  else
   some (.inl (wrap64 (vt3_13 + (1 : Int)))))
 else
  some (.inr (.inr ())))
/-- cardgame/cardgameref10.Is -/
def r10_Is (a0 : SLine) : Option (Bool) :=
 (some (if (decide (a0.Super < (0 : Int))) = true then true else decide ((3 : Int) < a0.Super))).bind fun b1 =>
 (some (if b1 = true then true else decide (a0.Types < (1 : Int)))).bind fun b2 =>
 (some (if b2 = true then true else decide ((63 : Int) < a0.Types))).bind fun b3 =>
 (some (if b3 = true then true else decide ((4 : Int) < (a0.Subs.length : Int)))).bind fun b4 =>
 (if b4 = true then
  some false
 else
  (iter (fun (v : Int) => r10_Is_B14 a0 v) FU (0 : Int)).bind (Sum.elim (fun o0 => some false) (fun o1 => r10_Is_J6 a0)))
def r10_Is_C (a0 : SLine) (r : Bool) : Prop := PCall Tryz.prog I0 55 [vA encSLine a0] (· = vB r)
theorem r10_Is_ok {a0 : SLine} {r : Bool} (h : r10_Is a0 = some r) : r10_Is_C a0 r := by
 refine PCall.body I0_stable (by kernel_rfl) Tryz.func55 rfl Tryz.ntmps55 (rs := [.tmp 2]) rfl rfl ?_
 intro w0 av old gv
 unfold r10_Is at h
 refine Rg [.a, .a] (sl 80 [(1, vP [1] (0))] [bx [1] (encSLine a0)]) (aN) ?_
 refine Holds.seq ?_
 obtain ⟨b1, hb1, h⟩ := bS h
 obtain ⟨b2, hb2, h⟩ := bS h
 obtain ⟨b3, hb3, h⟩ := bS h
 obtain ⟨b4, hb4, h⟩ := bS h
 refine Rg [.a, .a, .a, .a, .a, .a, .a, (.v (vB b1)), .a, .a, .a, .a, (.v (vB b2)), .a, .a, .a, .a, (.v (vB b3)), .a, .a, .a, .a, .a, (.v (vB b4))] (sl 80 [(1, vP [1] (0)), (27, vB b4)] [bx [1] (encSLine a0)]) (aG ((decide (a0.Super < (0 : Int))) == false) <| aG ((decide (a0.Super < (0 : Int))) == false) <| aF (decide (a0.Super < (0 : Int))) <| aB hb1 <| aG (b1 == false) <| aG (b1 == false) <| aF b1 <| aB hb2 <| aG (b2 == false) <| aG (b2 == false) <| aF b2 <| aB hb3 <| aG (b3 == false) <| aG (b3 == false) <| aG (b3 == false) <| aF b3 <| aB hb4 <| aN) ?_
 refine iB h (fun b5 h => ?_) (fun b5 h => ?_)
 · refine Rg [.a] (sl 80 [(2, vB false)] []) (aN) ?_
   refine Holds.ret ?_
   refine Tr ?_
   exact bQ (vB false) (congrArg vB (sI h))
 · refine Holds.skip ?_
   refine Tn ?_
   refine Holds.seqJ (X := Unit) (fun v => (sl 80 [(1, vP [1] (0))] [bx [1] (encSLine a0)])) (fun v => r10_Is_J6 a0 = some r) ?_ ?_
   · refine Rg [.a] (sl 80 [(1, vP [1] (0)), (3, vI (0 : Int))] [bx [1] (encSLine a0)]) (aN) ?_
     refine Holds.block ?_
     obtain ⟨oB14, hiB14, h⟩ := bS h
     refine Holds.iter (fun (v : Int) => (sl 80 [(1, vP [1] (0)), (3, vI v)] [bx [1] (encSLine a0)])) hiB14 (lT) ?_
     rintro vt3_13 zB14 hzB14 hoB14
     replace hzB14 : r10_Is_B14 a0 vt3_13 = some zB14 := hzB14
     unfold r10_Is_B14 at hzB14
     refine Holds.seq ?_
     refine Rg [.a, .a, .a, .a, .a] (sl 80 [(1, vP [1] (0)), (3, vI vt3_13), (32, vB (decide (vt3_13 < (a0.Subs.length : Int))))] [bx [1] (encSLine a0)]) (aN) ?_
     refine iB hzB14 (fun b15 hzB14 => ?_) (fun b15 hzB14 => ?_)
     · refine Holds.skip ?_
       refine Tn ?_
       refine Holds.seq ?_
       refine Holds.block ?_
       obtain ⟨e16, he16, hzB14⟩ := bS hzB14
       obtain ⟨r17, hr17, hzB14⟩ := bS hzB14
       obtain ⟨e18, he18, hzB14⟩ := bS hzB14
       obtain ⟨e19, he19, hzB14⟩ := bS hzB14
       obtain ⟨b20, hb20, hzB14⟩ := bS hzB14
       obtain ⟨b21, hb21, hzB14⟩ := bS hzB14
       refine Rq followsP [.a, .a, .a, .a, (.v (vS e16)), (.c (vB r17)), .a, .a, .a, .a, .a, .a, .a, .a, .a, .a, (.v (vS e18)), .a, .a, .a, .a, (.v (vS e19)), .a, (.v (vB b20)), (.v (vB b21))] (sl 80 [(1, vP [1] (0)), (3, vI vt3_13), (59, vB b21)] [bx [1] (encSLine a0)]) (aC (idx_b he16) <| aC (eld he16 lenS 0 1 false (vS e16)) <| aC (Eq.refl (vS e16)) <| aC (r10_IsSub_ok hr17) <| aG ((!r17) == false) <| aG ((!r17) == false) <| aG (((!r17) == false) && ((decide ((0 : Int) < vt3_13)) == true)) <| aG (((!r17) == false) && ((decide ((0 : Int) < vt3_13)) == true)) <| aC (fun hg : (((!r17) == false) && ((decide ((0 : Int) < vt3_13)) == true)) = true => aC (gi (((!r17) == false) && ((decide ((0 : Int) < vt3_13)) == true))) <| aC (gi (((!r17) == false) && ((decide ((0 : Int) < vt3_13)) == true))) <| aC (gidx_b he18 hg).1 <| aN) <| aC (fun hg : (((!r17) == false) && ((decide ((0 : Int) < vt3_13)) == true)) = true => aC (gi (((!r17) == false) && ((decide ((0 : Int) < vt3_13)) == true))) <| aC (eld (gd_t he18 hg) lenS 0 1 false (vS e18)) <| aC (Eq.refl (vS e18)) <| aN) <| aG (((!r17) == false) && ((decide ((0 : Int) < vt3_13)) == true)) <| aC (fun hg : (((!r17) == false) && ((decide ((0 : Int) < vt3_13)) == true)) = true => aC (gi (((!r17) == false) && ((decide ((0 : Int) < vt3_13)) == true))) <| aC (gi (((!r17) == false) && ((decide ((0 : Int) < vt3_13)) == true))) <| aC (gidx_b he19 hg).1 <| aN) <| aC (fun hg : (((!r17) == false) && ((decide ((0 : Int) < vt3_13)) == true)) = true => aC (gi (((!r17) == false) && ((decide ((0 : Int) < vt3_13)) == true))) <| aC (eld (gd_t he19 hg) lenS 0 1 false (vS e19)) <| aC (Eq.refl (vS e19)) <| aN) <| aH (((!r17) == false) && ((decide ((0 : Int) < vt3_13)) == true)) <| aC (fun hg : ((!r17) == false) = true => aC (gi ((!r17) == false)) <| aC (fun q : (decide ((0 : Int) < vt3_13)) = true => (gA hg (gT q))) <| aB hb20 <| aN) <| aF (!r17) <| aB hb21 <| aN) ?_
       refine iB hzB14 (fun b22 hzB14 => ?_) (fun b22 hzB14 => ?_)
       · refine Rg [.a] (sl 80 [(2, vB false)] []) (aN) ?_
         refine Holds.ret ?_
         refine blockQ.ret ?_
         refine Tr ?_
         have hoB14_ := hoB14 _ (sI hzB14).symm
         subst hoB14_
         replace h := sumL h
         refine Tr ?_
         refine blockQ.ret ?_
         refine Tr ?_
         exact bQ (vB false) (congrArg vB (sI h))
       · refine Holds.skip ?_
         refine blockQ.normal ?_
         refine Tn ?_
         refine Re [.a, .a, .a] (sl 80 [(1, vP [1] (0)), (3, vI (wrap64 (vt3_13 + (1 : Int)))), (33, vI vt3_13), (34, vI (wrap64 (vt3_13 + (1 : Int)))), (59, vB b21)] [bx [1] (encSLine a0)]) (aN) ?_
         refine Tn ⟨(wrap64 (vt3_13 + (1 : Int))), (sI hzB14).symm, lT⟩
     · refine Holds.exit ?_
       refine thenQ.exit ?_
       have hoB14_ := hoB14 _ (sI hzB14).symm
       subst hoB14_
       replace h := sumR h
       refine thenQ.exit ?_
       refine blockQ.out ?_
       refine Tn ⟨(), h, lT⟩
   · rintro _ hJ6
     replace hJ6 : r10_Is_J6 a0 = some r := hJ6
     unfold r10_Is_J6 at hJ6
     obtain ⟨b7, hb7, hJ6⟩ := bS hJ6
     obtain ⟨r8, hr8, hJ6⟩ := bS hJ6
     obtain ⟨r9, hr9, hJ6⟩ := bS hJ6
     obtain ⟨b10, hb10, hJ6⟩ := bS hJ6
     obtain ⟨b11, hb11, hJ6⟩ := bS hJ6
     refine Rg [.a, .a, .a, .a, .a, .a, .a, (.v (vB b7)), .a, .a, .a, (.c (vB r8)), .a, .a, .a, .a, (.c (vB r9)), .a, (.v (vB b10)), (.v (vB b11)), .a] (sl 80 [(2, vB b11)] []) (aG ((a0.Types == (2 : Int)) == false) <| aG ((a0.Types == (2 : Int)) == false) <| aF (a0.Types == (2 : Int)) <| aB hb7 <| aG (b7 == false) <| aC (c1 hr8 r10_bit_ok) <| aG (b7 == false) <| aG (b7 == false) <| aG ((b7 == false) && ((!r8) == true)) <| aC (c1 hr9 r10_bit_ok) <| aG ((b7 == false) && ((!r8) == true)) <| aC (fun hg : (b7 == false) = true => aC (gi (b7 == false)) <| aC (fun q : (!r8) = true => (gA hg (gT q))) <| aB hb10 <| aN) <| aF b7 <| aB hb11 <| aN) ?_
     refine Holds.ret ?_
     exact bQ (vB b11) (congrArg vB (sI hJ6))
/-- cardgame/cardgameref13.Is -/
def r13_Is (a0 : SFilter) : Option (Bool) :=
 (some (if (decide (a0.Zone < (0 : Int))) = true then true else decide ((5 : Int) < a0.Zone))).bind fun b1 =>
 (some (if b1 = true then true else decide (a0.Who < (0 : Int)))).bind fun b2 =>
 (some (if b2 = true then true else decide ((2 : Int) < a0.Who))).bind fun b3 =>
 (some (if b3 = true then true else decide (a0.Self < (0 : Int)))).bind fun b4 =>
 (some (if b4 = true then true else decide ((2 : Int) < a0.Self))).bind fun b5 =>
 (some (if b5 = true then true else decide (a0.Tap < (0 : Int)))).bind fun b6 =>
 (some (if b6 = true then true else decide ((2 : Int) < a0.Tap))).bind fun b7 =>
 (if b7 = true then
  some false
 else
  (r13_apart a0.Types a0.NotTypes (63 : Int)).bind fun r9 =>
  (gd ((!r9) == false) (r13_apart a0.Colors a0.NotColors (31 : Int))).bind fun r10 =>
  (some (if (!r9) = true then true else !r10)).bind fun b11 =>
  (if b11 = true then
   some false
  else
   (gd ((a0.Sub != ([] : List UInt8)) == true) (r10_IsSub a0.Sub)).bind fun r13 =>
   (some (if (a0.Sub != ([] : List UInt8)) = true then !r13 else false)).bind fun b14 =>
   (some (if b14 = true then true else decide (a0.Keys < (0 : Int)))).bind fun b15 =>
   (some (if b15 = true then true else decide ((131071 : Int) < a0.Keys))).bind fun b16 =>
   (if b16 = true then
    some false
   else
    (r13_bound a0.Power).bind fun r18 =>
    (gd (r18 == true) (r13_bound a0.Tough)).bind fun r19 =>
    (some (if r18 = true then r19 else false)).bind fun b20 =>
    (gd (b20 == true) (r13_bound a0.Value)).bind fun r21 =>
    (some (if b20 = true then r21 else false)).bind fun b22 =>
    some b22)))
def r13_Is_C (a0 : SFilter) (r : Bool) : Prop := PCall Tryz.prog I0 90 [vA encSFilter a0] (· = vB r)
theorem r13_Is_ok {a0 : SFilter} {r : Bool} (h : r13_Is a0 = some r) : r13_Is_C a0 r := by
 refine PCall.body I0_stable (by kernel_rfl) Tryz.func90 rfl Tryz.ntmps90 (rs := [.tmp 2]) rfl rfl ?_
 intro w0 av old gv
 unfold r13_Is at h
 refine Rg [.a, .a] (sl 87 [(1, vP [1] (0))] [bx [1] (encSFilter a0)]) (aN) ?_
 refine Holds.seq ?_
 obtain ⟨b1, hb1, h⟩ := bS h
 obtain ⟨b2, hb2, h⟩ := bS h
 obtain ⟨b3, hb3, h⟩ := bS h
 obtain ⟨b4, hb4, h⟩ := bS h
 obtain ⟨b5, hb5, h⟩ := bS h
 obtain ⟨b6, hb6, h⟩ := bS h
 obtain ⟨b7, hb7, h⟩ := bS h
 refine Rg [.a, .a, .a, .a, .a, .a, .a, (.v (vB b1)), .a, .a, .a, .a, (.v (vB b2)), .a, .a, .a, .a, (.v (vB b3)), .a, .a, .a, .a, (.v (vB b4)), .a, .a, .a, .a, (.v (vB b5)), .a, .a, .a, .a, (.v (vB b6)), .a, .a, .a, .a, (.v (vB b7))] (sl 87 [(1, vP [1] (0)), (40, vB b7)] [bx [1] (encSFilter a0)]) (aG ((decide (a0.Zone < (0 : Int))) == false) <| aG ((decide (a0.Zone < (0 : Int))) == false) <| aF (decide (a0.Zone < (0 : Int))) <| aB hb1 <| aG (b1 == false) <| aG (b1 == false) <| aF b1 <| aB hb2 <| aG (b2 == false) <| aG (b2 == false) <| aF b2 <| aB hb3 <| aG (b3 == false) <| aG (b3 == false) <| aF b3 <| aB hb4 <| aG (b4 == false) <| aG (b4 == false) <| aF b4 <| aB hb5 <| aG (b5 == false) <| aG (b5 == false) <| aF b5 <| aB hb6 <| aG (b6 == false) <| aG (b6 == false) <| aF b6 <| aB hb7 <| aN) ?_
 refine iB h (fun b8 h => ?_) (fun b8 h => ?_)
 · refine Rg [.a] (sl 87 [(2, vB false)] []) (aN) ?_
   refine Holds.ret ?_
   refine Tr ?_
   exact bQ (vB false) (congrArg vB (sI h))
 · refine Holds.skip ?_
   refine Tn ?_
   refine Holds.seq ?_
   obtain ⟨r9, hr9, h⟩ := bS h
   obtain ⟨r10, hr10, h⟩ := bS h
   obtain ⟨b11, hb11, h⟩ := bS h
   refine Rg [.a, .a, .a, .a, (.c (vB r9)), .a, .a, .a, .a, .a, .a, (.c (vB r10)), .a, (.v (vB b11))] (sl 87 [(1, vP [1] (0)), (54, vB b11)] [bx [1] (encSFilter a0)]) (aC (r13_apart_ok hr9) <| aG ((!r9) == false) <| aG ((!r9) == false) <| aC (c2 hr10 r13_apart_ok) <| aG ((!r9) == false) <| aF (!r9) <| aB hb11 <| aN) ?_
   refine iB h (fun b12 h => ?_) (fun b12 h => ?_)
   · refine Rg [.a] (sl 87 [(2, vB false)] []) (aN) ?_
     refine Holds.ret ?_
     refine Tr ?_
     exact bQ (vB false) (congrArg vB (sI h))
   · refine Holds.skip ?_
     refine Tn ?_
     refine Holds.seq ?_
     obtain ⟨r13, hr13, h⟩ := bS h
     obtain ⟨b14, hb14, h⟩ := bS h
     obtain ⟨b15, hb15, h⟩ := bS h
     obtain ⟨b16, hb16, h⟩ := bS h
     refine Rg [.a, .a, .a, .a, .a, .a, (.c (vB r13)), .a, (.v (vB b14)), .a, .a, .a, .a, (.v (vB b15)), .a, .a, .a, .a, (.v (vB b16))] (sl 87 [(1, vP [1] (0)), (73, vB b16)] [bx [1] (encSFilter a0)]) (aG ((a0.Sub != ([] : List UInt8)) == true) <| aC (c1 hr13 r10_IsSub_ok) <| aG ((a0.Sub != ([] : List UInt8)) == true) <| aT (a0.Sub != ([] : List UInt8)) <| aB hb14 <| aG (b14 == false) <| aG (b14 == false) <| aF b14 <| aB hb15 <| aG (b15 == false) <| aG (b15 == false) <| aF b15 <| aB hb16 <| aN) ?_
     refine iB h (fun b17 h => ?_) (fun b17 h => ?_)
     · refine Rg [.a] (sl 87 [(2, vB false)] []) (aN) ?_
       refine Holds.ret ?_
       refine Tr ?_
       exact bQ (vB false) (congrArg vB (sI h))
     · refine Holds.skip ?_
       refine Tn ?_
       obtain ⟨r18, hr18, h⟩ := bS h
       obtain ⟨r19, hr19, h⟩ := bS h
       obtain ⟨b20, hb20, h⟩ := bS h
       obtain ⟨r21, hr21, h⟩ := bS h
       obtain ⟨b22, hb22, h⟩ := bS h
       refine Rg [.a, .a, (.c (vB r18)), .a, .a, .a, (.c (vB r19)), (.v (vB b20)), .a, .a, .a, (.c (vB r21)), (.v (vB b22)), .a] (sl 87 [(2, vB b22)] []) (aC (r13_bound_ok hr18) <| aG (r18 == true) <| aC (c1 hr19 r13_bound_ok) <| aT r18 <| aB hb20 <| aG (b20 == true) <| aC (c1 hr21 r13_bound_ok) <| aT b20 <| aB hb22 <| aN) ?_
       refine Holds.ret ?_
       exact bQ (vB b22) (congrArg vB (sI h))
def r13_typeWord_J2  (mask_t3_1 : Int) : Option ((List UInt8)) :=
 (r10_TypesText mask_t3_1).bind fun r3 =>
 some r3
def r13_typeWord_B9 (a0 : Int) (mask_t3_6 : Int) (k_t4_7 : Int) : Option ((Int × Int) ⊕ (Int)) :=
 (if (decide (k_t4_7 < a0)) = true then
  some (.inl ((wrap64 (mask_t3_6 * (2 : Int))), (wrap64 (k_t4_7 + (1 : Int)))))
 else
  some (.inr mask_t3_6))
/-- cardgame/cardgameref13.typeWord -/
def r13_typeWord (a0 : Int) : Option ((List UInt8)) :=
 (iter (fun (v : Int × Int) => r13_typeWord_B9 a0 v.1 v.2) FU ((1 : Int), (0 : Int))).bind (fun o0 => r13_typeWord_J2 o0)
def r13_typeWord_C (a0 : Int) (r : (List UInt8)) : Prop := PCall Tryz.prog I0 179 [vI a0] (· = vS r)
theorem r13_typeWord_ok {a0 : Int} {r : (List UInt8)} (h : r13_typeWord a0 = some r) : r13_typeWord_C a0 r := by
 refine PCall.body I0_stable (by kernel_rfl) Tryz.func179 rfl Tryz.ntmps179 (rs := [.tmp 2]) rfl rfl ?_
 intro w0 av old gv
 unfold r13_typeWord at h
 refine Rg [.a] (sl 14 [(0, vI a0)] []) (aN) ?_
 refine Rg [.a] (sl 14 [(0, vI a0), (3, vI (1 : Int))] []) (aN) ?_
 refine Holds.seqJ (X := Int) (fun v => (sl 14 [(3, vI v)] [])) (fun v => r13_typeWord_J2 v = some r) ?_ ?_
 · refine Rg [.a] (sl 14 [(0, vI a0), (3, vI (1 : Int)), (4, vI (0 : Int))] []) (aN) ?_
   refine Holds.block ?_
   obtain ⟨oB9, hiB9, h⟩ := bS h
   refine Holds.iter (fun (v : Int × Int) => (sl 14 [(0, vI a0), (3, vI v.1), (4, vI v.2)] [])) hiB9 (lT) ?_
   rintro ⟨mask_t3_6, k_t4_7⟩ zB9 hzB9 hoB9
   replace hzB9 : r13_typeWord_B9 a0 mask_t3_6 k_t4_7 = some zB9 := hzB9
   unfold r13_typeWord_B9 at hzB9
   refine Holds.seq ?_
   refine Rg [.a, .a, .a] (sl 14 [(0, vI a0), (3, vI mask_t3_6), (4, vI k_t4_7), (7, vB (decide (k_t4_7 < a0)))] []) (aN) ?_
   refine iB hzB9 (fun b10 hzB9 => ?_) (fun b10 hzB9 => ?_)
   · refine Holds.skip ?_
     refine Tn ?_
     refine Holds.seq ?_
     refine Holds.block ?_
     refine Re [.a, .a, .a] (sl 14 [(0, vI a0), (3, vI (wrap64 (mask_t3_6 * (2 : Int)))), (4, vI k_t4_7), (7, vB (decide (k_t4_7 < a0))), (10, vI mask_t3_6), (11, vI (wrap64 (mask_t3_6 * (2 : Int))))] []) (aN) ?_
     refine blockQ.normal ?_
     refine Tn ?_
     refine Re [.a, .a, .a] (sl 14 [(0, vI a0), (3, vI (wrap64 (mask_t3_6 * (2 : Int)))), (4, vI (wrap64 (k_t4_7 + (1 : Int)))), (7, vB (decide (k_t4_7 < a0))), (8, vI k_t4_7), (9, vI (wrap64 (k_t4_7 + (1 : Int)))), (10, vI mask_t3_6), (11, vI (wrap64 (mask_t3_6 * (2 : Int))))] []) (aN) ?_
     refine Tn ⟨((wrap64 (mask_t3_6 * (2 : Int))), (wrap64 (k_t4_7 + (1 : Int)))), (sI hzB9).symm, lT⟩
   · refine Holds.exit ?_
     refine thenQ.exit ?_
     have hoB9_ := hoB9 _ (sI hzB9).symm
     subst hoB9_
     refine thenQ.exit ?_
     refine blockQ.out ?_
     refine Tn ⟨mask_t3_6, h, lT⟩
 · rintro mask_t3_1 hJ2
   replace hJ2 : r13_typeWord_J2 mask_t3_1 = some r := hJ2
   unfold r13_typeWord_J2 at hJ2
   obtain ⟨r3, hr3, hJ2⟩ := bS hJ2
   refine Rg [.a, (.c (vS r3)), .a] (sl 14 [(2, vS r3)] []) (aC (r10_TypesText_ok hr3) <| aN) ?_
   refine Holds.ret ?_
   exact bQ (vS r3) (congrArg vS (sI hJ2))
/-- cardgame/cardgameref08.PoolText -/
def r08_PoolText (a0 : A6 (Int)) : Option ((List UInt8)) :=
 (r08_cost a0).bind fun r1 =>
 (r08_Text r1).bind fun r2 =>
 some r2
def r08_PoolText_C (a0 : A6 (Int)) (r : (List UInt8)) : Prop := PCall Tryz.prog I0 166 [vA (eA6 (eI .i64)) a0] (· = vS r)
theorem r08_PoolText_ok {a0 : A6 (Int)} {r : (List UInt8)} (h : r08_PoolText a0 = some r) : r08_PoolText_C a0 r := by
 refine PCall.body I0_stable (by kernel_rfl) Tryz.func166 rfl Tryz.ntmps166 (rs := [.tmp 2]) rfl rfl ?_
 intro w0 av old gv
 unfold r08_PoolText at h
 refine Rg [.a, .a] (sl 6 [(1, vP [1] (0))] [bx [1] (eA6 (eI .i64) a0)]) (aN) ?_
 obtain ⟨r1, hr1, h⟩ := bS h
 obtain ⟨r2, hr2, h⟩ := bS h
 refine Rg [.a, (.c (vA encSCost r1)), (.c (vS r2)), .a] (sl 6 [(2, vS r2)] []) (aC (r08_cost_ok hr1) <| aC (r08_Text_ok hr2) <| aN) ?_
 refine Holds.ret ?_
 exact bQ (vS r2) (congrArg vS (sI h))
def r26_list_J1  : Option (Bool) :=
 some true
def r26_list_B4 (a0 : SState) (a1 : List (Int)) (a2 : Int) (a3 : Int) (i_t9_3 : Int) : Option ((Int) ⊕ (Unit ⊕ Unit)) :=
 (if (decide (i_t9_3 < (a1.length : Int))) = true then
  (idx a1 i_t9_3).bind fun e6 =>
  (r26_object a0 e6).bind fun r7 =>
  (some (if (!r7.2) = true then true else r7.1.Zone != a2)).bind fun b8 =>
  (some (if (decide ((0 : Int) ≤ a3)) = true then r7.1.Owner != a3 else false)).bind fun b9 =>
  (gd ((if b8 = true then true else b9) == false) (idx a1 i_t9_3)).bind fun e10 =>
  (gd ((if b8 = true then true else b9) == false) (r26_times a1 e10)).bind fun r11 =>
  (some (if (if b8 = true then true else b9) = true then true else r11 != (1 : Int))).bind fun b12 =>
  (if b12 = true then
   some (.inr (.inl ()))
  else
   some (.inl (wrap64 (i_t9_3 + (1 : Int)))))
 else
  some (.inr (.inr ())))
/-- cardgame/cardgameref26.list -/
def r26_list (a0 : SState) (a1 : List (Int)) (a2 : Int) (a3 : Int) : Option (Bool) :=
 (iter (fun (v : Int) => r26_list_B4 a0 a1 a2 a3 v) FU (0 : Int)).bind (Sum.elim (fun o0 => some false) (fun o1 => r26_list_J1))
def r26_list_C (a0 : SState) (a1 : List (Int)) (a2 : Int) (a3 : Int) (r : Bool) : Prop := PCall Tryz.prog I0 62 [vA encSState a0, vL (eI .i64) a1, vI a2, vI a3] (· = vB r)
theorem r26_list_ok {a0 : SState} {a1 : List (Int)} {a2 : Int} {a3 : Int} {r : Bool} (h : r26_list a0 a1 a2 a3 = some r) : r26_list_C a0 a1 a2 a3 r := by
 refine PCall.body I0_stable (by kernel_rfl) Tryz.func62 rfl Tryz.ntmps62 (rs := [.tmp 8]) rfl rfl ?_
 intro w0 av old gv
 unfold r26_list at h
 refine Rg [.a, .a] (sl 54 [(1, vL (eI .i64) a1), (2, vI a2), (3, vI a3), (4, vP [4] (0))] [bx [4] (encSState a0)]) (aN) ?_
 refine Holds.seqJ (X := Unit) (fun v => (sl 54 [] [])) (fun v => r26_list_J1 = some r) ?_ ?_
 · refine Rg [.a] (sl 54 [(1, vL (eI .i64) a1), (2, vI a2), (3, vI a3), (4, vP [4] (0)), (9, vI (0 : Int))] [bx [4] (encSState a0)]) (aN) ?_
   refine Holds.block ?_
   obtain ⟨oB4, hiB4, h⟩ := bS h
   refine Holds.iter (fun (v : Int) => (sl 54 [(1, vL (eI .i64) a1), (2, vI a2), (3, vI a3), (4, vP [4] (0)), (9, vI v)] [bx [4] (encSState a0)])) hiB4 (lT) ?_
   rintro i_t9_3 zB4 hzB4 hoB4
   replace hzB4 : r26_list_B4 a0 a1 a2 a3 i_t9_3 = some zB4 := hzB4
   unfold r26_list_B4 at hzB4
   refine Holds.seq ?_
   refine Rg [.a, .a, .a, .a] (sl 54 [(1, vL (eI .i64) a1), (2, vI a2), (3, vI a3), (4, vP [4] (0)), (9, vI i_t9_3), (15, vB (decide (i_t9_3 < (a1.length : Int))))] [bx [4] (encSState a0)]) (aN) ?_
   refine iB hzB4 (fun b5 hzB4 => ?_) (fun b5 hzB4 => ?_)
   · refine Holds.skip ?_
     refine Tn ?_
     refine Holds.seq ?_
     refine Holds.block ?_
     refine Holds.seq ?_
     obtain ⟨e6, he6, hzB4⟩ := bS hzB4
     obtain ⟨r7, hr7, hzB4⟩ := bS hzB4
     refine Holds.regN [0, 1, 2, 4, 512, 513, 514, 516, 517, 518, 519, 526, 527, 542, 543, 575, 639, 767, 895, 1023, 2047, 4095, 1791, 515, 5, 6, 7, 14, 15, 30, 31, 63, 127, 255, 383, 511, 3] 4095 [.a, .a, .a, .a, (.v (vI e6)), (.c (.tup [vA encSObject r7.1, vB r7.2])), .a, .a, .a, .a, .a, .a] [[10], [4]] (fun n => ⟨[.undef, vL (eI .i64) a1, vI a2, vI a3, vP [4] (0), .undef, .undef, .undef, .undef, vI i_t9_3, cond (Nat.testBit n 9) (vP [10] (0)) (.undef), cond (Nat.testBit n 11) (vB r7.2) (.undef), .undef, .undef, .undef, vB (decide (i_t9_3 < (a1.length : Int))), .undef, .undef, cond (Nat.testBit n 6) (.tup [vA encSObject r7.1, vB r7.2]) (.undef), cond (Nat.testBit n 0) (vA encSState a0) (.undef), cond (Nat.testBit n 1) (vL (eI .i64) a1) (.undef), cond (Nat.testBit n 2) (vI i_t9_3) (.undef), cond (Nat.testBit n 3) (vX (eI .i64) a1 ((i_t9_3).toNat * 1)) (.undef), cond (Nat.testBit n 4) (vI e6) (.undef), cond (Nat.testBit n 5) (.tup [vA encSObject r7.1, vB r7.2]) (.undef), cond (Nat.testBit n 7) (vA encSObject r7.1) (.undef), cond (Nat.testBit n 8) (vB r7.2) (.undef), .undef, .undef, .undef, .undef, .undef, .undef, .undef, .undef, .undef, .undef, .undef, .undef, .undef, .undef, .undef, .undef, .undef, .undef, .undef, .undef, .undef, .undef, .undef, .undef, .undef, .undef, .undef], List.filterMap id [cond (Nat.testBit n 10) (some (bx [10] (encSObject r7.1))) (cond (Nat.testBit n 9) (some (bx [10] [.int .i64 (0 : Int), .int .i64 (0 : Int), .int .i64 (0 : Int), .int .i64 (0 : Int), .int .i64 (0 : Int), .bool false, .bool false, .bool false, .bool false, .int .i64 (0 : Int), .int .i64 (((⟨(0 : Int), (0 : Int), (0 : Int)⟩ : A3 (Int))).x0), .int .i64 (((⟨(0 : Int), (0 : Int), (0 : Int)⟩ : A3 (Int))).x1), .int .i64 (((⟨(0 : Int), (0 : Int), (0 : Int)⟩ : A3 (Int))).x2), .int .i64 (0 : Int), .int .i64 (0 : Int), .int .i64 (0 : Int), .bool false, .int .i64 (0 : Int), .int .i64 (0 : Int)])) ((none : Option Ent))), some (bx [4] (encSState a0))], [], []⟩) [[], [], [], [0 ≤ i_t9_3 ∧ i_t9_3 < (a1.length : Int)], [(i_t9_3).toNat * 1 + 1 ≤ (a1.flatMap (eI .i64)).length ∧ toV false ((i_t9_3).toNat * 1) 1 (a1.flatMap (eI .i64)) = vI e6, (vI e6 : V) = vI e6], [r26_object_C a0 e6 r7], [], [True ∧ 0 < [V.undef, V.undef].length], [True ∧ 1 < [V.undef, V.undef].length], [], [], []] followsP (by kernel_rfl) (by kernel_rfl) (by decide) (Less.t (by kernel_rfl)) (by kernel_rfl) ⟨trivial, trivial, trivial, ⟨(idx_b he6), trivial⟩, ⟨(eld he6 (lenI .i64) 0 1 false (vI e6)), rfl, trivial⟩, ⟨(r26_object_ok hr7), trivial⟩, trivial, ⟨⟨trivial, (by decide)⟩, trivial⟩, ⟨⟨trivial, (by decide)⟩, trivial⟩, trivial, trivial, trivial, trivial⟩ ?_
     refine Tn ?_
     refine Ls (sl 54 [(1, vL (eI .i64) a1), (2, vI a2), (3, vI a3), (4, vP [4] (0)), (9, vI i_t9_3), (10, vP [10] (0)), (11, vB r7.2)] [bx [10] (encSObject r7.1), bx [4] (encSState a0)]) ?_
     obtain ⟨b8, hb8, hzB4⟩ := bS hzB4
     obtain ⟨b9, hb9, hzB4⟩ := bS hzB4
     obtain ⟨e10, he10, hzB4⟩ := bS hzB4
     obtain ⟨r11, hr11, hzB4⟩ := bS hzB4
     obtain ⟨b12, hb12, hzB4⟩ := bS hzB4
     refine Rg [.a, .a, .a, .a, .a, .a, .a, (.v (vB b8)), .a, .a, .a, .a, .a, .a, .a, .a, (.v (vB b9)), .a, .a, .a, .a, .a, .a, (.v (vI e10)), (.c (vI r11)), .a, (.v (vB b12))] (sl 54 [(1, vL (eI .i64) a1), (2, vI a2), (3, vI a3), (4, vP [4] (0)), (9, vI i_t9_3), (53, vB b12)] [bx [4] (encSState a0)]) (aG ((!r7.2) == false) <| aH ((!r7.2) == false) <| aF (!r7.2) <| aB hb8 <| aG (b8 == false) <| aG (b8 == false) <| aG ((b8 == false) && ((decide ((0 : Int) ≤ a3)) == true)) <| aH ((b8 == false) && ((decide ((0 : Int) ≤ a3)) == true)) <| aC (fun hg : (b8 == false) = true => aC (gi (b8 == false)) <| aC (fun q : (decide ((0 : Int) ≤ a3)) = true => (gA hg (gT q))) <| aB hb9 <| aN) <| aF b8 <| aC (fun hg : ((if b8 = true then true else b9) == false) = true => aC (gi ((if b8 = true then true else b9) == false)) <| aC (gi ((if b8 = true then true else b9) == false)) <| aC (gidx_b he10 hg).1 <| aN) <| aC (fun hg : ((if b8 = true then true else b9) == false) = true => aC (gi ((if b8 = true then true else b9) == false)) <| aC (eld (gd_t he10 hg) (lenI .i64) 0 1 false (vI e10)) <| aC (Eq.refl (vI e10)) <| aN) <| aC (c2 hr11 r26_times_ok) <| aG ((if b8 = true then true else b9) == false) <| aF (if b8 = true then true else b9) <| aB hb12 <| aN) ?_
     refine iB hzB4 (fun b13 hzB4 => ?_) (fun b13 hzB4 => ?_)
     · refine Rg [.a] (sl 54 [(8, vB false)] []) (aN) ?_
       refine Holds.ret ?_
       refine blockQ.ret ?_
       refine Tr ?_
       have hoB4_ := hoB4 _ (sI hzB4).symm
       subst hoB4_
       replace h := sumL h
       refine Tr ?_
       refine blockQ.ret ?_
       refine Tr ?_
       exact bQ (vB false) (congrArg vB (sI h))
     · refine Holds.skip ?_
       refine blockQ.normal ?_
       refine Tn ?_
       refine Re [.a, .a, .a] (sl 54 [(1, vL (eI .i64) a1), (2, vI a2), (3, vI a3), (4, vP [4] (0)), (9, vI (wrap64 (i_t9_3 + (1 : Int)))), (16, vI i_t9_3), (17, vI (wrap64 (i_t9_3 + (1 : Int)))), (53, vB b12)] [bx [4] (encSState a0)]) (aN) ?_
       refine Tn ⟨(wrap64 (i_t9_3 + (1 : Int))), (sI hzB4).symm, lT⟩
   · refine Holds.exit ?_
     refine thenQ.exit ?_
     have hoB4_ := hoB4 _ (sI hzB4).symm
     subst hoB4_
     replace h := sumR h
     refine thenQ.exit ?_
     refine blockQ.out ?_
     refine Tn ⟨(), h, lT⟩
 · rintro _ hJ1
   replace hJ1 : r26_list_J1 = some r := hJ1
   unfold r26_list_J1 at hJ1
   refine Rg [.a] (sl 54 [(8, vB true)] []) (aN) ?_
   refine Holds.ret ?_
   exact bQ (vB true) (congrArg vB (sI hJ1))
def r26_objects_J2  : Option (Bool) :=
 some true
def r26_objects_B5 (a0 : List (SCard)) (a1 : SState) (vt5_4 : Int) : Option ((Int) ⊕ (Unit ⊕ Unit)) :=
 (if (decide (vt5_4 < (a1.Objects.length : Int))) = true then
  (idx a1.Objects vt5_4).bind fun e7 =>
  (r24_Is e7 (a0.length : Int) (a1.Players.length : Int)).bind fun r8 =>
  (some (if (!r8) = true then true else decide (a1.NextId ≤ e7.Id))).bind fun b9 =>
  (some (if b9 = true then true else decide (a1.NextStamp ≤ e7.Stamp))).bind fun b10 =>
  (gd ((b10 == false) && ((decide ((0 : Int) < vt5_4)) == true)) (idx a1.Objects (wrap64 (vt5_4 - (1 : Int))))).bind fun e11 =>
  (some (if (decide ((0 : Int) < vt5_4)) = true then decide (e7.Id ≤ e11.Id) else false)).bind fun b12 =>
  (some (if b10 = true then true else b12)).bind fun b13 =>
  (if b13 = true then
   some (.inr (.inl ()))
  else
   (r26_placed a1 e7).bind fun r15 =>
   (if (!r15) = true then
    some (.inr (.inl ()))
   else
    some (.inl (wrap64 (vt5_4 + (1 : Int))))))
 else
  some (.inr (.inr ())))
/-- cardgame/cardgameref26.objects -/
def r26_objects (a0 : List (SCard)) (a1 : SState) : Option (Bool) :=
 (if (decide ((2048 : Int) < (a1.Objects.length : Int))) = true then
  some false
 else
  (iter (fun (v : Int) => r26_objects_B5 a0 a1 v) FU (0 : Int)).bind (Sum.elim (fun o0 => some false) (fun o1 => r26_objects_J2)))
def r26_objects_C (a0 : List (SCard)) (a1 : SState) (r : Bool) : Prop := PCall Tryz.prog I0 40 [vL encSCard a0, vA encSState a1] (· = vB r)
theorem r26_objects_ok {a0 : List (SCard)} {a1 : SState} {r : Bool} (h : r26_objects a0 a1 = some r) : r26_objects_C a0 a1 r := by
 refine PCall.body I0_stable (by kernel_rfl) Tryz.func40 rfl Tryz.ntmps40 (rs := [.tmp 4]) rfl rfl ?_
 intro w0 av old gv
 unfold r26_objects at h
 refine Rg [.a, .a] (sl 65 [(0, vL encSCard a0), (3, vP [3] (0))] [bx [3] (encSState a1)]) (aN) ?_
 refine Holds.seq ?_
 refine Rg [.a, .a, .a, .a] (sl 65 [(0, vL encSCard a0), (3, vP [3] (0)), (10, vB (decide ((2048 : Int) < (a1.Objects.length : Int))))] [bx [3] (encSState a1)]) (aN) ?_
 refine iB h (fun b1 h => ?_) (fun b1 h => ?_)
 · refine Rg [.a] (sl 65 [(4, vB false)] []) (aN) ?_
   refine Holds.ret ?_
   refine Tr ?_
   exact bQ (vB false) (congrArg vB (sI h))
 · refine Holds.skip ?_
   refine Tn ?_
   refine Holds.seqJ (X := Unit) (fun v => (sl 65 [] [])) (fun v => r26_objects_J2 = some r) ?_ ?_
   · refine Rg [.a] (sl 65 [(0, vL encSCard a0), (3, vP [3] (0)), (5, vI (0 : Int))] [bx [3] (encSState a1)]) (aN) ?_
     refine Holds.block ?_
     obtain ⟨oB5, hiB5, h⟩ := bS h
     refine Holds.iter (fun (v : Int) => (sl 65 [(0, vL encSCard a0), (3, vP [3] (0)), (5, vI v)] [bx [3] (encSState a1)])) hiB5 (lT) ?_
     rintro vt5_4 zB5 hzB5 hoB5
     replace hzB5 : r26_objects_B5 a0 a1 vt5_4 = some zB5 := hzB5
     unfold r26_objects_B5 at hzB5
     refine Holds.seq ?_
     refine Rg [.a, .a, .a, .a, .a] (sl 65 [(0, vL encSCard a0), (3, vP [3] (0)), (5, vI vt5_4), (15, vB (decide (vt5_4 < (a1.Objects.length : Int))))] [bx [3] (encSState a1)]) (aN) ?_
     refine iB hzB5 (fun b6 hzB5 => ?_) (fun b6 hzB5 => ?_)
     · refine Holds.skip ?_
       refine Tn ?_
       refine Holds.seq ?_
       refine Holds.block ?_
       obtain ⟨e7, he7, hzB5⟩ := bS hzB5
       refine Rg [.a, .a, .a, .a, (.v (vA encSObject e7)), .a, .a] (sl 65 [(0, vL encSCard a0), (3, vP [3] (0)), (5, vI vt5_4), (6, vP [6] (0))] [bx [6] (encSObject e7), bx [3] (encSState a1)]) (aC (idx_b he7) <| aC (eld he7 lenSObject 0 19 true (vA encSObject e7)) <| aC (Eq.refl (vA encSObject e7)) <| aN) ?_
       refine Holds.seq ?_
       obtain ⟨r8, hr8, hzB5⟩ := bS hzB5
       obtain ⟨b9, hb9, hzB5⟩ := bS hzB5
       obtain ⟨b10, hb10, hzB5⟩ := bS hzB5
       obtain ⟨e11, he11, hzB5⟩ := bS hzB5
       obtain ⟨b12, hb12, hzB5⟩ := bS hzB5
       obtain ⟨b13, hb13, hzB5⟩ := bS hzB5
       refine Rq followsP [.a, .a, .a, .a, .a, .a, (.c (vB r8)), .a, .a, .a, .a, .a, .a, .a, (.v (vB b9)), .a, .a, .a, .a, .a, .a, (.v (vB b10)), .a, .a, .a, .a, .a, .a, .a, .a, .a, .a, (.v (vI e11.Id)), .a, .a, .a, (.v (vB b12)), (.v (vB b13))] (sl 65 [(0, vL encSCard a0), (3, vP [3] (0)), (5, vI vt5_4), (6, vP [6] (0)), (60, vB b13)] [bx [6] (encSObject e7), bx [3] (encSState a1)]) (aC (r24_Is_ok hr8) <| aG ((!r8) == false) <| aG ((!r8) == false) <| aH ((!r8) == false) <| aF (!r8) <| aB hb9 <| aG (b9 == false) <| aG (b9 == false) <| aH (b9 == false) <| aF b9 <| aB hb10 <| aG (b10 == false) <| aG (b10 == false) <| aG ((b10 == false) && ((decide ((0 : Int) < vt5_4)) == true)) <| aG ((b10 == false) && ((decide ((0 : Int) < vt5_4)) == true)) <| aC (fun hg : ((b10 == false) && ((decide ((0 : Int) < vt5_4)) == true)) = true => aC (gi ((b10 == false) && ((decide ((0 : Int) < vt5_4)) == true))) <| aC (gi ((b10 == false) && ((decide ((0 : Int) < vt5_4)) == true))) <| aC (gidx_b he11 hg).1 <| aN) <| aG ((b10 == false) && ((decide ((0 : Int) < vt5_4)) == true)) <| aC (fun hg : ((b10 == false) && ((decide ((0 : Int) < vt5_4)) == true)) = true => aC (gi ((b10 == false) && ((decide ((0 : Int) < vt5_4)) == true))) <| aC (eld (gd_t he11 hg) lenSObject 0 1 false (vI e11.Id)) <| aC (Eq.refl (vI e11.Id)) <| aN) <| aG ((b10 == false) && ((decide ((0 : Int) < vt5_4)) == true)) <| aH ((b10 == false) && ((decide ((0 : Int) < vt5_4)) == true)) <| aC (fun hg : (b10 == false) = true => aC (gi (b10 == false)) <| aC (fun q : (decide ((0 : Int) < vt5_4)) = true => (gA hg (gT q))) <| aB hb12 <| aN) <| aF b10 <| aB hb13 <| aN) ?_
       refine iB hzB5 (fun b14 hzB5 => ?_) (fun b14 hzB5 => ?_)
       · refine Rg [.a] (sl 65 [(4, vB false)] []) (aN) ?_
         refine Holds.ret ?_
         refine Tr ?_
         refine blockQ.ret ?_
         refine Tr ?_
         have hoB5_ := hoB5 _ (sI hzB5).symm
         subst hoB5_
         replace h := sumL h
         refine Tr ?_
         refine blockQ.ret ?_
         refine Tr ?_
         exact bQ (vB false) (congrArg vB (sI h))
       · refine Holds.skip ?_
         refine Tn ?_
         obtain ⟨r15, hr15, hzB5⟩ := bS hzB5
         refine Rg [.a, .a, (.c (vB r15)), .a] (sl 65 [(0, vL encSCard a0), (3, vP [3] (0)), (5, vI vt5_4), (64, vB (!r15))] [bx [3] (encSState a1)]) (aC (r26_placed_ok hr15) <| aN) ?_
         refine iB hzB5 (fun b16 hzB5 => ?_) (fun b16 hzB5 => ?_)
         · refine Rg [.a] (sl 65 [(4, vB false)] []) (aN) ?_
           refine Holds.ret ?_
           refine blockQ.ret ?_
           refine Tr ?_
           have hoB5_ := hoB5 _ (sI hzB5).symm
           subst hoB5_
           replace h := sumL h
           refine Tr ?_
           refine blockQ.ret ?_
           refine Tr ?_
           exact bQ (vB false) (congrArg vB (sI h))
         · refine Holds.skip ?_
           refine blockQ.normal ?_
           refine Tn ?_
           refine Re [.a, .a, .a] (sl 65 [(0, vL encSCard a0), (3, vP [3] (0)), (5, vI (wrap64 (vt5_4 + (1 : Int)))), (16, vI vt5_4), (17, vI (wrap64 (vt5_4 + (1 : Int)))), (64, vB (!r15))] [bx [3] (encSState a1)]) (aN) ?_
           refine Tn ⟨(wrap64 (vt5_4 + (1 : Int))), (sI hzB5).symm, lT⟩
     · refine Holds.exit ?_
       refine thenQ.exit ?_
       have hoB5_ := hoB5 _ (sI hzB5).symm
       subst hoB5_
       replace h := sumR h
       refine thenQ.exit ?_
       refine blockQ.out ?_
       refine Tn ⟨(), h, lT⟩
   · rintro _ hJ2
     replace hJ2 : r26_objects_J2 = some r := hJ2
     unfold r26_objects_J2 at hJ2
     refine Rg [.a] (sl 65 [(4, vB true)] []) (aN) ?_
     refine Holds.ret ?_
     exact bQ (vB true) (congrArg vB (sI hJ2))
def r20_Same_J2 (a0 : SAbility) (a1 : SAbility) : Option (Bool) :=
 (some (if (a0.Kind == a1.Kind) = true then a0.Filter == a1.Filter else false)).bind fun b3 =>
 (gd (b3 == true) (r17_SameMods a0.Mods a1.Mods)).bind fun r4 =>
 (some (if b3 = true then r4 else false)).bind fun b5 =>
 (some (if b5 = true then a0.Price == a1.Price else false)).bind fun b6 =>
 (some (if b6 = true then a0.Slow == a1.Slow else false)).bind fun b7 =>
 (some (if b7 = true then a0.Trigger == a1.Trigger else false)).bind fun b8 =>
 (some (if b8 = true then a0.May == a1.May else false)).bind fun b9 =>
 (gd (b9 == true) (r17_SameList a0.Effects a1.Effects)).bind fun r10 =>
 (some (if b9 = true then r10 else false)).bind fun b11 =>
 (some (if b11 = true then a0.Replace == a1.Replace else false)).bind fun b12 =>
 some b12
def r20_Same_B15 (a0 : SAbility) (a1 : SAbility) (vt5_14 : Int) : Option ((Int) ⊕ (Unit ⊕ Unit)) :=
 (if (decide (vt5_14 < (a0.Specs.length : Int))) = true then
  (idx a0.Specs vt5_14).bind fun e17 =>
  (idx a1.Specs vt5_14).bind fun e18 =>
  (if (!(e17 == e18)) = true then
   some (.inr (.inl ()))
  else
   some (.inl (wrap64 (vt5_14 + (1 : Int)))))
 else
  some (.inr (.inr ())))
/-- cardgame/cardgameref20.Same -/
def r20_Same (a0 : SAbility) (a1 : SAbility) : Option (Bool) :=
 (if ((a0.Specs.length : Int) != (a1.Specs.length : Int)) = true then
  some false
 else
  (iter (fun (v : Int) => r20_Same_B15 a0 a1 v) FU (0 : Int)).bind (Sum.elim (fun o0 => some false) (fun o1 => r20_Same_J2 a0 a1)))
def r20_Same_C (a0 : SAbility) (a1 : SAbility) (r : Bool) : Prop := PCall Tryz.prog I0 103 [vA encSAbility a0, vA encSAbility a1] (· = vB r)
theorem r20_Same_ok {a0 : SAbility} {a1 : SAbility} {r : Bool} (h : r20_Same a0 a1 = some r) : r20_Same_C a0 a1 r := by
 refine PCall.body I0_stable (by kernel_rfl) Tryz.func103 rfl Tryz.ntmps103 (rs := [.tmp 4]) rfl rfl ?_
 intro w0 av old gv
 unfold r20_Same at h
 refine Rg [.a, .a, .a] (sl 92 [(2, vP [2] (0)), (3, vP [3] (0))] [bx [3] (encSAbility a1), bx [2] (encSAbility a0)]) (aN) ?_
 refine Holds.seq ?_
 refine Rg [.a, .a, .a, .a, .a, .a, .a] (sl 92 [(2, vP [2] (0)), (3, vP [3] (0)), (12, vB ((a0.Specs.length : Int) != (a1.Specs.length : Int)))] [bx [3] (encSAbility a1), bx [2] (encSAbility a0)]) (aN) ?_
 refine iB h (fun b1 h => ?_) (fun b1 h => ?_)
 · refine Rg [.a] (sl 92 [(4, vB false)] []) (aN) ?_
   refine Holds.ret ?_
   refine Tr ?_
   exact bQ (vB false) (congrArg vB (sI h))
 · refine Holds.skip ?_
   refine Tn ?_
   refine Holds.seqJ (X := Unit) (fun v => (sl 92 [(2, vP [2] (0)), (3, vP [3] (0))] [bx [3] (encSAbility a1), bx [2] (encSAbility a0)])) (fun v => r20_Same_J2 a0 a1 = some r) ?_ ?_
   · refine Rg [.a] (sl 92 [(2, vP [2] (0)), (3, vP [3] (0)), (5, vI (0 : Int))] [bx [3] (encSAbility a1), bx [2] (encSAbility a0)]) (aN) ?_
     refine Holds.block ?_
     obtain ⟨oB15, hiB15, h⟩ := bS h
     refine Holds.iter (fun (v : Int) => (sl 92 [(2, vP [2] (0)), (3, vP [3] (0)), (5, vI v)] [bx [3] (encSAbility a1), bx [2] (encSAbility a0)])) hiB15 (lT) ?_
     rintro vt5_14 zB15 hzB15 hoB15
     replace hzB15 : r20_Same_B15 a0 a1 vt5_14 = some zB15 := hzB15
     unfold r20_Same_B15 at hzB15
     refine Holds.seq ?_
     refine Rg [.a, .a, .a, .a, .a] (sl 92 [(2, vP [2] (0)), (3, vP [3] (0)), (5, vI vt5_14), (17, vB (decide (vt5_14 < (a0.Specs.length : Int))))] [bx [3] (encSAbility a1), bx [2] (encSAbility a0)]) (aN) ?_
     refine iB hzB15 (fun b16 hzB15 => ?_) (fun b16 hzB15 => ?_)
     · refine Holds.skip ?_
       refine Tn ?_
       refine Holds.seq ?_
       refine Holds.block ?_
       obtain ⟨e17, he17, hzB15⟩ := bS hzB15
       obtain ⟨e18, he18, hzB15⟩ := bS hzB15
       refine Rq followsP [.a, .a, .a, .a, (.v (vA encSSpec e17)), .a, .a, .a, .a, (.v (vA encSSpec e18)), (.v (vB (!(e17 == e18))))] (sl 92 [(2, vP [2] (0)), (3, vP [3] (0)), (5, vI vt5_14), (30, vB (!(e17 == e18)))] [bx [3] (encSAbility a1), bx [2] (encSAbility a0)]) (aC (idx_b he17) <| aC (eld he17 lenSSpec 0 18 true (vA encSSpec e17)) <| aC (Eq.refl (vA encSSpec e17)) <| aC (idx_b he18) <| aC (eld he18 lenSSpec 0 18 true (vA encSSpec e18)) <| aC (Eq.refl (vA encSSpec e18)) <| aC (congrArg (fun z => V.c (.bool (!z))) (eqT192 e17 e18)) <| aN) ?_
       refine iB hzB15 (fun b19 hzB15 => ?_) (fun b19 hzB15 => ?_)
       · refine Rg [.a] (sl 92 [(4, vB false)] []) (aN) ?_
         refine Holds.ret ?_
         refine blockQ.ret ?_
         refine Tr ?_
         have hoB15_ := hoB15 _ (sI hzB15).symm
         subst hoB15_
         replace h := sumL h
         refine Tr ?_
         refine blockQ.ret ?_
         refine Tr ?_
         exact bQ (vB false) (congrArg vB (sI h))
       · refine Holds.skip ?_
         refine blockQ.normal ?_
         refine Tn ?_
         refine Re [.a, .a, .a] (sl 92 [(2, vP [2] (0)), (3, vP [3] (0)), (5, vI (wrap64 (vt5_14 + (1 : Int)))), (18, vI vt5_14), (19, vI (wrap64 (vt5_14 + (1 : Int)))), (30, vB (!(e17 == e18)))] [bx [3] (encSAbility a1), bx [2] (encSAbility a0)]) (aN) ?_
         refine Tn ⟨(wrap64 (vt5_14 + (1 : Int))), (sI hzB15).symm, lT⟩
     · refine Holds.exit ?_
       refine thenQ.exit ?_
       have hoB15_ := hoB15 _ (sI hzB15).symm
       subst hoB15_
       replace h := sumR h
       refine thenQ.exit ?_
       refine blockQ.out ?_
       refine Tn ⟨(), h, lT⟩
   · rintro _ hJ2
     replace hJ2 : r20_Same_J2 a0 a1 = some r := hJ2
     unfold r20_Same_J2 at hJ2
     obtain ⟨b3, hb3, hJ2⟩ := bS hJ2
     obtain ⟨r4, hr4, hJ2⟩ := bS hJ2
     obtain ⟨b5, hb5, hJ2⟩ := bS hJ2
     obtain ⟨b6, hb6, hJ2⟩ := bS hJ2
     obtain ⟨b7, hb7, hJ2⟩ := bS hJ2
     obtain ⟨b8, hb8, hJ2⟩ := bS hJ2
     obtain ⟨b9, hb9, hJ2⟩ := bS hJ2
     obtain ⟨r10, hr10, hJ2⟩ := bS hJ2
     obtain ⟨b11, hb11, hJ2⟩ := bS hJ2
     obtain ⟨b12, hb12, hJ2⟩ := bS hJ2
     refine Rg [.a, .a, .a, .a, .a, .a, .a, .a, .a, .a, (.v (vB (a0.Filter == a1.Filter))), (.v (vB b3)), .a, .a, .a, .a, .a, (.c (vB r4)), (.v (vB b5)), .a, .a, .a, .a, .a, (.v (vB (a0.Price == a1.Price))), (.v (vB b6)), .a, .a, .a, .a, .a, .a, (.v (vB b7)), .a, .a, .a, .a, .a, (.v (vB (a0.Trigger == a1.Trigger))), (.v (vB b8)), .a, .a, .a, .a, .a, .a, (.v (vB b9)), .a, .a, .a, .a, .a, (.c (vB r10)), (.v (vB b11)), .a, .a, .a, .a, .a, (.v (vB (a0.Replace == a1.Replace))), (.v (vB b12)), .a] (sl 92 [(4, vB b12)] []) (aG ((a0.Kind == a1.Kind) == true) <| aG ((a0.Kind == a1.Kind) == true) <| aC (fun hg : ((a0.Kind == a1.Kind) == true) = true => aC (gi ((a0.Kind == a1.Kind) == true)) <| aC (gi ((a0.Kind == a1.Kind) == true)) <| aC (congrArg (fun z => V.c (.bool (z))) (eqT95 a0.Filter a1.Filter)) <| aN) <| aT (a0.Kind == a1.Kind) <| aB hb3 <| aG (b3 == true) <| aG (b3 == true) <| aC (c2 hr4 r17_SameMods_ok) <| aT b3 <| aB hb5 <| aG (b5 == true) <| aG (b5 == true) <| aC (fun hg : (b5 == true) = true => aC (gi (b5 == true)) <| aC (gi (b5 == true)) <| aC (congrArg (fun z => V.c (.bool (z))) (eqT107 a0.Price a1.Price)) <| aN) <| aT b5 <| aB hb6 <| aG (b6 == true) <| aG (b6 == true) <| aC (fun hg : (b6 == true) = true => aC (gi (b6 == true)) <| aC (gi (b6 == true)) <| aC isb4 <| aN) <| aT b6 <| aB hb7 <| aG (b7 == true) <| aG (b7 == true) <| aC (fun hg : (b7 == true) = true => aC (gi (b7 == true)) <| aC (gi (b7 == true)) <| aC (congrArg (fun z => V.c (.bool (z))) (eqT109 a0.Trigger a1.Trigger)) <| aN) <| aT b7 <| aB hb8 <| aG (b8 == true) <| aG (b8 == true) <| aC (fun hg : (b8 == true) = true => aC (gi (b8 == true)) <| aC (gi (b8 == true)) <| aC isb4 <| aN) <| aT b8 <| aB hb9 <| aG (b9 == true) <| aG (b9 == true) <| aC (c2 hr10 r17_SameList_ok) <| aT b9 <| aB hb11 <| aG (b11 == true) <| aG (b11 == true) <| aC (fun hg : (b11 == true) = true => aC (gi (b11 == true)) <| aC (gi (b11 == true)) <| aC (congrArg (fun z => V.c (.bool (z))) (eqT113 a0.Replace a1.Replace)) <| aN) <| aT b11 <| aB hb12 <| aN) ?_
     refine Holds.ret ?_
     exact bQ (vB b12) (congrArg vB (sI hJ2))
/-- cardgame/event.hurts -/
def event_hurts (a0 : SState) (a1 : SEvent) : Option (Bool) :=
 (event_amount a1).bind fun r1 =>
 (if (!r1) = true then
  some false
 else
  (if (a1.Object == (0 : Int)) = true then
   (event_living a0 a1.Player).bind fun r4 =>
   some r4
  else
   (event_fielded a0 a1.Object).bind fun r5 =>
   some r5.2))
def event_hurts_C (a0 : SState) (a1 : SEvent) (r : Bool) : Prop := PCall Tryz.prog I0 20 [vA encSState a0, vA encSEvent a1] (· = vB r)
theorem event_hurts_ok {a0 : SState} {a1 : SEvent} {r : Bool} (h : event_hurts a0 a1 = some r) : event_hurts_C a0 a1 r := by
 refine PCall.body I0_stable (by kernel_rfl) Tryz.func20 rfl Tryz.ntmps20 (rs := [.tmp 4]) rfl rfl ?_
 intro w0 av old gv
 unfold event_hurts at h
 refine Rg [.a, .a, .a] (sl 25 [(2, vP [2] (0)), (3, vP [3] (0))] [bx [3] (encSEvent a1), bx [2] (encSState a0)]) (aN) ?_
 refine Holds.seq ?_
 obtain ⟨r1, hr1, h⟩ := bS h
 refine Rg [.a, (.c (vB r1)), .a] (sl 25 [(2, vP [2] (0)), (3, vP [3] (0)), (9, vB (!r1))] [bx [3] (encSEvent a1), bx [2] (encSState a0)]) (aC (event_amount_ok hr1) <| aN) ?_
 refine iB h (fun b2 h => ?_) (fun b2 h => ?_)
 · refine Rg [.a] (sl 25 [(4, vB false)] []) (aN) ?_
   refine Holds.ret ?_
   refine Tr ?_
   exact bQ (vB false) (congrArg vB (sI h))
 · refine Holds.skip ?_
   refine Tn ?_
   refine Holds.seq ?_
   refine Rg [.a, .a, .a] (sl 25 [(2, vP [2] (0)), (3, vP [3] (0)), (12, vB (a1.Object == (0 : Int)))] [bx [3] (encSEvent a1), bx [2] (encSState a0)]) (aN) ?_
   refine iB h (fun b3 h => ?_) (fun b3 h => ?_)
   · obtain ⟨r4, hr4, h⟩ := bS h
     refine Rg [.a, .a, .a, (.c (vB r4)), .a] (sl 25 [(4, vB r4)] []) (aC (event_living_ok hr4) <| aN) ?_
     refine Holds.ret ?_
     refine Tr ?_
     exact bQ (vB r4) (congrArg vB (sI h))
   · refine Holds.skip ?_
     refine Tn ?_
     obtain ⟨r5, hr5, h⟩ := bS h
     refine Rg [.a, .a, .a, (.c (.tup [vA encSObject r5.1, vB r5.2])), .a, .a, .a, .a, .a, .a] (sl 25 [(6, vB r5.2)] []) (aC (event_fielded_ok hr5) <| aC (show True ∧ 0 < [V.undef, V.undef].length from ⟨trivial, (by decide)⟩) <| aC (show True ∧ 1 < [V.undef, V.undef].length from ⟨trivial, (by decide)⟩) <| aN) ?_
     refine Rg [.a, .a] (sl 25 [(4, vB r5.2)] []) (aN) ?_
     refine Holds.ret ?_
     exact bQ (vB r5.2) (congrArg vB (sI h))
/-- cardgame/event.counts -/
def event_counts (a0 : SState) (a1 : SEvent) : Option (Bool) :=
 (event_fielded a0 a1.Object).bind fun r1 =>
 (some (if r1.2 = true then decide ((0 : Int) ≤ a1.Counter) else false)).bind fun b2 =>
 (some (if b2 = true then decide (a1.Counter < (3 : Int)) else false)).bind fun b3 =>
 (gd (b3 == true) (event_amount a1)).bind fun r4 =>
 (some (if b3 = true then r4 else false)).bind fun b5 =>
 some b5
def event_counts_C (a0 : SState) (a1 : SEvent) (r : Bool) : Prop := PCall Tryz.prog I0 24 [vA encSState a0, vA encSEvent a1] (· = vB r)
theorem event_counts_ok {a0 : SState} {a1 : SEvent} {r : Bool} (h : event_counts a0 a1 = some r) : event_counts_C a0 a1 r := by
 refine PCall.body I0_stable (by kernel_rfl) Tryz.func24 rfl Tryz.ntmps24 (rs := [.tmp 4]) rfl rfl ?_
 intro w0 av old gv
 unfold event_counts at h
 refine Rg [.a, .a, .a] (sl 29 [(2, vP [2] (0)), (3, vP [3] (0))] [bx [3] (encSEvent a1), bx [2] (encSState a0)]) (aN) ?_
 obtain ⟨r1, hr1, h⟩ := bS h
 refine Rg [.a, .a, .a, (.c (.tup [vA encSObject r1.1, vB r1.2])), .a, .a, .a, .a, .a, .a] (sl 29 [(3, vP [3] (0)), (6, vB r1.2)] [bx [3] (encSEvent a1)]) (aC (event_fielded_ok hr1) <| aC (show True ∧ 0 < [V.undef, V.undef].length from ⟨trivial, (by decide)⟩) <| aC (show True ∧ 1 < [V.undef, V.undef].length from ⟨trivial, (by decide)⟩) <| aN) ?_
 obtain ⟨b2, hb2, h⟩ := bS h
 obtain ⟨b3, hb3, h⟩ := bS h
 obtain ⟨r4, hr4, h⟩ := bS h
 obtain ⟨b5, hb5, h⟩ := bS h
 refine Rg [.a, .a, .a, .a, .a, (.v (vB b2)), .a, .a, .a, .a, (.v (vB b3)), .a, .a, (.c (vB r4)), (.v (vB b5)), .a] (sl 29 [(4, vB b5)] []) (aG (r1.2 == true) <| aG (r1.2 == true) <| aT r1.2 <| aB hb2 <| aG (b2 == true) <| aG (b2 == true) <| aT b2 <| aB hb3 <| aC (c1 hr4 event_amount_ok) <| aT b3 <| aB hb5 <| aN) ?_
 refine Holds.ret ?_
 exact bQ (vB b5) (congrArg vB (sI h))
def r32_Is_J28 (a0 : List (SCard)) (a1 : SState) (a2 : SEvent) (r1 : SObject × Bool) (b2 : Bool) (r3 : Bool) (vt117_27 : Bool) : Option (Bool) :=
 (if vt117_27 = true then
  (some (if b2 = true then decide ((0 : Int) ≤ a2.Counter) else false)).bind fun b30 =>
  (some (if b30 = true then decide (a2.Counter < (3 : Int)) else false)).bind fun b31 =>
  (gd (b31 == true) (r32_amount a2.Amount)).bind fun r32 =>
  (some (if b31 = true then r32 else false)).bind fun b33 =>
  some b33
 else
  (if (a2.Kind == (10 : Int)) = true then
   (some (if r3 = true then decide ((0 : Int) ≤ a2.Card) else false)).bind fun b35 =>
   (some (if b35 = true then decide (a2.Card < (a0.length : Int)) else false)).bind fun b36 =>
   (gd (b36 == true) (idx a0 a2.Card)).bind fun e37 =>
   (some (if b36 = true then e37.Token else false)).bind fun b38 =>
   (gd (b38 == true) (r32_amount a2.Amount)).bind fun r39 =>
   (some (if b38 = true then r39 else false)).bind fun b40 =>
   some b40
  else
   (if (a2.Kind == (11 : Int)) = true then
    (some (if r1.2 = true then r1.1.Zone == (5 : Int) else false)).bind fun b42 =>
    (some (if b42 = true then r3 else false)).bind fun b43 =>
    some b43
   else
    (if (a2.Kind == (12 : Int)) = true then
     (some (if b2 = true then r3 else false)).bind fun b45 =>
     some b45
    else
     (if (a2.Kind == (13 : Int)) = true then
      (gd (b2 == true) (r32_in a1 a2.Source (0 : Int))).bind fun r47 =>
      (some (if b2 = true then r47 else false)).bind fun b48 =>
      some b48
     else
      some false)))))
end Go.PL
