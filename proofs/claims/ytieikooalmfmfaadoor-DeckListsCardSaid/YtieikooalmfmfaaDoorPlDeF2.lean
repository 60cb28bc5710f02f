/- Functions of the program, as partial functions in Lean, with proofs. -/
import Derived.Test.YtieikooalmfmfaaDoorPlDeB
import Derived.Test.YtieikooalmfmfaaDoorPlDeF1
namespace Go.PL
open Go Go.RowKit Go.Proofs
set_option maxRecDepth 100000
set_option linter.all false
set_option maxHeartbeats 1000000
attribute [local irreducible] Holds thenQ blockQ
/-- strings.Cut -/
def strings_Cut (a0 : List UInt8) (a1 : List UInt8) : Option ((List UInt8) × (List UInt8) × Bool) :=
 (internal_stringslite_Cut a0 a1).bind fun r1 =>
 some (r1.1, r1.2.1, r1.2.2)
def strings_Cut_C (a0 : List UInt8) (a1 : List UInt8) (r : (List UInt8) × (List UInt8) × Bool) : Prop := PCall Tryd.prog I0 59 [vS a0, vS a1] (· = .tup [vS r.1, vS r.2.1, vB r.2.2])
theorem strings_Cut_ok {a0 : List UInt8} {a1 : List UInt8} {r : (List UInt8) × (List UInt8) × Bool} (h : strings_Cut a0 a1 = some r) : strings_Cut_C a0 a1 r := by
 refine PCall.body I0_stable (by kernel_rfl) Tryd.func59 rfl Tryd.ntmps59 (rs := [.tmp 4, .tmp 5, .tmp 6]) rfl rfl ?_
 intro w0 av old gv
 unfold strings_Cut at h
 refine Rg [.a, .a, .a] (sl 13 [(0, vS a0), (1, vS a1)] []) (aN) ?_
 obtain ⟨r1, hr1, h⟩ := bS h
 refine Rg [.a, .a, (.c (.tup [vS r1.1, vS r1.2.1, vB r1.2.2])), .a, .a, .a, .a, .a, .a] (sl 13 [(4, vS r1.1), (5, vS r1.2.1), (6, vB r1.2.2)] []) (aC (internal_stringslite_Cut_ok hr1) <| aC (show True ∧ 0 < [V.undef, V.undef, V.undef].length from ⟨trivial, (by decide)⟩) <| aC (show True ∧ 1 < [V.undef, V.undef, V.undef].length from ⟨trivial, (by decide)⟩) <| aC (show True ∧ 2 < [V.undef, V.undef, V.undef].length from ⟨trivial, (by decide)⟩) <| aN) ?_
 refine Holds.ret ?_
 exact bQ (.tup [vS r1.1, vS r1.2.1, vB r1.2.2]) (congrArg (fun (q : (List UInt8) × (List UInt8) × Bool) => (.tup [vS q.1, vS q.2.1, vB q.2.2] : V)) (sI h))
def num_Number (a0 : List UInt8) : Option (Int × Bool) := match dAtoiV a0 with
  | some _ => num_NumberV a0
  | none => num_NumberB a0
def num_Number_C (a0 : List UInt8) (r : Int × Bool) : Prop := PCall Tryd.prog I0 55 [vS a0] (· = .tup [vI r.1, vB r.2])
theorem num_Number_ok {a0 : List UInt8} {r : Int × Bool} (h : num_Number a0 = some r) : num_Number_C a0 r := by
  unfold num_Number at h
  split at h
  · exact num_NumberV_ok h
  · exact num_NumberB_ok h

def deck_Size_J2  (b3_1 : Int) : Option (Int) :=
 some b3_1
def deck_Size_B8 (a0 : SDeck) (vt11_5 : Int) (b3_6 : Int) : Option ((Int × Int) ⊕ (Int)) :=
 (if (decide (vt11_5 < (a0.Counts.length : Int))) = true then
  (idx a0.Counts vt11_5).bind fun e10 =>
  (num_Add b3_6 (if (0 : Int) < e10 then e10 else (0 : Int))).bind fun r11 =>
  some (.inl ((wrap64 (vt11_5 + (1 : Int))), r11))
 else
  some (.inr b3_6))
/-- cardgame/deck.Size -/
def deck_Size (a0 : SDeck) : Option (Int) :=
 (iter (fun (v : Int × Int) => deck_Size_B8 a0 v.1 v.2) FU ((0 : Int), (0 : Int))).bind (fun o0 => deck_Size_J2 o0)
def deck_Size_C (a0 : SDeck) (r : Int) : Prop := PCall Tryd.prog I0 11 [vA encSDeck a0] (· = vI r)
theorem deck_Size_ok {a0 : SDeck} {r : Int} (h : deck_Size a0 = some r) : deck_Size_C a0 r := by
 refine PCall.body I0_stable (by kernel_rfl) Tryd.func11 rfl Tryd.ntmps11 (rs := [.tmp 2]) rfl rfl ?_
 intro w0 av old gv
 unfold deck_Size at h
 refine Rg [.a, .a] (sl 20 [(1, vP [1] (0))] [bx [1] (encSDeck a0)]) (aN) ?_
 refine Rg [.a, .a] (sl 20 [(1, vP [1] (0)), (3, vP [3] (0))] [bx [3] [.int .i64 (0 : Int)], bx [1] (encSDeck a0)]) (aN) ?_
 refine Rg [.a, .a] (sl 20 [(1, vP [1] (0)), (3, vP [3] (0)), (4, .c (.clo 43 [.ptr [3] (0)]))] [bx [3] [.int .i64 (0 : Int)], bx [1] (encSDeck a0)]) (aC (show True ∧ True from ⟨trivial, trivial⟩) <| aN) ?_
 refine Sj (X := Int) (fun v => (sl 20 [(3, vP [3] (0))] [bx [3] [.int .i64 v]])) (fun v => deck_Size_J2 v = some r) ?_ ?_
 · refine Rg [.a, .a, .a, .a] (sl 20 [(3, vP [3] (0)), (4, .c (.clo 43 [.ptr [3] (0)])), (9, vL (eI .i64) a0.Counts), (10, vI (a0.Counts.length : Int)), (11, vI (0 : Int))] [bx [3] [.int .i64 (0 : Int)]]) (aN) ?_
   refine Holds.block ?_
   obtain ⟨oB8, hiB8, h⟩ := bS h
   refine It (fun (v : Int × Int) => (sl 20 [(3, vP [3] (0)), (4, .c (.clo 43 [.ptr [3] (0)])), (9, vL (eI .i64) a0.Counts), (10, vI (a0.Counts.length : Int)), (11, vI v.1)] [bx [3] [.int .i64 v.2]])) hiB8 (wT) ?_
   rintro ⟨vt11_5, b3_6⟩ zB8 hzB8 hoB8
   replace hzB8 : deck_Size_B8 a0 vt11_5 b3_6 = some zB8 := hzB8
   unfold deck_Size_B8 at hzB8
   refine Rg [.a] (sl 20 [(3, vP [3] (0)), (4, .c (.clo 43 [.ptr [3] (0)])), (9, vL (eI .i64) a0.Counts), (10, vI (a0.Counts.length : Int)), (11, vI vt11_5), (12, vB (decide (vt11_5 < (a0.Counts.length : Int))))] [bx [3] [.int .i64 b3_6]]) (aN) ?_
   refine Holds.seq ?_
   refine iB hzB8 (fun b9 hzB8 => ?_) (fun b9 hzB8 => ?_)
   · refine Holds.skip ?_
     refine Tn ?_
     refine Holds.seq ?_
     refine Holds.block ?_
     obtain ⟨e10, he10, hzB8⟩ := bS hzB8
     refine Rg [.a, (.v (vI e10)), .a] (sl 20 [(3, vP [3] (0)), (4, .c (.clo 43 [.ptr [3] (0)])), (6, vI e10), (9, vL (eI .i64) a0.Counts), (10, vI (a0.Counts.length : Int)), (11, vI vt11_5)] [bx [3] [.int .i64 b3_6]]) (aC (idx_b he10) <| aC (eld he10 (lenI .i64) 0 1 false (vI e10)) <| aC (Eq.refl (vI e10)) <| aN) ?_
     refine Holds.region ?_
     refine Rp 2 [.a, .a] (sl 20 [(3, vP [3] (0)), (4, .c (.clo 43 [.ptr [3] (0)])), (6, vI e10), (9, vL (eI .i64) a0.Counts), (10, vI (a0.Counts.length : Int)), (11, vI vt11_5), (15, .c (.clo 43 [.ptr [3] (0)])), (16, vI e10)] [bx [3] [.int .i64 b3_6]]) (aN) ?_
     refine Run.inl rfl rfl (Esc.inline (s := True ∧ True) (vs := [vI e10]) (cs := [.ptr [3] (0)]) 17 rfl rfl rfl (by kernel_rfl) ⟨trivial, trivial⟩ (by kernel_rfl) (by kernel_rfl) Tryd.func43 rfl Tryd.ntmps43 (rs := []) rfl ?_)
     intro w010 av10 old10 gv10
     refine At (sg 7 [(0, vI e10), (1, vP [3] (0))] [bx [3] [.int .i64 b3_6]] 20 [(3, vP [3] (0)), (4, .c (.clo 43 [.ptr [3] (0)])), (6, vI e10), (9, vL (eI .i64) a0.Counts), (10, vI (a0.Counts.length : Int)), (11, vI vt11_5), (15, .c (.clo 43 [.ptr [3] (0)])), (16, vI e10)] [17]) ?_
     obtain ⟨r11, hr11, hzB8⟩ := bS hzB8
     refine Re [.a, .a, .a, (.c (vI r11)), .a] (sg 7 [(0, vI e10), (1, vP [3] (0)), (3, vI b3_6), (4, vI e10), (5, vI (if (0 : Int) < e10 then e10 else (0 : Int))), (6, vI r11)] [bx [3] [.int .i64 r11]] 20 [(3, vP [3] (0)), (4, .c (.clo 43 [.ptr [3] (0)])), (6, vI e10), (9, vL (eI .i64) a0.Counts), (10, vI (a0.Counts.length : Int)), (11, vI vt11_5), (15, .c (.clo 43 [.ptr [3] (0)])), (16, vI e10)] [17]) (aC (show (True ∧ (True ∧ True)) ∧ True from ⟨⟨trivial, ⟨trivial, trivial⟩⟩, trivial⟩) <| aC (num_Add_ok hr11) <| aN) ?_
     refine inQ.normal (v := .tup []) (by kernel_rfl) ?_
     refine Rw [] (sl 20 [(3, vP [3] (0)), (4, .c (.clo 43 [.ptr [3] (0)])), (6, vI e10), (9, vL (eI .i64) a0.Counts), (10, vI (a0.Counts.length : Int)), (11, vI vt11_5), (15, .c (.clo 43 [.ptr [3] (0)])), (16, vI e10), (17, .tup [])] [bx [3] [.int .i64 r11]]) (aN) ?_
     refine blockQ.normal ?_
     refine Tn ?_
     refine Re [.a, .a] (sl 20 [(3, vP [3] (0)), (4, .c (.clo 43 [.ptr [3] (0)])), (6, vI e10), (9, vL (eI .i64) a0.Counts), (10, vI (a0.Counts.length : Int)), (11, vI (wrap64 (vt11_5 + (1 : Int)))), (15, .c (.clo 43 [.ptr [3] (0)])), (16, vI e10), (17, .tup []), (18, vI (wrap64 (vt11_5 + (1 : Int))))] [bx [3] [.int .i64 r11]]) (aN) ?_
     refine Tn ⟨((wrap64 (vt11_5 + (1 : Int))), r11), (sI hzB8).symm, wT⟩
   · refine Holds.exit ?_
     refine thenQ.exit ?_
     have hoB8_ := hoB8 _ (sI hzB8).symm
     subst hoB8_
     refine thenQ.exit ?_
     refine blockQ.out ?_
     refine Tn ⟨b3_6, h, wT⟩
 · rintro b3_1 hJ2
   replace hJ2 : deck_Size_J2 b3_1 = some r := hJ2
   unfold deck_Size_J2 at hJ2
   refine Rg [.a, .a] (sl 20 [(2, vI b3_1)] []) (aN) ?_
   refine Holds.ret ?_
   exact bQ (vI b3_1) (congrArg vI (sI hJ2))
def r23_Size_J2  (n_t3_1 : Int) : Option (Int) :=
 some n_t3_1
def r23_Size_J11 (i_t4_6 : Int) (n_t3_10 : Int) : Option ((Int × Int) ⊕ (Int)) :=
 some (.inl (n_t3_10, (wrap64 (i_t4_6 + (1 : Int)))))
def r23_Size_B8 (a0 : SDeck) (n_t3_5 : Int) (i_t4_6 : Int) : Option ((Int × Int) ⊕ (Int)) :=
 (if (decide (i_t4_6 < (a0.Counts.length : Int))) = true then
  (idx a0.Counts i_t4_6).bind fun e12 =>
  (if (decide ((0 : Int) < e12)) = true then
   (idx a0.Counts i_t4_6).bind fun e14 =>
   (r01_Add n_t3_5 e14).bind fun r15 =>
   r23_Size_J11 i_t4_6 r15
  else
   r23_Size_J11 i_t4_6 n_t3_5)
 else
  some (.inr n_t3_5))
/-- cardgame/cardgameref23.Size -/
def r23_Size (a0 : SDeck) : Option (Int) :=
 (iter (fun (v : Int × Int) => r23_Size_B8 a0 v.1 v.2) FU ((0 : Int), (0 : Int))).bind (fun o0 => r23_Size_J2 o0)
def r23_Size_C (a0 : SDeck) (r : Int) : Prop := PCall Tryd.prog I0 12 [vA encSDeck a0] (· = vI r)
theorem r23_Size_ok {a0 : SDeck} {r : Int} (h : r23_Size a0 = some r) : r23_Size_C a0 r := by
 refine PCall.body I0_stable (by kernel_rfl) Tryd.func12 rfl Tryd.ntmps12 (rs := [.tmp 2]) rfl rfl ?_
 intro w0 av old gv
 unfold r23_Size at h
 refine Rg [.a, .a] (sl 26 [(1, vP [1] (0))] [bx [1] (encSDeck a0)]) (aN) ?_
 refine Rg [.a] (sl 26 [(1, vP [1] (0)), (3, vI (0 : Int))] [bx [1] (encSDeck a0)]) (aN) ?_
 refine Sj (X := Int) (fun v => (sl 26 [(3, vI v)] [])) (fun v => r23_Size_J2 v = some r) ?_ ?_
 · refine Rg [.a] (sl 26 [(1, vP [1] (0)), (3, vI (0 : Int)), (4, vI (0 : Int))] [bx [1] (encSDeck a0)]) (aN) ?_
   refine Holds.block ?_
   obtain ⟨oB8, hiB8, h⟩ := bS h
   refine It (fun (v : Int × Int) => (sl 26 [(1, vP [1] (0)), (3, vI v.1), (4, vI v.2)] [bx [1] (encSDeck a0)])) hiB8 (wT) ?_
   rintro ⟨n_t3_5, i_t4_6⟩ zB8 hzB8 hoB8
   replace hzB8 : r23_Size_B8 a0 n_t3_5 i_t4_6 = some zB8 := hzB8
   unfold r23_Size_B8 at hzB8
   refine Holds.seq ?_
   refine Rg [.a, .a, .a, .a, .a] (sl 26 [(1, vP [1] (0)), (3, vI n_t3_5), (4, vI i_t4_6), (9, vB (decide (i_t4_6 < (a0.Counts.length : Int))))] [bx [1] (encSDeck a0)]) (aN) ?_
   refine iB hzB8 (fun b9 hzB8 => ?_) (fun b9 hzB8 => ?_)
   · refine Holds.skip ?_
     refine Tn ?_
     refine Sj (X := Int) (fun v => (sl 26 [(1, vP [1] (0)), (3, vI v), (4, vI i_t4_6)] [bx [1] (encSDeck a0)])) (fun v => r23_Size_J11 i_t4_6 v = some zB8) ?_ ?_
     · refine Holds.block ?_
       obtain ⟨e12, he12, hzB8⟩ := bS hzB8
       refine Rg [.a, .a, .a, .a, (.v (vI e12)), .a] (sl 26 [(1, vP [1] (0)), (3, vI n_t3_5), (4, vI i_t4_6), (17, vB (decide ((0 : Int) < e12)))] [bx [1] (encSDeck a0)]) (aC (idx_b he12) <| aC (eld he12 (lenI .i64) 0 1 false (vI e12)) <| aC (Eq.refl (vI e12)) <| aN) ?_
       refine iB hzB8 (fun b13 hzB8 => ?_) (fun b13 hzB8 => ?_)
       · obtain ⟨e14, he14, hzB8⟩ := bS hzB8
         obtain ⟨r15, hr15, hzB8⟩ := bS hzB8
         refine Re [.a, .a, .a, .a, .a, (.v (vI e14)), (.c (vI r15)), .a] (sl 26 [(1, vP [1] (0)), (3, vI r15), (4, vI i_t4_6), (17, vB (decide ((0 : Int) < e12))), (18, vI n_t3_5), (19, vP [1] (1)), (20, vL (eI .i64) a0.Counts), (21, vI i_t4_6), (22, vX (eI .i64) a0.Counts ((i_t4_6).toNat * 1)), (23, vI e14), (24, vI r15)] [bx [1] (encSDeck a0)]) (aC (idx_b he14) <| aC (eld he14 (lenI .i64) 0 1 false (vI e14)) <| aC (Eq.refl (vI e14)) <| aC (r01_Add_ok hr15) <| aN) ?_
         refine blockQ.normal ?_
         refine Tn ⟨r15, hzB8, wT⟩
       · refine Holds.skip ?_
         refine blockQ.normal ?_
         refine Tn ⟨n_t3_5, hzB8, wT⟩
     · rintro n_t3_10 hJ11
       replace hJ11 : r23_Size_J11 i_t4_6 n_t3_10 = some zB8 := hJ11
       unfold r23_Size_J11 at hJ11
       refine Re [.a, .a, .a] (sl 26 [(1, vP [1] (0)), (3, vI n_t3_10), (4, vI (wrap64 (i_t4_6 + (1 : Int)))), (10, vI i_t4_6), (11, vI (wrap64 (i_t4_6 + (1 : Int))))] [bx [1] (encSDeck a0)]) (aN) ?_
       refine Tn ⟨(n_t3_10, (wrap64 (i_t4_6 + (1 : Int)))), (sI hJ11).symm, wT⟩
   · refine Holds.exit ?_
     refine thenQ.exit ?_
     have hoB8_ := hoB8 _ (sI hzB8).symm
     subst hoB8_
     refine thenQ.exit ?_
     refine blockQ.out ?_
     refine Tn ⟨n_t3_5, h, wT⟩
 · rintro n_t3_1 hJ2
   replace hJ2 : r23_Size_J2 n_t3_1 = some r := hJ2
   unfold r23_Size_J2 at hJ2
   refine Rg [.a, .a] (sl 26 [(2, vI n_t3_1)] []) (aN) ?_
   refine Holds.ret ?_
   exact bQ (vI n_t3_1) (congrArg vI (sI hJ2))
end Go.PL
