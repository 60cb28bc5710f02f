/- Functions of the program, as partial functions in Lean, with proofs. -/
import Derived.Test.YtieikooalmfmfaaDoorPlDeB
import Derived.Test.YtieikooalmfmfaaDoorPlDeF0
namespace Go.PL
open Go Go.RowKit Go.Proofs
set_option maxRecDepth 100000
set_option linter.all false
set_option maxHeartbeats 1000000
attribute [local irreducible] Holds thenQ blockQ
/-- internal/stringslite.Cut -/
def internal_stringslite_Cut (a0 : List UInt8) (a1 : List UInt8) : Option ((List UInt8) × (List UInt8) × Bool) :=
 (internal_stringslite_Index a0 a1).bind fun r1 =>
 (if (decide ((0 : Int) ≤ r1)) = true then
  (ssub a0 0 r1).bind fun s3 =>
  (ssub a0 (wrap64 (r1 + (a1.length : Int))) (a0.length : Int)).bind fun s4 =>
  some (s3, s4, true)
 else
  some (a0, ([] : List UInt8), false))
def internal_stringslite_Cut_C (a0 : List UInt8) (a1 : List UInt8) (r : (List UInt8) × (List UInt8) × Bool) : Prop := PCall Tryd.prog I0 79 [vS a0, vS a1] (· = .tup [vS r.1, vS r.2.1, vB r.2.2])
theorem internal_stringslite_Cut_ok {a0 : List UInt8} {a1 : List UInt8} {r : (List UInt8) × (List UInt8) × Bool} (h : internal_stringslite_Cut a0 a1 = some r) : internal_stringslite_Cut_C a0 a1 r := by
 refine PCall.body I0_stable (by kernel_rfl) Tryd.func79 rfl Tryd.ntmps79 (rs := [.tmp 4, .tmp 5, .tmp 6]) rfl rfl ?_
 intro w0 av old gv
 unfold internal_stringslite_Cut at h
 refine Rg [.a, .a, .a] (sl 23 [(0, vS a0), (1, vS a1)] []) (aN) ?_
 refine Holds.seq ?_
 obtain ⟨r1, hr1, h⟩ := bS h
 refine Rg [.a, .a, (.c (vI r1)), .a] (sl 23 [(0, vS a0), (1, vS a1), (7, vI r1)] []) (aC (internal_stringslite_Index_ok hr1) <| aN) ?_
 refine Rg [.a, .a] (sl 23 [(0, vS a0), (1, vS a1), (7, vI r1), (12, vB (decide ((0 : Int) ≤ r1)))] []) (aN) ?_
 refine iB h (fun b2 h => ?_) (fun b2 h => ?_)
 · obtain ⟨s3, hs3, h⟩ := bS h
   obtain ⟨s4, hs4, h⟩ := bS h
   refine Rq followsP [.a, .a, (.v (vS s3)), .a, .a, .a, .a, .a, (.v (vS s4)), .a, .a, .a] (sl 23 [(4, vS s3), (5, vS s4), (6, vB true)] []) (aC (ssub_b hs3) <| aC (congrArg (fun z => V.c (.str z)) (ssub_x hs3).symm) <| aC (ssub_b hs4) <| aC (congrArg (fun z => V.c (.str z)) (ssub_x hs4).symm) <| aN) ?_
   refine Holds.ret ?_
   refine Tr ?_
   exact bQ (.tup [vS s3, vS s4, vB true]) (congrArg (fun (q : (List UInt8) × (List UInt8) × Bool) => (.tup [vS q.1, vS q.2.1, vB q.2.2] : V)) (sI h))
 · refine Holds.skip ?_
   refine Tn ?_
   refine Rg [.a, .a, .a, .a] (sl 23 [(4, vS a0), (5, vS ([] : List UInt8)), (6, vB false)] []) (aN) ?_
   refine Holds.ret ?_
   exact bQ (.tup [vS a0, vS ([] : List UInt8), vB false]) (congrArg (fun (q : (List UInt8) × (List UInt8) × Bool) => (.tup [vS q.1, vS q.2.1, vB q.2.2] : V)) (sI h))
/-- cardgame/num.Number -/
def num_NumberV (a0 : List UInt8) : Option (Int × Bool) :=
 (dAtoiV a0).bind fun r1 =>
 (gd (false == false) (num_Clamp r1)).bind fun r2 =>
 (some (if false = true then true else r1 != r2)).bind fun b3 =>
 (gd (b3 == false) (num_Text r1)).bind fun r4 =>
 (some (if b3 = true then true else r4 != a0)).bind fun b5 =>
 (if b5 = true then
  some ((0 : Int), false)
 else
  some (r1, true))
def num_NumberV_C (a0 : List UInt8) (r : Int × Bool) : Prop := PCall Tryd.prog I0 55 [vS a0] (· = .tup [vI r.1, vB r.2])
theorem num_NumberV_ok {a0 : List UInt8} {r : Int × Bool} (h : num_NumberV a0 = some r) : num_NumberV_C a0 r := by
 refine PCall.body I0_stable (by kernel_rfl) Tryd.func55 rfl Tryd.ntmps55 (rs := [.tmp 2, .tmp 3]) rfl rfl ?_
 intro w0 av old gv
 unfold num_NumberV at h
 refine Rg [.a, .a] (sl 26 [(0, vS a0)] []) (aN) ?_
 obtain ⟨r1, hr1, h⟩ := bS h
 refine Rg [.a, (.c (.tup [vI r1, .c (.niface)])), .a, .a, .a, .a, .a] (sl 26 [(0, vS a0), (4, vI r1), (5, .c (.niface))] []) (aC (okAtoiV hr1) <| aC (show True ∧ 0 < [V.undef, V.undef].length from ⟨trivial, (by decide)⟩) <| aC (show True ∧ 1 < [V.undef, V.undef].length from ⟨trivial, (by decide)⟩) <| aN) ?_
 refine Holds.seq ?_
 obtain ⟨r2, hr2, h⟩ := bS h
 obtain ⟨b3, hb3, h⟩ := bS h
 obtain ⟨r4, hr4, h⟩ := bS h
 obtain ⟨b5, hb5, h⟩ := bS h
 refine Rg [.a, .a, .a, .a, .a, (.c (vI r2)), .a, (.v (vB b3)), .a, .a, (.c (vS r4)), .a, .a, (.v (vB b5))] (sl 26 [(4, vI r1), (24, vB b5)] []) (aC (And.intro (Eq.refl true) isif91) <| aC (c1 hr2 num_Clamp_ok) <| aH (false == false) <| aF false <| aB hb3 <| aC (c1 hr4 num_Text_ok) <| aH (b3 == false) <| aF b3 <| aB hb5 <| aN) ?_
 refine iB h (fun b6 h => ?_) (fun b6 h => ?_)
 · refine Rg [.a, .a] (sl 26 [(2, vI (0 : Int)), (3, vB false)] []) (aN) ?_
   refine Holds.ret ?_
   refine Tr ?_
   exact bQ (.tup [vI (0 : Int), vB false]) (congrArg (fun (q : Int × Bool) => (.tup [vI q.1, vB q.2] : V)) (sI h))
 · refine Holds.skip ?_
   refine Tn ?_
   refine Rg [.a, .a, .a] (sl 26 [(2, vI r1), (3, vB true)] []) (aN) ?_
   refine Holds.ret ?_
   exact bQ (.tup [vI r1, vB true]) (congrArg (fun (q : Int × Bool) => (.tup [vI q.1, vB q.2] : V)) (sI h))
/-- cardgame/num.Number -/
def num_NumberB (a0 : List UInt8) : Option (Int × Bool) :=
 (dAtoiB a0).bind fun r1 =>
 (gd (true == false) (num_Clamp r1)).bind fun r2 =>
 (some (if true = true then true else r1 != r2)).bind fun b3 =>
 (gd (b3 == false) (num_Text r1)).bind fun r4 =>
 (some (if b3 = true then true else r4 != a0)).bind fun b5 =>
 (if b5 = true then
  some ((0 : Int), false)
 else
  some (r1, true))
def num_NumberB_C (a0 : List UInt8) (r : Int × Bool) : Prop := PCall Tryd.prog I0 55 [vS a0] (· = .tup [vI r.1, vB r.2])
theorem num_NumberB_ok {a0 : List UInt8} {r : Int × Bool} (h : num_NumberB a0 = some r) : num_NumberB_C a0 r := by
 refine PCall.body I0_stable (by kernel_rfl) Tryd.func55 rfl Tryd.ntmps55 (rs := [.tmp 2, .tmp 3]) rfl rfl ?_
 intro w0 av old gv
 unfold num_NumberB at h
 refine Rg [.a, .a] (sl 26 [(0, vS a0)] []) (aN) ?_
 obtain ⟨r1, hr1, h⟩ := bS h
 refine Rg [.a, (.c (.tup [vI r1, .c (.held)])), .a, .a, .a, .a, .a] (sl 26 [(0, vS a0), (4, vI r1), (5, .c (.held))] []) (aC (okAtoiB hr1) <| aC (show True ∧ 0 < [V.undef, V.undef].length from ⟨trivial, (by decide)⟩) <| aC (show True ∧ 1 < [V.undef, V.undef].length from ⟨trivial, (by decide)⟩) <| aN) ?_
 refine Holds.seq ?_
 obtain ⟨r2, hr2, h⟩ := bS h
 obtain ⟨b3, hb3, h⟩ := bS h
 obtain ⟨r4, hr4, h⟩ := bS h
 obtain ⟨b5, hb5, h⟩ := bS h
 refine Rg [.a, .a, .a, .a, .a, (.c (vI r2)), .a, (.v (vB b3)), .a, .a, (.c (vS r4)), .a, .a, (.v (vB b5))] (sl 26 [(4, vI r1), (24, vB b5)] []) (aC isif91 <| aC (c1 hr2 num_Clamp_ok) <| aH (true == false) <| aF true <| aB hb3 <| aC (c1 hr4 num_Text_ok) <| aH (b3 == false) <| aF b3 <| aB hb5 <| aN) ?_
 refine iB h (fun b6 h => ?_) (fun b6 h => ?_)
 · refine Rg [.a, .a] (sl 26 [(2, vI (0 : Int)), (3, vB false)] []) (aN) ?_
   refine Holds.ret ?_
   refine Tr ?_
   exact bQ (.tup [vI (0 : Int), vB false]) (congrArg (fun (q : Int × Bool) => (.tup [vI q.1, vB q.2] : V)) (sI h))
 · refine Holds.skip ?_
   refine Tn ?_
   refine Rg [.a, .a, .a] (sl 26 [(2, vI r1), (3, vB true)] []) (aN) ?_
   refine Holds.ret ?_
   exact bQ (.tup [vI r1, vB true]) (congrArg (fun (q : Int × Bool) => (.tup [vI q.1, vB q.2] : V)) (sI h))
def deck_Text_B (a0 : List (SCard)) (a1 : SDeck) (i : Int) (acc : List UInt8) : Option ((Int × List UInt8) ⊕ List UInt8) :=
 if (decide (i < (a1.Cards.length : Int))) = true then
  (idx a1.Cards i).bind fun e2 =>
  (idx a1.Counts i).bind fun e3 =>
  (num_Text e3).bind fun r4 =>
  (cat r4 str_x20).bind fun s5 =>
  (idx a0 e2).bind fun e6 =>
  (cat s5 e6.Name).bind fun s7 =>
  (cat s7 str_x0a).bind fun s8 =>
  (need (acc.length + s8.length ≤ 140737488355328)).bind fun u =>
  some (.inl (wrap64 (i + (1 : Int)), acc ++ s8))
 else (need (acc ≠ [])).bind fun u => some (.inr acc)
def deck_Text (a0 : List (SCard)) (a1 : SDeck) : Option (List UInt8) :=
(deck_formed a0 a1).bind fun r1 =>
(if (!r1) = true then some [] else (if (decide (a1.Cards.length = 0)) = true then some [] else (iter (fun v : Int × List UInt8 => deck_Text_B a0 a1 v.1 v.2) FU ((0 : Int), ([] : List UInt8))).bind some))
def deck_Text_C (a0 : List (SCard)) (a1 : SDeck) (r : List UInt8) : Prop := PCall Tryd.prog I0 41 [vL encSCard a0, vA encSDeck a1] (· = vS r)
theorem strL_app (a b : List UInt8) : strL (a ++ b) = strL a ++ strL b := by unfold strL; rw [List.map_append]
theorem AtE {P : Program} {F : Fr} {st : St} {c : Code} {Q : Exit → St → Prop} (st' : St) (h : st' = st) (hh : Holds P F c st' Q) : Holds P F c st Q := h ▸ hh
theorem iB0 {P : Program} {F : Fr} {st : St} {c : Code} {Q : Exit → St → Prop} {β : Type} {b : Bool} {X Y : Option β} {r : β} (h : (if b = true then X else Y) = some r) (h1 : b = true → X = some r → Holds P F c st Q) (h2 : b = false → Y = some r → Holds P F c st Q) : Holds P F c st Q := by
  cases b
  · exact h2 rfl h
  · exact h1 rfl h
theorem deck_Text_ok {a0 : List (SCard)} {a1 : SDeck} {r : List UInt8} (h : deck_Text a0 a1 = some r) : deck_Text_C a0 a1 r := by
 refine PCall.bodyN I0_stable (by kernel_rfl) Tryd.func41 rfl Tryd.ntmps41 (rs := [.tmp 4]) rfl rfl ?_
 intro w0 av
 unfold deck_Text at h
 refine Rg [.a, .a] (sl 37 [(0, vL encSCard a0), (3, vP [3] (0))] [bx [3] (encSDeck a1)]) (aN) ?_
 refine Holds.seq ?_
 obtain ⟨r1, hr1, h⟩ := bS h
 refine Rg [.a, .a, (.c (vB r1)), .a] (sl 37 [(0, vL encSCard a0), (3, vP [3] (0)), (11, vB (!r1))] [bx [3] (encSDeck a1)]) (aC (deck_formed_ok hr1) <| aN) ?_
 refine iB h (fun hb h => ?_) (fun hb h => ?_)
 · refine Rg [.a] (sl 37 [(4, vS [])] []) (aN) ?_
   refine Holds.ret ?_
   refine Tr ?_
   exact bQ (vS []) (congrArg vS (sI h))
 refine Holds.skip ?_
 refine Tn ?_
 refine Ls (sl 37 [(0, vL encSCard a0), (3, vP [3] (0))] [bx [3] (encSDeck a1)]) ?_
 refine Holds.seq ?_
 refine Holds.region ?_
 refine Run.inl rfl rfl (Esc.bldNew 5 rfl rfl ?_)
 refine Rw [] (sl 37 [(0, vL encSCard a0), (3, vP [3] (0)), (5, vP [5] (0))] [⟨[5], none, [.bld [5] 89, .nils], false⟩, bx [3] (encSDeck a1)]) (aN) ?_
 refine Tn ?_
 refine Holds.seq ?_
 refine Rg [.a, .a, .a, .a] (sl 37 [(0, vL encSCard a0), (3, vP [3] (0)), (5, vP [5] (0)), (13, vL (eI .i64) a1.Cards), (14, vI (a1.Cards.length : Int)), (15, vI (0 : Int))] [⟨[5], none, [.bld [5] 89, .nils], false⟩, bx [3] (encSDeck a1)]) (aN) ?_
 refine iB0 h (fun hn h => ?_) (fun hn h => ?_)
 · refine Holds.block ?_
   refine It (σ := Unit) (B := fun _ => some (.inr ())) (o := ()) (N := FU) (s0 := ()) (fun _ => (sl 37 [(0, vL encSCard a0), (3, vP [3] (0)), (5, vP [5] (0)), (13, vL (eI .i64) a1.Cards), (14, vI (a1.Cards.length : Int)), (15, vI (0 : Int))] [⟨[5], none, [.bld [5] 89, .nils], false⟩, bx [3] (encSDeck a1)])) (by kernel_rfl) (wT) ?_
   rintro _ z hz -
   refine Rg [.a] (sl 37 [(0, vL encSCard a0), (3, vP [3] (0)), (5, vP [5] (0)), (13, vL (eI .i64) a1.Cards), (14, vI (a1.Cards.length : Int)), (15, vI (0 : Int)), (16, vB (decide ((0 : Int) < (a1.Cards.length : Int))))] [⟨[5], none, [.bld [5] 89, .nils], false⟩, bx [3] (encSDeck a1)]) (aN) ?_
   refine Holds.seq ?_
   refine Holds.ifB (decide ((0 : Int) < (a1.Cards.length : Int))) (by kernel_rfl) (fun q => ?_) (fun q => ?_)
   · exact absurd (of_decide_eq_true q) (by simp at hn; simp [hn])
   · refine Holds.exit ?_
     refine thenQ.exit ?_
     refine thenQ.exit ?_
     refine blockQ.out ?_
     refine Tn ?_
     refine Holds.seq ?_
     refine Holds.bstr (s := ([] : List UInt8)) (T := 89) (E := 5) (fun _ q => q) rfl (by kernel_rfl) rfl (fun B b l w q hBw => Tryd.Builder_String_any B b l w q hBw) (x := .tmp 5) rfl rfl (.inr ⟨rfl, rfl⟩) rfl ?_
     refine Rw [.a] (sl 37 [(4, vS ([] : List UInt8)), (36, vS ([] : List UInt8))] []) (aN) ?_
     refine Tn ?_
     refine Holds.ret ?_
     exact bQ (vS []) (congrArg vS (sI h))
 · refine Ow [5] 1 [1001, 5] 5 1 (sl 37 [(0, vL encSCard a0), (3, vP [3] (0)), (5, vP [5] (0)), (13, vL (eI .i64) a1.Cards), (14, vI (a1.Cards.length : Int)), (15, vI (0 : Int))] [⟨[1001, 5], some (5, 1, ([] : List UInt8).length), strL ([] : List UInt8), true⟩, ⟨[5], none, [.bld [5] 89, .osl [1001, 5]], false⟩, bx [3] (encSDeck a1)]) ?_
   refine Holds.block ?_
   obtain ⟨o, hi, h⟩ := bS h
   refine It (fun (v : Int × List UInt8) => (sl 37 [(0, vL encSCard a0), (3, vP [3] (0)), (5, vP [5] (0)), (13, vL (eI .i64) a1.Cards), (14, vI (a1.Cards.length : Int)), (15, vI v.1)] [⟨[1001, 5], some (5, 1, v.2.length), strL v.2, true⟩, ⟨[5], none, [.bld [5] 89, .osl [1001, 5]], false⟩, bx [3] (encSDeck a1)])) hi (wT) ?_
   rintro ⟨i, acc⟩ z hz ho
   replace hz : deck_Text_B a0 a1 i acc = some z := hz
   unfold deck_Text_B at hz
   refine Rg [.a] (sl 37 [(0, vL encSCard a0), (3, vP [3] (0)), (5, vP [5] (0)), (13, vL (eI .i64) a1.Cards), (14, vI (a1.Cards.length : Int)), (15, vI i), (16, vB (decide (i < (a1.Cards.length : Int))))] [⟨[1001, 5], some (5, 1, acc.length), strL acc, true⟩, ⟨[5], none, [.bld [5] 89, .osl [1001, 5]], false⟩, bx [3] (encSDeck a1)]) (aN) ?_
   refine Holds.seq ?_
   refine iB hz (fun hb hz => ?_) (fun hb hz => ?_)
   · refine Holds.skip ?_
     refine Tn ?_
     refine Holds.seq ?_
     refine Holds.block ?_
     obtain ⟨e2, he2, hz⟩ := bS hz
     refine Rg [.a, .a, (.v (vI e2)), .a, .a] (sl 37 [(0, vL encSCard a0), (3, vP [3] (0)), (5, vP [5] (0)), (6, vI i), (7, vI e2), (13, vL (eI .i64) a1.Cards), (14, vI (a1.Cards.length : Int)), (15, vI i)] [⟨[1001, 5], some (5, 1, acc.length), strL acc, true⟩, ⟨[5], none, [.bld [5] 89, .osl [1001, 5]], false⟩, bx [3] (encSDeck a1)]) (aC (idx_b he2) <| aC (eld he2 (lenI .i64) 0 1 false (vI e2)) <| aC (Eq.refl (vI e2)) <| aN) ?_
     obtain ⟨e3, he3, hz⟩ := bS hz
     obtain ⟨r4, hr4, hz⟩ := bS hz
     obtain ⟨s5, hs5, hz⟩ := bS hz
     obtain ⟨e6, he6, hz⟩ := bS hz
     obtain ⟨s7, hs7, hz⟩ := bS hz
     obtain ⟨s8, hs8, hz⟩ := bS hz
     obtain ⟨u, hu, hz⟩ := bS hz
     refine Holds.regZ followsP 14 [[], [0], [], [0, 1, 2], [0, 1, 2, 3], [0, 1, 2, 3, 4], [0, 1, 2, 3, 4, 5], [], [], [7, 8], [7, 8, 9], [7, 8, 9, 10], [0, 1, 2, 3, 4, 5, 6, 7, 8, 9, 10, 11], [0, 1, 2, 3, 4, 5, 6, 7, 8, 9, 10, 11, 12], [0, 1, 2, 3, 4, 5, 6, 7, 8, 9, 10, 11, 12, 13]] [] [[]] [.a, .a, .a, .a, (.v (vI e3)), (.c (vS r4)), (.v (vS s5)), .a, .a, .a, .a, (.v (vS e6.Name)), (.v (vS s7)), (.v (vS s8))] [[1001, 5], [5], [3]] ⟨slD 37 0 [(0, [], vL encSCard a0), (3, [], vP [3] (0)), (5, [], vP [5] (0)), (6, [], vI i), (7, [], vI e2), (13, [], vL (eI .i64) a1.Cards), (14, [], vI (a1.Cards.length : Int)), (15, [], vI i), (20, [(0, vP [3] (1))], .undef), (21, [(1, vL (eI .i64) a1.Counts)], .undef), (22, [(2, vI i)], .undef), (23, [(3, vX (eI .i64) a1.Counts ((i).toNat * 1))], .undef), (24, [(4, vI e3)], .undef), (25, [(5, vS r4)], .undef), (26, [(6, vS s5)], .undef), (27, [(7, vL encSCard a0)], .undef), (28, [(8, vI e2)], .undef), (29, [(9, vX encSCard a0 ((e2).toNat * 17))], .undef), (30, [(10, vX encSCard a0 ((e2).toNat * 17 + 0))], .undef), (31, [(11, vS e6.Name)], .undef), (32, [(12, vS s7)], .undef), (33, [(13, vS s8)], .undef)], [([], some (⟨[1001, 5], some (5, 1, acc.length), strL acc, true⟩)), ([], some (⟨[5], none, [.bld [5] 89, .osl [1001, 5]], false⟩)), ([], some (bx [3] (encSDeck a1)))], [], []⟩ [[], [], [], [0 ≤ i ∧ i < (a1.Counts.length : Int)], [(i).toNat * 1 + 1 ≤ (a1.Counts.flatMap (eI .i64)).length ∧ toV false ((i).toNat * 1) 1 (a1.Counts.flatMap (eI .i64)) = vI e3, (vI e3 : V) = vI e3], [num_Text_C e3 r4], [r4.length + str_x20.length ≤ maxLen, V.c (.str (r4 ++ str_x20)) = .c (.str s5)], [], [], [0 ≤ e2 ∧ e2 < (a0.length : Int)], [], [(e2).toNat * 17 + 0 + 1 ≤ (a0.flatMap (encSCard)).length ∧ toV false ((e2).toNat * 17 + 0) 1 (a0.flatMap (encSCard)) = vS e6.Name, (vS e6.Name : V) = vS e6.Name], [s5.length + e6.Name.length ≤ maxLen, V.c (.str (s5 ++ e6.Name)) = .c (.str s7)], [s7.length + str_x0a.length ≤ maxLen, V.c (.str (s7 ++ str_x0a)) = .c (.str s8)], [s7.length + str_x0a.length ≤ maxLen, V.c (.str (s7 ++ str_x0a)) = .c (.str s8)]] (bC (aN) <| bC (aN) <| bC (aN) <| bC (aC (idx_b he3) <| aN) <| bC (aC (eld he3 (lenI .i64) 0 1 false (vI e3)) <| aC (Eq.refl (vI e3)) <| aN) <| bC (aC (num_Text_ok hr4) <| aN) <| bC (aC (cat_b hs5) <| aC (congrArg (fun z => V.c (.str z)) (cat_x hs5).symm) <| aN) <| bC (aN) <| bC (aN) <| bC (aC (idx_b he6) <| aN) <| bC (aN) <| bC (aC (eld he6 lenSCard 0 1 false (vS e6.Name)) <| aC (Eq.refl (vS e6.Name)) <| aN) <| bC (aC (cat_b hs7) <| aC (congrArg (fun z => V.c (.str z)) (cat_x hs7).symm) <| aN) <| bC (aC (cat_b hs8) <| aC (congrArg (fun z => V.c (.str z)) (cat_x hs8).symm) <| aN) <| bC (aC (cat_b hs8) <| aC (congrArg (fun z => V.c (.str z)) (cat_x hs8).symm) <| aN) <| bN) _ ?_ (ho := rfl)
     refine Esc.inline (s := True ∧ (True ∧ True)) (vs := [vP [5] (0), vS s8]) (cs := []) 34 rfl rfl rfl (by kernel_rfl) ⟨trivial, ⟨trivial, trivial⟩⟩ (by kernel_rfl) (by kernel_rfl) Tryd.func62 rfl Tryd.ntmps62 (rs := [.tmp 4, .tmp 5]) rfl ?_
     intro w0 av old gv
     refine At (sg 19 [(0, vP [5] (0)), (1, vS s8)] [⟨[1001, 5], some (5, 1, acc.length), strL acc, true⟩, ⟨[5], none, [.bld [5] 89, .osl [1001, 5]], false⟩, bx [3] (encSDeck a1)] 37 [(0, vL encSCard a0), (3, vP [3] (0)), (5, vP [5] (0)), (6, vI i), (7, vI e2), (13, vL (eI .i64) a1.Cards), (14, vI (a1.Cards.length : Int)), (15, vI i), (20, vP [3] (1)), (21, vL (eI .i64) a1.Counts), (22, vI i), (23, vX (eI .i64) a1.Counts ((i).toNat * 1)), (24, vI e3), (25, vS r4), (26, vS s5), (27, vL encSCard a0), (28, vI e2), (29, vX encSCard a0 ((e2).toNat * 17)), (30, vX encSCard a0 ((e2).toNat * 17 + 0)), (31, vS e6.Name), (32, vS s7), (33, vS s8)] [34]) ?_
     refine Rg [.a, .a] (sg 19 [(0, vP [5] (0)), (1, vS s8)] [⟨[1001, 5], some (5, 1, acc.length), strL acc, true⟩, ⟨[5], none, [.bld [5] 89, .osl [1001, 5]], false⟩, bx [3] (encSDeck a1)] 37 [(0, vL encSCard a0), (3, vP [3] (0)), (5, vP [5] (0)), (6, vI i), (7, vI e2), (13, vL (eI .i64) a1.Cards), (14, vI (a1.Cards.length : Int)), (15, vI i), (20, vP [3] (1)), (21, vL (eI .i64) a1.Counts), (22, vI i), (23, vX (eI .i64) a1.Counts ((i).toNat * 1)), (24, vI e3), (25, vS r4), (26, vS s5), (27, vL encSCard a0), (28, vI e2), (29, vX encSCard a0 ((e2).toNat * 17)), (30, vX encSCard a0 ((e2).toNat * 17 + 0)), (31, vS e6.Name), (32, vS s7), (33, vS s8)] [34]) (aN) ?_
     refine Holds.seq ?_
     refine Holds.region ?_
     refine Rp 1 [.a] (sg 19 [(0, vP [5] (0)), (1, vS s8), (6, vP [5] (0))] [⟨[1001, 5], some (5, 1, acc.length), strL acc, true⟩, ⟨[5], none, [.bld [5] 89, .osl [1001, 5]], false⟩, bx [3] (encSDeck a1)] 37 [(0, vL encSCard a0), (3, vP [3] (0)), (5, vP [5] (0)), (6, vI i), (7, vI e2), (13, vL (eI .i64) a1.Cards), (14, vI (a1.Cards.length : Int)), (15, vI i), (20, vP [3] (1)), (21, vL (eI .i64) a1.Counts), (22, vI i), (23, vX (eI .i64) a1.Counts ((i).toNat * 1)), (24, vI e3), (25, vS r4), (26, vS s5), (27, vL encSCard a0), (28, vI e2), (29, vX encSCard a0 ((e2).toNat * 17)), (30, vX encSCard a0 ((e2).toNat * 17 + 0)), (31, vS e6.Name), (32, vS s7), (33, vS s8)] [34]) (aN) ?_
     refine Run.inl rfl rfl (Esc.cc (id := [5]) (c1 := .osl [1001, 5]) (T := 89) rfl (by kernel_rfl) Tryd.copyCheck_used Tryd.copyCheck_fresh ?_)
     refine Rw [] (sg 19 [(0, vP [5] (0)), (1, vS s8), (6, vP [5] (0)), (7, .tup [])] [⟨[1001, 5], some (5, 1, acc.length), strL acc, true⟩, ⟨[5], none, [.bld [5] 89, .osl [1001, 5]], false⟩, bx [3] (encSDeck a1)] 37 [(0, vL encSCard a0), (3, vP [3] (0)), (5, vP [5] (0)), (6, vI i), (7, vI e2), (13, vL (eI .i64) a1.Cards), (14, vI (a1.Cards.length : Int)), (15, vI i), (20, vP [3] (1)), (21, vL (eI .i64) a1.Counts), (22, vI i), (23, vX (eI .i64) a1.Counts ((i).toNat * 1)), (24, vI e3), (25, vS r4), (26, vS s5), (27, vL encSCard a0), (28, vI e2), (29, vX encSCard a0 ((e2).toNat * 17)), (30, vX encSCard a0 ((e2).toNat * 17 + 0)), (31, vS e6.Name), (32, vS s7), (33, vS s8)] [34]) (aN) ?_
     refine Tn ?_
     refine Ls (sg 19 [(0, vP [5] (0)), (1, vS s8)] [⟨[1001, 5], some (5, 1, acc.length), strL acc, true⟩, ⟨[5], none, [.bld [5] 89, .osl [1001, 5]], false⟩, bx [3] (encSDeck a1)] 37 [(0, vL encSCard a0), (3, vP [3] (0)), (5, vP [5] (0)), (6, vI i), (7, vI e2), (13, vL (eI .i64) a1.Cards), (14, vI (a1.Cards.length : Int)), (15, vI i), (20, vP [3] (1)), (21, vL (eI .i64) a1.Counts), (22, vI i), (23, vX (eI .i64) a1.Counts ((i).toNat * 1)), (24, vI e3), (25, vS r4), (26, vS s5), (27, vL encSCard a0), (28, vI e2), (29, vX encSCard a0 ((e2).toNat * 17)), (30, vX encSCard a0 ((e2).toNat * 17 + 0)), (31, vS e6.Name), (32, vS s7), (33, vS s8)] [34]) ?_
     refine Holds.seq ?_
     refine Holds.region ?_
     refine Rp 6 [.a, .a, .a, .a, .a, .a] (sg 19 [(0, vP [5] (0)), (1, vS s8), (8, vP [5] (0)), (9, vP [5] (0)), (10, vP [5] (0)), (11, vP [5] (1)), (12, vO [1001, 5]), (13, vS s8)] [⟨[1001, 5], some (5, 1, acc.length), strL acc, true⟩, ⟨[5], none, [.bld [5] 89, .osl [1001, 5]], false⟩, bx [3] (encSDeck a1)] 37 [(0, vL encSCard a0), (3, vP [3] (0)), (5, vP [5] (0)), (6, vI i), (7, vI e2), (13, vL (eI .i64) a1.Cards), (14, vI (a1.Cards.length : Int)), (15, vI i), (20, vP [3] (1)), (21, vL (eI .i64) a1.Counts), (22, vI i), (23, vX (eI .i64) a1.Counts ((i).toNat * 1)), (24, vI e3), (25, vS r4), (26, vS s5), (27, vL encSCard a0), (28, vI e2), (29, vX encSCard a0 ((e2).toNat * 17)), (30, vX encSCard a0 ((e2).toNat * 17 + 0)), (31, vS e6.Name), (32, vS s7), (33, vS s8)] [34]) (aC (show True ∧ True from ⟨trivial, trivial⟩) <| aN) ?_
     refine Run.inl rfl rfl (Esc.appS (r := [1001, 5]) (E := 5) (len := acc.length) (cs := strL acc) (pu := true) (s := s8) 14 rfl rfl rfl rfl rfl (need_b hu) ?_)
     refine Rw [.a, .a, .a] (sg 19 [(0, vP [5] (0)), (1, vS s8), (8, vP [5] (0)), (9, vP [5] (0)), (10, vP [5] (0)), (11, vP [5] (1)), (13, vS s8), (14, vO [1001, 5]), (15, vP [5] (0)), (16, vP [5] (1))] [⟨[1001, 5], some (5, 1, acc.length + s8.length), strL acc ++ strL s8, true⟩, ⟨[5], none, [.bld [5] 89, .osl [1001, 5]], false⟩, bx [3] (encSDeck a1)] 37 [(0, vL encSCard a0), (3, vP [3] (0)), (5, vP [5] (0)), (6, vI i), (7, vI e2), (13, vL (eI .i64) a1.Cards), (14, vI (a1.Cards.length : Int)), (15, vI i), (20, vP [3] (1)), (21, vL (eI .i64) a1.Counts), (22, vI i), (23, vX (eI .i64) a1.Counts ((i).toNat * 1)), (24, vI e3), (25, vS r4), (26, vS s5), (27, vL encSCard a0), (28, vI e2), (29, vX encSCard a0 ((e2).toNat * 17)), (30, vX encSCard a0 ((e2).toNat * 17 + 0)), (31, vS e6.Name), (32, vS s7), (33, vS s8)] [34]) (aC (show True ∧ True from ⟨trivial, trivial⟩) <| aN) ?_
     refine Tn ?_
     refine Rg [.a, .a, .a, .a] (sg 19 [(4, vI (s8.length : Int)), (5, .c .niface)] [⟨[1001, 5], some (5, 1, acc.length + s8.length), strL acc ++ strL s8, true⟩, ⟨[5], none, [.bld [5] 89, .osl [1001, 5]], false⟩, bx [3] (encSDeck a1)] 37 [(0, vL encSCard a0), (3, vP [3] (0)), (5, vP [5] (0)), (6, vI i), (7, vI e2), (13, vL (eI .i64) a1.Cards), (14, vI (a1.Cards.length : Int)), (15, vI i), (20, vP [3] (1)), (21, vL (eI .i64) a1.Counts), (22, vI i), (23, vX (eI .i64) a1.Counts ((i).toNat * 1)), (24, vI e3), (25, vS r4), (26, vS s5), (27, vL encSCard a0), (28, vI e2), (29, vX encSCard a0 ((e2).toNat * 17)), (30, vX encSCard a0 ((e2).toNat * 17 + 0)), (31, vS e6.Name), (32, vS s7), (33, vS s8)] [34]) (aN) ?_
     refine Holds.ret ?_
     refine inQ.ret (v := .tup [vI (s8.length : Int), .c .niface]) (by kernel_rfl) ?_
     refine blockQ.normal ?_
     refine Tn ?_
     refine Ls (sl 37 [(0, vL encSCard a0), (3, vP [3] (0)), (5, vP [5] (0)), (13, vL (eI .i64) a1.Cards), (14, vI (a1.Cards.length : Int)), (15, vI i)] [⟨[1001, 5], some (5, 1, acc.length + s8.length), strL acc ++ strL s8, true⟩, ⟨[5], none, [.bld [5] 89, .osl [1001, 5]], false⟩, bx [3] (encSDeck a1)]) ?_
     refine AtE (sl 37 [(0, vL encSCard a0), (3, vP [3] (0)), (5, vP [5] (0)), (13, vL (eI .i64) a1.Cards), (14, vI (a1.Cards.length : Int)), (15, vI i)] [⟨[1001, 5], some (5, 1, (acc ++ s8).length), strL (acc ++ s8), true⟩, ⟨[5], none, [.bld [5] 89, .osl [1001, 5]], false⟩, bx [3] (encSDeck a1)]) (by rw [← strL_app, ← List.length_append]) ?_
     refine Re [.a, .a] (sl 37 [(0, vL encSCard a0), (3, vP [3] (0)), (5, vP [5] (0)), (13, vL (eI .i64) a1.Cards), (14, vI (a1.Cards.length : Int)), (15, vI (wrap64 (i + (1 : Int)))), (35, vI (wrap64 (i + (1 : Int))))] [⟨[1001, 5], some (5, 1, (acc ++ s8).length), strL (acc ++ s8), true⟩, ⟨[5], none, [.bld [5] 89, .osl [1001, 5]], false⟩, bx [3] (encSDeck a1)]) (aN) (Tn ⟨(wrap64 (i + (1 : Int)), acc ++ s8), (sI hz).symm, wT⟩)
   · obtain ⟨u, hu, hz⟩ := bS hz
     have ho_ := ho _ (sI hz).symm
     subst ho_
     refine Holds.exit ?_
     refine thenQ.exit ?_
     refine thenQ.exit ?_
     refine blockQ.out ?_
     refine Tn ?_
     refine Holds.seq ?_
     refine Holds.bstr (s := acc) (T := 89) (E := 5) (fun _ q => q) rfl (by kernel_rfl) rfl (fun B b l w q hBw => Tryd.Builder_String_any B b l w q hBw) (x := .tmp 5) rfl rfl (.inl ⟨[1001, 5], true, rfl, by decide, rfl, need_b hu⟩) rfl ?_
     refine Rw [.a] (sl 37 [(4, vS acc), (36, vS acc)] []) (aN) ?_
     refine Tn ?_
     refine Holds.ret ?_
     exact bQ (vS acc) (congrArg vS (sI h))
-- deck_formed_ok num_Text_ok

/-- cardgame/cardgameref23.Same -/
def r23_Same (a0 : SDeck) (a1 : SDeck) : Option (Bool) :=
 (r23_Ints a0.Cards a1.Cards).bind fun r1 =>
 (gd (r1 == true) (r23_Ints a0.Counts a1.Counts)).bind fun r2 =>
 (some (if r1 = true then r2 else false)).bind fun b3 =>
 some b3
def r23_Same_C (a0 : SDeck) (a1 : SDeck) (r : Bool) : Prop := PCall Tryd.prog I0 40 [vA encSDeck a0, vA encSDeck a1] (· = vB r)
theorem r23_Same_ok {a0 : SDeck} {a1 : SDeck} {r : Bool} (h : r23_Same a0 a1 = some r) : r23_Same_C a0 a1 r := by
 refine PCall.body I0_stable (by kernel_rfl) Tryd.func40 rfl Tryd.ntmps40 (rs := [.tmp 4]) rfl rfl ?_
 intro w0 av old gv
 unfold r23_Same at h
 refine Rg [.a, .a, .a] (sl 17 [(2, vP [2] (0)), (3, vP [3] (0))] [bx [3] (encSDeck a1), bx [2] (encSDeck a0)]) (aN) ?_
 obtain ⟨r1, hr1, h⟩ := bS h
 obtain ⟨r2, hr2, h⟩ := bS h
 obtain ⟨b3, hb3, h⟩ := bS h
 refine Rg [.a, .a, .a, .a, (.c (vB r1)), .a, .a, .a, .a, .a, (.c (vB r2)), (.v (vB b3)), .a] (sl 17 [(4, vB b3)] []) (aC (r23_Ints_ok hr1) <| aG (r1 == true) <| aG (r1 == true) <| aC (c2 hr2 r23_Ints_ok) <| aT r1 <| aB hb3 <| aN) ?_
 refine Holds.ret ?_
 exact bQ (vB b3) (congrArg vB (sI h))
/-- cardgame/num.Add -/
def num_Add (a0 : Int) (a1 : Int) : Option (Int) :=
 (num_Clamp a0).bind fun r1 =>
 (num_Clamp a1).bind fun r2 =>
 (num_Clamp (wrap64 (r1 + r2))).bind fun r3 =>
 some r3
def num_Add_C (a0 : Int) (a1 : Int) (r : Int) : Prop := PCall Tryd.prog I0 44 [vI a0, vI a1] (· = vI r)
theorem num_Add_ok {a0 : Int} {a1 : Int} {r : Int} (h : num_Add a0 a1 = some r) : num_Add_C a0 a1 r := by
 refine PCall.body I0_stable (by kernel_rfl) Tryd.func44 rfl Tryd.ntmps44 (rs := [.tmp 4]) rfl rfl ?_
 intro w0 av old gv
 unfold num_Add at h
 refine Rg [.a] (sl 11 [(0, vI a0), (1, vI a1)] []) (aN) ?_
 obtain ⟨r1, hr1, h⟩ := bS h
 obtain ⟨r2, hr2, h⟩ := bS h
 obtain ⟨r3, hr3, h⟩ := bS h
 refine Rg [.a, (.c (vI r1)), .a, (.c (vI r2)), .a, (.c (vI r3)), .a] (sl 11 [(4, vI r3)] []) (aC (num_Clamp_ok hr1) <| aC (num_Clamp_ok hr2) <| aC (num_Clamp_ok hr3) <| aN) ?_
 refine Holds.ret ?_
 exact bQ (vI r3) (congrArg vI (sI h))
/-- cardgame/word.Index -/
def word_Index (a0 : List (List UInt8)) (a1 : List UInt8) : Option (Int) :=
 (slices_Index_string_string a0 a1).bind fun r1 =>
 some r1
def word_Index_C (a0 : List (List UInt8)) (a1 : List UInt8) (r : Int) : Prop := PCall Tryd.prog I0 64 [vL eS a0, vS a1] (· = vI r)
theorem word_Index_ok {a0 : List (List UInt8)} {a1 : List UInt8} {r : Int} (h : word_Index a0 a1 = some r) : word_Index_C a0 a1 r := by
 refine PCall.body I0_stable (by kernel_rfl) Tryd.func64 rfl Tryd.ntmps64 (rs := [.tmp 4]) rfl rfl ?_
 intro w0 av old gv
 unfold word_Index at h
 refine Rg [.a] (sl 8 [(0, vL eS a0), (1, vS a1)] []) (aN) ?_
 obtain ⟨r1, hr1, h⟩ := bS h
 refine Rg [.a, .a, (.c (vI r1)), .a] (sl 8 [(4, vI r1)] []) (aC (slices_Index_string_string_ok hr1) <| aN) ?_
 refine Holds.ret ?_
 exact bQ (vI r1) (congrArg vI (sI h))
/-- cardgame/cardgameref01.Add -/
def r01_Add (a0 : Int) (a1 : Int) : Option (Int) :=
 (r01_Clamp a0).bind fun r1 =>
 (r01_Clamp a1).bind fun r2 =>
 (r01_Clamp (wrap64 (r1 + r2))).bind fun r3 =>
 some r3
def r01_Add_C (a0 : Int) (a1 : Int) (r : Int) : Prop := PCall Tryd.prog I0 45 [vI a0, vI a1] (· = vI r)
theorem r01_Add_ok {a0 : Int} {a1 : Int} {r : Int} (h : r01_Add a0 a1 = some r) : r01_Add_C a0 a1 r := by
 refine PCall.body I0_stable (by kernel_rfl) Tryd.func45 rfl Tryd.ntmps45 (rs := [.tmp 4]) rfl rfl ?_
 intro w0 av old gv
 unfold r01_Add at h
 refine Rg [.a] (sl 11 [(0, vI a0), (1, vI a1)] []) (aN) ?_
 obtain ⟨r1, hr1, h⟩ := bS h
 obtain ⟨r2, hr2, h⟩ := bS h
 obtain ⟨r3, hr3, h⟩ := bS h
 refine Rg [.a, (.c (vI r1)), .a, (.c (vI r2)), .a, (.c (vI r3)), .a] (sl 11 [(4, vI r3)] []) (aC (r01_Clamp_ok hr1) <| aC (r01_Clamp_ok hr2) <| aC (r01_Clamp_ok hr3) <| aN) ?_
 refine Holds.ret ?_
 exact bQ (vI r3) (congrArg vI (sI h))
end Go.PL
