/- Functions of the program, as partial functions in Lean, with proofs. -/
import Derived.Test.YtieikooalmfmfaaDoorPlDeB
namespace Go.PL
open Go Go.RowKit Go.Proofs
set_option maxRecDepth 100000
set_option linter.all false
set_option maxHeartbeats 1000000
attribute [local irreducible] Holds thenQ blockQ
/-- cardgame/cardgamelaw23.cards -/
def law23_cards : Option ((List (SCard))) :=
 some ([(⟨str_spring, false, (⟨(0 : Int), (0 : Int), (⟨(0 : Int), (0 : Int), (0 : Int), (0 : Int), (0 : Int)⟩ : A5 (Int))⟩ : SCost), (0 : Int), (⟨(1 : Int), (32 : Int), ([] : List (List UInt8))⟩ : SLine), (0 : Int), (0 : Int), (0 : Int), ([] : List (SAbility))⟩ : SCard), (⟨str_imp, true, (⟨(0 : Int), (0 : Int), (⟨(0 : Int), (0 : Int), (0 : Int), (0 : Int), (0 : Int)⟩ : A5 (Int))⟩ : SCost), (0 : Int), (⟨(0 : Int), (1 : Int), ([] : List (List UInt8))⟩ : SLine), (0 : Int), (0 : Int), (0 : Int), ([] : List (SAbility))⟩ : SCard), (⟨str_ember_fox, false, (⟨(0 : Int), (0 : Int), (⟨(0 : Int), (0 : Int), (0 : Int), (0 : Int), (0 : Int)⟩ : A5 (Int))⟩ : SCost), (0 : Int), (⟨(0 : Int), (1 : Int), ([] : List (List UInt8))⟩ : SLine), (2 : Int), (1 : Int), (0 : Int), ([] : List (SAbility))⟩ : SCard)] : List (SCard))
def law23_cards_C (r : (List (SCard))) : Prop := PCall Tryd.prog I0 39 [] (· = vL encSCard r)
theorem law23_cards_ok {r : (List (SCard))} (h : law23_cards  = some r) : law23_cards_C r := by
 refine PCall.body I0_stable (by kernel_rfl) Tryd.func39 rfl Tryd.ntmps39 (rs := [.tmp 0]) rfl rfl ?_
 intro w0 av old gv
 unfold law23_cards at h
 refine Rg [.a] (sl 8 [] []) (aN) ?_
 refine Rg [.a, .a, .a, .a, .a, .a, .a, .a] (sl 8 [(0, vO [7])] [rw_ [7] 86 17 encSCard ([(⟨str_spring, false, (⟨(0 : Int), (0 : Int), (⟨(0 : Int), (0 : Int), (0 : Int), (0 : Int), (0 : Int)⟩ : A5 (Int))⟩ : SCost), (0 : Int), (⟨(1 : Int), (32 : Int), ([] : List (List UInt8))⟩ : SLine), (0 : Int), (0 : Int), (0 : Int), ([] : List (SAbility))⟩ : SCard), (⟨str_imp, true, (⟨(0 : Int), (0 : Int), (⟨(0 : Int), (0 : Int), (0 : Int), (0 : Int), (0 : Int)⟩ : A5 (Int))⟩ : SCost), (0 : Int), (⟨(0 : Int), (1 : Int), ([] : List (List UInt8))⟩ : SLine), (0 : Int), (0 : Int), (0 : Int), ([] : List (SAbility))⟩ : SCard), (⟨str_ember_fox, false, (⟨(0 : Int), (0 : Int), (⟨(0 : Int), (0 : Int), (0 : Int), (0 : Int), (0 : Int)⟩ : A5 (Int))⟩ : SCost), (0 : Int), (⟨(0 : Int), (1 : Int), ([] : List (List UInt8))⟩ : SLine), (2 : Int), (1 : Int), (0 : Int), ([] : List (SAbility))⟩ : SCard)] : List (SCard))]) (aC (And.intro (show True ∧ (True ∧ True) from ⟨trivial, ⟨trivial, trivial⟩⟩) okp83) <| aC (And.intro (show True ∧ (True ∧ True) from ⟨trivial, ⟨trivial, trivial⟩⟩) okp86) <| aC (And.intro (show True ∧ True from ⟨trivial, trivial⟩) okp83) <| aC (And.intro (show True ∧ (True ∧ (True ∧ True)) from ⟨trivial, ⟨trivial, ⟨trivial, trivial⟩⟩⟩) okp86) <| aC (And.intro (show True ∧ True from ⟨trivial, trivial⟩) okp83) <| aC (And.intro (show True ∧ (True ∧ (True ∧ (True ∧ True))) from ⟨trivial, ⟨trivial, ⟨trivial, ⟨trivial, trivial⟩⟩⟩⟩) okp86) <| aN) ?_
 refine Holds.ret ?_
 exact bE (vO [7]) (vL encSCard ([(⟨str_spring, false, (⟨(0 : Int), (0 : Int), (⟨(0 : Int), (0 : Int), (0 : Int), (0 : Int), (0 : Int)⟩ : A5 (Int))⟩ : SCost), (0 : Int), (⟨(1 : Int), (32 : Int), ([] : List (List UInt8))⟩ : SLine), (0 : Int), (0 : Int), (0 : Int), ([] : List (SAbility))⟩ : SCard), (⟨str_imp, true, (⟨(0 : Int), (0 : Int), (⟨(0 : Int), (0 : Int), (0 : Int), (0 : Int), (0 : Int)⟩ : A5 (Int))⟩ : SCost), (0 : Int), (⟨(0 : Int), (1 : Int), ([] : List (List UInt8))⟩ : SLine), (0 : Int), (0 : Int), (0 : Int), ([] : List (SAbility))⟩ : SCard), (⟨str_ember_fox, false, (⟨(0 : Int), (0 : Int), (⟨(0 : Int), (0 : Int), (0 : Int), (0 : Int), (0 : Int)⟩ : A5 (Int))⟩ : SCost), (0 : Int), (⟨(0 : Int), (1 : Int), ([] : List (List UInt8))⟩ : SLine), (2 : Int), (1 : Int), (0 : Int), ([] : List (SAbility))⟩ : SCard)] : List (SCard))) (congrArg (vL encSCard) (sI h))
def word_Lines_J5  (l4_4 : List (List UInt8)) : Option ((List (List UInt8)) × Bool) :=
 some (l4_4, true)
def word_Lines_J17 (vt17_10 : Int) (begin_t5_15 : Int) (l4_16 : List (List UInt8)) : Option ((Int × Int × (List (List UInt8))) ⊕ ((List (List UInt8)))) :=
 some (.inl (begin_t5_15, (wrap64 (vt17_10 + (1 : Int))), l4_16))
def word_Lines_B13 (a0 : List UInt8) (begin_t5_9 : Int) (vt17_10 : Int) (l4_11 : List (List UInt8)) : Option ((Int × Int × (List (List UInt8))) ⊕ ((List (List UInt8)))) :=
 (if (decide (vt17_10 < (a0.length : Int))) = true then
  (sidx a0 vt17_10).bind fun c18 =>
  (if (c18 != (10 : Int)) = true then
   word_Lines_J17 vt17_10 begin_t5_9 l4_11
  else
   (ssub a0 begin_t5_9 vt17_10).bind fun s20 =>
   (app 16 l4_11 ([s20] : List (List UInt8))).bind fun l21 =>
   word_Lines_J17 vt17_10 (wrap64 (vt17_10 + (1 : Int))) l21)
 else
  some (.inr l4_11))
/-- cardgame/word.Lines -/
def word_Lines (a0 : List UInt8) : Option ((List (List UInt8)) × Bool) :=
 (if (a0 == ([] : List UInt8)) = true then
  some (([] : List (List UInt8)), true)
 else
  (sidx a0 (wrap64 ((a0.length : Int) - (1 : Int)))).bind fun c2 =>
  (if (c2 != (10 : Int)) = true then
   some (([] : List (List UInt8)), false)
  else
   (iter (fun (v : Int × Int × (List (List UInt8))) => word_Lines_B13 a0 v.1 v.2.1 v.2.2) FU ((0 : Int), (0 : Int), ([] : List (List UInt8)))).bind (fun o0 => word_Lines_J5 o0)))
def word_Lines_C (a0 : List UInt8) (r : (List (List UInt8)) × Bool) : Prop := PCall Tryd.prog I0 58 [vS a0] (· = .tup [vL eS r.1, vB r.2])
theorem word_Lines_ok {a0 : List UInt8} {r : (List (List UInt8)) × Bool} (h : word_Lines a0 = some r) : word_Lines_C a0 r := by
 refine PCall.body I0_stable (by kernel_rfl) Tryd.func58 rfl Tryd.ntmps58 (rs := [.tmp 2, .tmp 3]) rfl rfl ?_
 intro w0 av old gv
 unfold word_Lines at h
 refine Rg [.a, .a] (sl 35 [(0, vS a0)] []) (aN) ?_
 refine Holds.scope ?_
 refine Holds.seq ?_
 refine Rg [.a, .a] (sl 35 [(0, vS a0), (8, vB (a0 == ([] : List UInt8)))] []) (aN) ?_
 refine iB h (fun b1 h => ?_) (fun b1 h => ?_)
 · refine Rg [.a, .a] (sl 35 [(2, vO [2]), (3, vB true)] [rw_ [2] 9 1 eS ([] : List (List UInt8))]) (aN) ?_
   refine Holds.ret ?_
   refine Tr ?_
   refine scopeQ.ret ?_
   exact bE (.tup [vO [2], vB true]) (.tup [vL eS ([] : List (List UInt8)), vB true]) (congrArg (fun (q : (List (List UInt8)) × Bool) => (.tup [vL eS q.1, vB q.2] : V)) (sI h))
 · refine Holds.skip ?_
   refine Tn ?_
   refine Holds.seq ?_
   obtain ⟨c2, hc2, h⟩ := bS h
   refine Rg [.a, .a, .a, .a, (.v (.c (.int .u8 c2))), .a] (sl 35 [(0, vS a0), (14, vB (c2 != (10 : Int)))] []) (aC (sidx_b hc2) <| aC (congrArg (fun z => V.c (.int .u8 z)) (sidx_x hc2).symm) <| aN) ?_
   refine iB h (fun b3 h => ?_) (fun b3 h => ?_)
   · refine Rg [.a, .a] (sl 35 [(2, vO [2]), (3, vB false)] [rw_ [2] 9 1 eS ([] : List (List UInt8))]) (aN) ?_
     refine Holds.ret ?_
     refine Tr ?_
     refine scopeQ.ret ?_
     exact bE (.tup [vO [2], vB false]) (.tup [vL eS ([] : List (List UInt8)), vB false]) (congrArg (fun (q : (List (List UInt8)) × Bool) => (.tup [vL eS q.1, vB q.2] : V)) (sI h))
   · refine Holds.skip ?_
     refine Tn ?_
     refine Rg [.a] (sl 35 [(0, vS a0), (4, vO [4])] [rw_ [4] 9 1 eS ([] : List (List UInt8))]) (aN) ?_
     refine Rg [.a] (sl 35 [(0, vS a0), (4, vO [4]), (5, vI (0 : Int))] [rw_ [4] 9 1 eS ([] : List (List UInt8))]) (aN) ?_
     refine Holds.seq ?_
     refine Holds.label ?_
     refine Tn ?_
     refine Sj (X := (List (List UInt8))) (fun v => (sl 35 [(4, vO [4])] [rw_ [4] 9 1 eS v])) (fun v => word_Lines_J5 v = some r) ?_ ?_
     · refine Rg [.a, .a, .a] (sl 35 [(0, vS a0), (4, vO [4]), (5, vI (0 : Int)), (16, vI (a0.length : Int)), (17, vI (0 : Int))] [rw_ [4] 9 1 eS ([] : List (List UInt8))]) (aN) ?_
       refine Holds.block ?_
       obtain ⟨oB13, hiB13, h⟩ := bS h
       refine It (fun (v : Int × Int × (List (List UInt8))) => (sl 35 [(0, vS a0), (4, vO [4]), (5, vI v.1), (16, vI (a0.length : Int)), (17, vI v.2.1)] [rw_ [4] 9 1 eS v.2.2])) hiB13 (wT) ?_
       rintro ⟨begin_t5_9, vt17_10, l4_11⟩ zB13 hzB13 hoB13
       replace hzB13 : word_Lines_B13 a0 begin_t5_9 vt17_10 l4_11 = some zB13 := hzB13
       unfold word_Lines_B13 at hzB13
       refine Rg [.a] (sl 35 [(0, vS a0), (4, vO [4]), (5, vI begin_t5_9), (16, vI (a0.length : Int)), (17, vI vt17_10), (18, vB (decide (vt17_10 < (a0.length : Int))))] [rw_ [4] 9 1 eS l4_11]) (aN) ?_
       refine Holds.seq ?_
       refine iB hzB13 (fun b14 hzB13 => ?_) (fun b14 hzB13 => ?_)
       · refine Holds.skip ?_
         refine Tn ?_
         refine Sj (X := Int × (List (List UInt8))) (fun v => (sl 35 [(0, vS a0), (4, vO [4]), (5, vI v.1), (16, vI (a0.length : Int)), (17, vI vt17_10)] [rw_ [4] 9 1 eS v.2])) (fun v => word_Lines_J17 vt17_10 v.1 v.2 = some zB13) ?_ ?_
         · refine Holds.block ?_
           refine Rg [.a, .a] (sl 35 [(0, vS a0), (4, vO [4]), (5, vI begin_t5_9), (6, vI vt17_10), (16, vI (a0.length : Int)), (17, vI vt17_10)] [rw_ [4] 9 1 eS l4_11]) (aN) ?_
           refine Holds.seq ?_
           obtain ⟨c18, hc18, hzB13⟩ := bS hzB13
           refine Rg [.a, .a, (.v (.c (.int .u8 c18))), .a] (sl 35 [(0, vS a0), (4, vO [4]), (5, vI begin_t5_9), (6, vI vt17_10), (16, vI (a0.length : Int)), (17, vI vt17_10), (23, vB (c18 != (10 : Int)))] [rw_ [4] 9 1 eS l4_11]) (aC (sidx_b hc18) <| aC (congrArg (fun z => V.c (.int .u8 z)) (sidx_x hc18).symm) <| aN) ?_
           refine iB hzB13 (fun b19 hzB13 => ?_) (fun b19 hzB13 => ?_)
           · refine Holds.exit ?_
             refine thenQ.exit ?_
             refine blockQ.out ?_
             refine Tn ⟨(begin_t5_9, l4_11), hzB13, wT⟩
           · refine Holds.skip ?_
             refine Tn ?_
             obtain ⟨s20, hs20, hzB13⟩ := bS hzB13
             obtain ⟨l21, hl21, hzB13⟩ := bS hzB13
             refine Rg [.a, .a, .a, .a, (.v (vS s20)), .a, (.e l21.length (l21.flatMap (eS))), .a] (sl 35 [(0, vS a0), (4, vO [4]), (6, vI vt17_10), (16, vI (a0.length : Int)), (17, vI vt17_10)] [rw_ [4] 9 1 eS l21]) (aC (ssub_b hs20) <| aC (congrArg (fun z => V.c (.str z)) (ssub_x hs20).symm) <| aC (ap1 hl21 eS) <| aC (app_b hl21) <| aN) ?_
             refine Re [.a, .a, .a] (sl 35 [(0, vS a0), (4, vO [4]), (5, vI (wrap64 (vt17_10 + (1 : Int)))), (6, vI vt17_10), (16, vI (a0.length : Int)), (17, vI vt17_10), (31, vI vt17_10), (32, vI (wrap64 (vt17_10 + (1 : Int))))] [rw_ [4] 9 1 eS l21]) (aN) ?_
             refine blockQ.normal ?_
             refine Tn ⟨((wrap64 (vt17_10 + (1 : Int))), l21), hzB13, wT⟩
         · rintro ⟨begin_t5_15, l4_16⟩ hJ17
           replace hJ17 : word_Lines_J17 vt17_10 begin_t5_15 l4_16 = some zB13 := hJ17
           unfold word_Lines_J17 at hJ17
           refine Re [.a, .a] (sl 35 [(0, vS a0), (4, vO [4]), (5, vI begin_t5_15), (16, vI (a0.length : Int)), (17, vI (wrap64 (vt17_10 + (1 : Int)))), (33, vI (wrap64 (vt17_10 + (1 : Int))))] [rw_ [4] 9 1 eS l4_16]) (aN) ?_
           refine Tn ⟨(begin_t5_15, (wrap64 (vt17_10 + (1 : Int))), l4_16), (sI hJ17).symm, wT⟩
       · refine Holds.exit ?_
         refine thenQ.exit ?_
         have hoB13_ := hoB13 _ (sI hzB13).symm
         subst hoB13_
         refine thenQ.exit ?_
         refine blockQ.out ?_
         refine Tn ⟨l4_11, h, wT⟩
     · rintro l4_4 hJ5
       replace hJ5 : word_Lines_J5 l4_4 = some r := hJ5
       unfold word_Lines_J5 at hJ5
       refine Rg [.a, .a, .a] (sl 35 [(2, vO [4]), (3, vB true)] [rw_ [4] 9 1 eS l4_4]) (aN) ?_
       refine Holds.ret ?_
       refine scopeQ.ret ?_
       exact bE (.tup [vO [4], vB true]) (.tup [vL eS l4_4, vB true]) (congrArg (fun (q : (List (List UInt8)) × Bool) => (.tup [vL eS q.1, vB q.2] : V)) (sI hJ5))
/-- internal/stringslite.Index -/
def internal_stringslite_Index (a0 : List UInt8) (a1 : List UInt8) : Option (Int) :=
 (some (if ((a1.length : Int) == (0 : Int)) = true then true else a1 == a0)).bind fun b1 =>
 (if b1 = true then
  some (0 : Int)
 else
  (if ((a1.length : Int) == (1 : Int)) = true then
   (sidx a1 (0 : Int)).bind fun c4 =>
   (dIndexByte a0 c4).bind fun r5 =>
   some r5
  else
   (if (decide ((a0.length : Int) ≤ (a1.length : Int))) = true then
    some (-1 : Int)
   else
    none)))
def internal_stringslite_Index_C (a0 : List UInt8) (a1 : List UInt8) (r : Int) : Prop := PCall Tryd.prog I0 94 [vS a0, vS a1] (· = vI r)
theorem internal_stringslite_Index_ok {a0 : List UInt8} {a1 : List UInt8} {r : Int} (h : internal_stringslite_Index a0 a1 = some r) : internal_stringslite_Index_C a0 a1 r := by
 refine PCall.body I0_stable (by kernel_rfl) Tryd.func94 rfl Tryd.ntmps94 (rs := [.tmp 4]) rfl rfl ?_
 intro w0 av old gv
 unfold internal_stringslite_Index at h
 refine Rg [.a] (sl 143 [(0, vS a0), (1, vS a1)] []) (aN) ?_
 refine Rg [.a, .a, .a] (sl 143 [(0, vS a0), (1, vS a1), (5, vI (a1.length : Int))] []) (aN) ?_
 refine Holds.seq ?_
 refine Holds.block ?_
 obtain ⟨b1, hb1, h⟩ := bS h
 refine Rg [.a, .a, .a, .a, .a, .a, (.v (vB b1)), .a] (sl 143 [(0, vS a0), (1, vS a1), (5, vI (a1.length : Int)), (16, vB b1)] []) (aH (((a1.length : Int) == (0 : Int)) == false) <| aF ((a1.length : Int) == (0 : Int)) <| aB hb1 <| aN) ?_
 refine iB h (fun b2 h => ?_) (fun b2 h => ?_)
 · refine Rg [.a] (sl 143 [(4, vI (0 : Int))] []) (aN) ?_
   refine Holds.ret ?_
   refine blockQ.ret ?_
   refine Tr ?_
   exact bQ (vI (0 : Int)) (congrArg vI (sI h))
 · refine Rg [.a, .a, .a] (sl 143 [(0, vS a0), (1, vS a1), (5, vI (a1.length : Int)), (24, vB ((a1.length : Int) == (1 : Int)))] []) (aN) ?_
   refine iB h (fun b3 h => ?_) (fun b3 h => ?_)
   · obtain ⟨c4, hc4, h⟩ := bS h
     obtain ⟨r5, hr5, h⟩ := bS h
     refine Rg [.a, .a, (.v (.c (.int .u8 c4))), (.c (vI r5)), .a] (sl 143 [(4, vI r5)] []) (aC (sidx_b hc4) <| aC (congrArg (fun z => V.c (.int .u8 z)) (sidx_x hc4).symm) <| aC (okIndexByteL hr5) <| aN) ?_
     refine Holds.ret ?_
     refine blockQ.ret ?_
     refine Tr ?_
     exact bQ (vI r5) (congrArg vI (sI h))
   · refine Rg [.a, .a, .a, .a, .a] (sl 143 [(0, vS a0), (1, vS a1), (5, vI (a1.length : Int)), (31, vB (decide ((a0.length : Int) ≤ (a1.length : Int))))] []) (aN) ?_
     refine iB h (fun b6 h => ?_) (fun b6 h => ?_)
     · refine Rg [.a] (sl 143 [(4, vI (-1 : Int))] []) (aN) ?_
       refine Holds.ret ?_
       refine blockQ.ret ?_
       refine Tr ?_
       exact bQ (vI (-1 : Int)) (congrArg vI (sI h))
     · cases h
/-- cardgame/num.Clamp -/
def num_Clamp (a0 : Int) : Option (Int) :=
 some (if (1000000 : Int) < (if a0 < (-1000000 : Int) then (-1000000 : Int) else a0) then (1000000 : Int) else (if a0 < (-1000000 : Int) then (-1000000 : Int) else a0))
def num_Clamp_C (a0 : Int) (r : Int) : Prop := PCall Tryd.prog I0 65 [vI a0] (· = vI r)
theorem num_Clamp_ok {a0 : Int} {r : Int} (h : num_Clamp a0 = some r) : num_Clamp_C a0 r := by
 refine PCall.body I0_stable (by kernel_rfl) Tryd.func65 rfl Tryd.ntmps65 (rs := [.tmp 2]) rfl rfl ?_
 intro w0 av old gv
 unfold num_Clamp at h
 refine Rg [.a] (sl 6 [(0, vI a0)] []) (aN) ?_
 refine Rg [.a, .a, .a, .a] (sl 6 [(2, vI (if (1000000 : Int) < (if a0 < (-1000000 : Int) then (-1000000 : Int) else a0) then (1000000 : Int) else (if a0 < (-1000000 : Int) then (-1000000 : Int) else a0)))] []) (aC (show (True ∧ (True ∧ True)) ∧ True from ⟨⟨trivial, ⟨trivial, trivial⟩⟩, trivial⟩) <| aC (show (True ∧ (True ∧ True)) ∧ True from ⟨⟨trivial, ⟨trivial, trivial⟩⟩, trivial⟩) <| aN) ?_
 refine Holds.ret ?_
 exact bQ (vI (if (1000000 : Int) < (if a0 < (-1000000 : Int) then (-1000000 : Int) else a0) then (1000000 : Int) else (if a0 < (-1000000 : Int) then (-1000000 : Int) else a0))) (congrArg vI (sI h))
/-- cardgame/num.Text -/
def num_Text (a0 : Int) : Option ((List UInt8)) :=
 (dItoa a0).bind fun r1 =>
 some r1
def num_Text_C (a0 : Int) (r : (List UInt8)) : Prop := PCall Tryd.prog I0 48 [vI a0] (· = vS r)
theorem num_Text_ok {a0 : Int} {r : (List UInt8)} (h : num_Text a0 = some r) : num_Text_C a0 r := by
 refine PCall.body I0_stable (by kernel_rfl) Tryd.func48 rfl Tryd.ntmps48 (rs := [.tmp 2]) rfl rfl ?_
 intro w0 av old gv
 unfold num_Text at h
 refine Rg [.a] (sl 5 [(0, vI a0)] []) (aN) ?_
 obtain ⟨r1, hr1, h⟩ := bS h
 refine Rg [.a, (.c (vS r1)), .a] (sl 5 [(2, vS r1)] []) (aC (okItoa hr1) <| aN) ?_
 refine Holds.ret ?_
 exact bQ (vS r1) (congrArg vS (sI h))
def catalog_Find_J2  (vt7_1 : Int) : Option (Int) :=
 some vt7_1
def catalog_Find_J3  : Option (Int) :=
 catalog_Find_J2 (-1 : Int)
def catalog_Find_B7 (a0 : List (SCard)) (a1 : List UInt8) (vt8_5 : Int) : Option ((Int) ⊕ (Int ⊕ Unit)) :=
 (if (decide (vt8_5 < (a0.length : Int))) = true then
  (idx a0 vt8_5).bind fun e9 =>
  (if (e9.Name == a1) = true then
   some (.inr (.inl vt8_5))
  else
   some (.inl (wrap64 (vt8_5 + (1 : Int)))))
 else
  some (.inr (.inr ())))
/-- cardgame/catalog.Find -/
def catalog_Find (a0 : List (SCard)) (a1 : List UInt8) : Option (Int) :=
 (iter (fun (v : Int) => catalog_Find_B7 a0 a1 v) FU (0 : Int)).bind (Sum.elim (fun o0 => catalog_Find_J2 o0) (fun o1 => catalog_Find_J3))
def catalog_Find_C (a0 : List (SCard)) (a1 : List UInt8) (r : Int) : Prop := PCall Tryd.prog I0 60 [vL encSCard a0, vS a1] (· = vI r)
theorem catalog_Find_ok {a0 : List (SCard)} {a1 : List UInt8} {r : Int} (h : catalog_Find a0 a1 = some r) : catalog_Find_C a0 a1 r := by
 refine PCall.body I0_stable (by kernel_rfl) Tryd.func60 rfl Tryd.ntmps60 (rs := [.tmp 4]) rfl rfl ?_
 intro w0 av old gv
 unfold catalog_Find at h
 refine Rg [.a, .a] (sl 8 [(0, vL encSCard a0), (3, vP [3] (0))] [bx [3] [.str a1]]) (aN) ?_
 refine Holds.seq ?_
 refine Holds.region ?_
 refine Rp 2 [.a, .a] (sl 8 [(0, vL encSCard a0), (3, vP [3] (0)), (5, vL encSCard a0), (6, .c (.clo 81 [.ptr [3] (0)]))] [bx [3] [.str a1]]) (aC (show True ∧ True from ⟨trivial, trivial⟩) <| aN) ?_
 refine Run.inlJ (X := Int) (fun v => (sl 8 [(7, vI v)] [])) (fun v => catalog_Find_J2 v = some r) rfl rfl (Esc.inline (s := True ∧ (True ∧ True)) (vs := [vL encSCard a0, .c (.clo 81 [.ptr [3] (0)])]) (cs := []) 7 rfl rfl rfl (by kernel_rfl) ⟨trivial, ⟨trivial, trivial⟩⟩ (by kernel_rfl) (by kernel_rfl) Tryd.func80 rfl Tryd.ntmps80 (rs := [.tmp 4]) rfl ?_) ?_
 · intro w00 av0 old0 gv0
   refine At (sg 19 [(0, vL encSCard a0), (1, .c (.clo 81 [.ptr [3] (0)]))] [bx [3] [.str a1]] 8 [(0, vL encSCard a0), (3, vP [3] (0)), (5, vL encSCard a0), (6, .c (.clo 81 [.ptr [3] (0)]))] [7]) ?_
   refine Rg [.a] (sg 19 [(0, vL encSCard a0), (1, .c (.clo 81 [.ptr [3] (0)]))] [bx [3] [.str a1]] 8 [(0, vL encSCard a0), (3, vP [3] (0)), (5, vL encSCard a0), (6, .c (.clo 81 [.ptr [3] (0)]))] [7]) (aN) ?_
   refine Sj (X := Unit) (fun v => (sg 19 [] [bx [3] [.str a1]] 8 [(0, vL encSCard a0), (3, vP [3] (0)), (5, vL encSCard a0), (6, .c (.clo 81 [.ptr [3] (0)]))] [7])) (fun v => catalog_Find_J3 = some r) ?_ ?_
   · refine Rg [.a, .a, .a] (sg 19 [(0, vL encSCard a0), (1, .c (.clo 81 [.ptr [3] (0)])), (7, vI (a0.length : Int)), (8, vI (0 : Int))] [bx [3] [.str a1]] 8 [(0, vL encSCard a0), (3, vP [3] (0)), (5, vL encSCard a0), (6, .c (.clo 81 [.ptr [3] (0)]))] [7]) (aN) ?_
     refine Holds.block ?_
     obtain ⟨oB7, hiB7, h⟩ := bS h
     refine It (fun (v : Int) => (sg 19 [(0, vL encSCard a0), (1, .c (.clo 81 [.ptr [3] (0)])), (7, vI (a0.length : Int)), (8, vI v)] [bx [3] [.str a1]] 8 [(0, vL encSCard a0), (3, vP [3] (0)), (5, vL encSCard a0), (6, .c (.clo 81 [.ptr [3] (0)]))] [7])) hiB7 (wT) ?_
     rintro vt8_5 zB7 hzB7 hoB7
     replace hzB7 : catalog_Find_B7 a0 a1 vt8_5 = some zB7 := hzB7
     unfold catalog_Find_B7 at hzB7
     refine Rg [.a] (sg 19 [(0, vL encSCard a0), (1, .c (.clo 81 [.ptr [3] (0)])), (7, vI (a0.length : Int)), (8, vI vt8_5), (9, vB (decide (vt8_5 < (a0.length : Int))))] [bx [3] [.str a1]] 8 [(0, vL encSCard a0), (3, vP [3] (0)), (5, vL encSCard a0), (6, .c (.clo 81 [.ptr [3] (0)]))] [7]) (aN) ?_
     refine Holds.seq ?_
     refine iB hzB7 (fun b8 hzB7 => ?_) (fun b8 hzB7 => ?_)
     · refine Holds.skip ?_
       refine Tn ?_
       refine Holds.seq ?_
       refine Holds.block ?_
       refine Rg [.a, .a] (sg 19 [(0, vL encSCard a0), (1, .c (.clo 81 [.ptr [3] (0)])), (5, vI vt8_5), (7, vI (a0.length : Int)), (8, vI vt8_5)] [bx [3] [.str a1]] 8 [(0, vL encSCard a0), (3, vP [3] (0)), (5, vL encSCard a0), (6, .c (.clo 81 [.ptr [3] (0)]))] [7]) (aN) ?_
       refine Holds.seq ?_
       refine Holds.region ?_
       obtain ⟨e9, he9, hzB7⟩ := bS hzB7
       refine Rp 5 [.a, .a, .a, .a, (.v (vA encSCard e9))] (sg 19 [(0, vL encSCard a0), (1, .c (.clo 81 [.ptr [3] (0)])), (5, vI vt8_5), (7, vI (a0.length : Int)), (8, vI vt8_5), (11, .c (.clo 81 [.ptr [3] (0)])), (12, vL encSCard a0), (13, vI vt8_5), (14, vX encSCard a0 ((vt8_5).toNat * 17)), (15, vA encSCard e9)] [bx [3] [.str a1]] 8 [(0, vL encSCard a0), (3, vP [3] (0)), (5, vL encSCard a0), (6, .c (.clo 81 [.ptr [3] (0)]))] [7]) (aC (idx_b he9) <| aC (eld he9 lenSCard 0 17 true (vA encSCard e9)) <| aC (Eq.refl (vA encSCard e9)) <| aN) ?_
       refine Run.inl rfl rfl (Esc.inline (s := True ∧ True) (vs := [vA encSCard e9]) (cs := [.ptr [3] (0)]) 16 rfl rfl rfl (by kernel_rfl) ⟨trivial, trivial⟩ (by kernel_rfl) (by kernel_rfl) Tryd.func81 rfl Tryd.ntmps81 (rs := [.tmp 3]) rfl ?_)
       intro w09 av9 old9 gv9
       refine At (sg 8 [(0, vA encSCard e9), (1, vP [3] (0))] [bx [3] [.str a1]] 27 [(0, vL encSCard a0), (1, .c (.clo 81 [.ptr [3] (0)])), (5, vI vt8_5), (7, vI (a0.length : Int)), (8, vI vt8_5), (11, .c (.clo 81 [.ptr [3] (0)])), (12, vL encSCard a0), (13, vI vt8_5), (14, vX encSCard a0 ((vt8_5).toNat * 17)), (15, vA encSCard e9), (19, vL encSCard a0), (22, vP [3] (0)), (24, vL encSCard a0), (25, .c (.clo 81 [.ptr [3] (0)]))] [16, 7]) ?_
       refine Rg [.a, .a] (sg 8 [(1, vP [3] (0)), (2, vP [2, 16, 7] (0))] [bx [2, 16, 7] (encSCard e9), bx [3] [.str a1]] 27 [(0, vL encSCard a0), (1, .c (.clo 81 [.ptr [3] (0)])), (5, vI vt8_5), (7, vI (a0.length : Int)), (8, vI vt8_5), (11, .c (.clo 81 [.ptr [3] (0)])), (12, vL encSCard a0), (13, vI vt8_5), (14, vX encSCard a0 ((vt8_5).toNat * 17)), (15, vA encSCard e9), (19, vL encSCard a0), (22, vP [3] (0)), (24, vL encSCard a0), (25, .c (.clo 81 [.ptr [3] (0)]))] [16, 7]) (aN) ?_
       refine Rg [.a, .a, .a, .a, .a] (sg 8 [(3, vB (e9.Name == a1))] [bx [3] [.str a1]] 27 [(0, vL encSCard a0), (1, .c (.clo 81 [.ptr [3] (0)])), (5, vI vt8_5), (7, vI (a0.length : Int)), (8, vI vt8_5), (11, .c (.clo 81 [.ptr [3] (0)])), (12, vL encSCard a0), (13, vI vt8_5), (14, vX encSCard a0 ((vt8_5).toNat * 17)), (15, vA encSCard e9), (19, vL encSCard a0), (22, vP [3] (0)), (24, vL encSCard a0), (25, .c (.clo 81 [.ptr [3] (0)]))] [16, 7]) (aN) ?_
       refine Holds.ret ?_
       refine inQ.ret (v := vB (e9.Name == a1)) (by kernel_rfl) ?_
       refine Rw [] (sg 19 [(0, vL encSCard a0), (1, .c (.clo 81 [.ptr [3] (0)])), (5, vI vt8_5), (7, vI (a0.length : Int)), (8, vI vt8_5), (11, .c (.clo 81 [.ptr [3] (0)])), (12, vL encSCard a0), (13, vI vt8_5), (14, vX encSCard a0 ((vt8_5).toNat * 17)), (15, vA encSCard e9), (16, vB (e9.Name == a1))] [bx [3] [.str a1]] 8 [(0, vL encSCard a0), (3, vP [3] (0)), (5, vL encSCard a0), (6, .c (.clo 81 [.ptr [3] (0)]))] [7]) (aN) ?_
       refine Tn ?_
       refine iB hzB7 (fun b10 hzB7 => ?_) (fun b10 hzB7 => ?_)
       · refine Rg [.a, .a] (sg 19 [(4, vI vt8_5)] [bx [3] [.str a1]] 8 [(0, vL encSCard a0), (3, vP [3] (0)), (5, vL encSCard a0), (6, .c (.clo 81 [.ptr [3] (0)]))] [7]) (aN) ?_
         refine Holds.ret ?_
         refine blockQ.ret ?_
         refine Tr ?_
         have hoB7_ := hoB7 _ (sI hzB7).symm
         subst hoB7_
         replace h := sumL h
         refine Tr ?_
         refine blockQ.ret ?_
         refine Tr ?_
         refine inQ.ret (v := vI vt8_5) (by kernel_rfl) ⟨vt8_5, h, lT⟩
       · refine Holds.skip ?_
         refine blockQ.normal ?_
         refine Tn ?_
         refine Re [.a, .a] (sg 19 [(0, vL encSCard a0), (1, .c (.clo 81 [.ptr [3] (0)])), (5, vI vt8_5), (7, vI (a0.length : Int)), (8, vI (wrap64 (vt8_5 + (1 : Int)))), (11, .c (.clo 81 [.ptr [3] (0)])), (12, vL encSCard a0), (13, vI vt8_5), (14, vX encSCard a0 ((vt8_5).toNat * 17)), (15, vA encSCard e9), (16, vB (e9.Name == a1)), (18, vI (wrap64 (vt8_5 + (1 : Int))))] [bx [3] [.str a1]] 8 [(0, vL encSCard a0), (3, vP [3] (0)), (5, vL encSCard a0), (6, .c (.clo 81 [.ptr [3] (0)]))] [7]) (aN) ?_
         refine Tn ⟨(wrap64 (vt8_5 + (1 : Int))), (sI hzB7).symm, wT⟩
     · refine Holds.exit ?_
       refine thenQ.exit ?_
       have hoB7_ := hoB7 _ (sI hzB7).symm
       subst hoB7_
       replace h := sumR h
       refine thenQ.exit ?_
       refine blockQ.out ?_
       refine Tn ⟨(), h, wT⟩
   · rintro _ hJ3
     replace hJ3 : catalog_Find_J3 = some r := hJ3
     unfold catalog_Find_J3 at hJ3
     refine Rg [.a] (sg 19 [(4, vI (-1 : Int))] [bx [3] [.str a1]] 8 [(0, vL encSCard a0), (3, vP [3] (0)), (5, vL encSCard a0), (6, .c (.clo 81 [.ptr [3] (0)]))] [7]) (aN) ?_
     refine Holds.ret ?_
     refine inQ.ret (v := vI (-1 : Int)) (by kernel_rfl) ⟨(-1 : Int), hJ3, lT⟩
 · rintro vt7_1 hJ2
   replace hJ2 : catalog_Find_J2 vt7_1 = some r := hJ2
   unfold catalog_Find_J2 at hJ2
   refine Rw [.a] (sl 8 [(4, vI vt7_1), (7, vI vt7_1)] []) (aN) ?_
   refine Tn ?_
   refine Holds.ret ?_
   exact bQ (vI vt7_1) (congrArg vI (sI hJ2))
def deck_formed_J2  : Option (Bool) :=
 some true
def deck_formed_B5 (a0 : List (SCard)) (a1 : SDeck) (vt17_4 : Int) : Option ((Int) ⊕ (Unit ⊕ Unit)) :=
 (if (decide (vt17_4 < (a1.Cards.length : Int))) = true then
  (idx a1.Cards vt17_4).bind fun e7 =>
  (some (if (decide (e7 < (0 : Int))) = true then true else decide ((a0.length : Int) ≤ e7))).bind fun b8 =>
  (gd (b8 == false) (idx a0 e7)).bind fun e9 =>
  (some (if b8 = true then true else e9.Token)).bind fun b10 =>
  (gd (b10 == false) (idx a1.Counts vt17_4)).bind fun e11 =>
  (some (if b10 = true then true else decide (e11 < (1 : Int)))).bind fun b12 =>
  (gd (b12 == false) (idx a1.Counts vt17_4)).bind fun e13 =>
  (some (if b12 = true then true else decide ((250 : Int) < e13))).bind fun b14 =>
  (gd ((b14 == false) && ((decide ((0 : Int) < vt17_4)) == true)) (idx a1.Cards (wrap64 (vt17_4 - (1 : Int))))).bind fun e15 =>
  (some (if (decide ((0 : Int) < vt17_4)) = true then decide (e7 ≤ e15) else false)).bind fun b16 =>
  (some (if b14 = true then true else b16)).bind fun b17 =>
  (if b17 = true then
   some (.inr (.inl ()))
  else
   some (.inl (wrap64 (vt17_4 + (1 : Int)))))
 else
  some (.inr (.inr ())))
/-- cardgame/deck.formed -/
def deck_formed (a0 : List (SCard)) (a1 : SDeck) : Option (Bool) :=
 (if ((a1.Cards.length : Int) != (a1.Counts.length : Int)) = true then
  some false
 else
  (iter (fun (v : Int) => deck_formed_B5 a0 a1 v) FU (0 : Int)).bind (Sum.elim (fun o0 => some false) (fun o1 => deck_formed_J2)))
def deck_formed_C (a0 : List (SCard)) (a1 : SDeck) (r : Bool) : Prop := PCall Tryd.prog I0 61 [vL encSCard a0, vA encSDeck a1] (· = vB r)
theorem deck_formed_ok {a0 : List (SCard)} {a1 : SDeck} {r : Bool} (h : deck_formed a0 a1 = some r) : deck_formed_C a0 a1 r := by
 refine PCall.body I0_stable (by kernel_rfl) Tryd.func61 rfl Tryd.ntmps61 (rs := [.tmp 4]) rfl rfl ?_
 intro w0 av old gv
 unfold deck_formed at h
 refine Rg [.a, .a] (sl 68 [(0, vL encSCard a0), (3, vP [3] (0))] [bx [3] (encSDeck a1)]) (aN) ?_
 refine Holds.seq ?_
 refine Rg [.a, .a, .a, .a, .a, .a, .a] (sl 68 [(0, vL encSCard a0), (3, vP [3] (0)), (13, vB ((a1.Cards.length : Int) != (a1.Counts.length : Int)))] [bx [3] (encSDeck a1)]) (aN) ?_
 refine iB h (fun b1 h => ?_) (fun b1 h => ?_)
 · refine Rg [.a] (sl 68 [(4, vB false)] []) (aN) ?_
   refine Holds.ret ?_
   refine Tr ?_
   exact bQ (vB false) (congrArg vB (sI h))
 · refine Holds.skip ?_
   refine Tn ?_
   refine Sj (X := Unit) (fun v => (sl 68 [] [])) (fun v => deck_formed_J2 = some r) ?_ ?_
   · refine Rg [.a, .a, .a, .a] (sl 68 [(0, vL encSCard a0), (3, vP [3] (0)), (15, vL (eI .i64) a1.Cards), (16, vI (a1.Cards.length : Int)), (17, vI (0 : Int))] [bx [3] (encSDeck a1)]) (aN) ?_
     refine Holds.block ?_
     obtain ⟨oB5, hiB5, h⟩ := bS h
     refine It (fun (v : Int) => (sl 68 [(0, vL encSCard a0), (3, vP [3] (0)), (15, vL (eI .i64) a1.Cards), (16, vI (a1.Cards.length : Int)), (17, vI v)] [bx [3] (encSDeck a1)])) hiB5 (wT) ?_
     rintro vt17_4 zB5 hzB5 hoB5
     replace hzB5 : deck_formed_B5 a0 a1 vt17_4 = some zB5 := hzB5
     unfold deck_formed_B5 at hzB5
     refine Rg [.a] (sl 68 [(0, vL encSCard a0), (3, vP [3] (0)), (15, vL (eI .i64) a1.Cards), (16, vI (a1.Cards.length : Int)), (17, vI vt17_4), (18, vB (decide (vt17_4 < (a1.Cards.length : Int))))] [bx [3] (encSDeck a1)]) (aN) ?_
     refine Holds.seq ?_
     refine iB hzB5 (fun b6 hzB5 => ?_) (fun b6 hzB5 => ?_)
     · refine Holds.skip ?_
       refine Tn ?_
       refine Holds.seq ?_
       refine Holds.block ?_
       obtain ⟨e7, he7, hzB5⟩ := bS hzB5
       refine Rg [.a, .a, (.v (vI e7)), .a, .a] (sl 68 [(0, vL encSCard a0), (3, vP [3] (0)), (5, vI vt17_4), (6, vI e7), (15, vL (eI .i64) a1.Cards), (16, vI (a1.Cards.length : Int)), (17, vI vt17_4)] [bx [3] (encSDeck a1)]) (aC (idx_b he7) <| aC (eld he7 (lenI .i64) 0 1 false (vI e7)) <| aC (Eq.refl (vI e7)) <| aN) ?_
       obtain ⟨b8, hb8, hzB5⟩ := bS hzB5
       obtain ⟨e9, he9, hzB5⟩ := bS hzB5
       obtain ⟨b10, hb10, hzB5⟩ := bS hzB5
       obtain ⟨e11, he11, hzB5⟩ := bS hzB5
       obtain ⟨b12, hb12, hzB5⟩ := bS hzB5
       obtain ⟨e13, he13, hzB5⟩ := bS hzB5
       obtain ⟨b14, hb14, hzB5⟩ := bS hzB5
       obtain ⟨e15, he15, hzB5⟩ := bS hzB5
       obtain ⟨b16, hb16, hzB5⟩ := bS hzB5
       obtain ⟨b17, hb17, hzB5⟩ := bS hzB5
       refine Rg [.a, .a, .a, .a, .a, .a, .a, (.v (vB b8)), .a, .a, .a, .a, .a, (.v (vB e9.Token)), (.v (vB b10)), .a, .a, .a, .a, .a, (.v (vI e11)), .a, (.v (vB b12)), .a, .a, .a, .a, .a, (.v (vI e13)), .a, (.v (vB b14)), .a, .a, .a, .a, .a, .a, .a, .a, .a, (.v (vI e15)), .a, .a, (.v (vB b16)), (.v (vB b17))] (sl 68 [(0, vL encSCard a0), (3, vP [3] (0)), (15, vL (eI .i64) a1.Cards), (16, vI (a1.Cards.length : Int)), (17, vI vt17_4), (66, vB b17)] [bx [3] (encSDeck a1)]) (aG ((decide (e7 < (0 : Int))) == false) <| aH ((decide (e7 < (0 : Int))) == false) <| aF (decide (e7 < (0 : Int))) <| aB hb8 <| aC (fun hg : (b8 == false) = true => aC (gi (b8 == false)) <| aC (gi (b8 == false)) <| aC (gidx_b he9 hg).1 <| aN) <| aG (b8 == false) <| aC (fun hg : (b8 == false) = true => aC (gi (b8 == false)) <| aC (eld (gd_t he9 hg) lenSCard 1 1 false (vB e9.Token)) <| aC (Eq.refl (vB e9.Token)) <| aN) <| aF b8 <| aB hb10 <| aG (b10 == false) <| aC (fun hg : (b10 == false) = true => aC (gi (b10 == false)) <| aC (gi (b10 == false)) <| aC (gidx_b he11 hg).1 <| aN) <| aC (fun hg : (b10 == false) = true => aC (gi (b10 == false)) <| aC (eld (gd_t he11 hg) (lenI .i64) 0 1 false (vI e11)) <| aC (Eq.refl (vI e11)) <| aN) <| aG (b10 == false) <| aF b10 <| aB hb12 <| aG (b12 == false) <| aC (fun hg : (b12 == false) = true => aC (gi (b12 == false)) <| aC (gi (b12 == false)) <| aC (gidx_b he13 hg).1 <| aN) <| aC (fun hg : (b12 == false) = true => aC (gi (b12 == false)) <| aC (eld (gd_t he13 hg) (lenI .i64) 0 1 false (vI e13)) <| aC (Eq.refl (vI e13)) <| aN) <| aG (b12 == false) <| aF b12 <| aB hb14 <| aG (b14 == false) <| aG (b14 == false) <| aG ((b14 == false) && ((decide ((0 : Int) < vt17_4)) == true)) <| aG ((b14 == false) && ((decide ((0 : Int) < vt17_4)) == true)) <| aC (fun hg : ((b14 == false) && ((decide ((0 : Int) < vt17_4)) == true)) = true => aC (gi ((b14 == false) && ((decide ((0 : Int) < vt17_4)) == true))) <| aC (gi ((b14 == false) && ((decide ((0 : Int) < vt17_4)) == true))) <| aC (gidx_b he15 hg).1 <| aN) <| aC (fun hg : ((b14 == false) && ((decide ((0 : Int) < vt17_4)) == true)) = true => aC (gi ((b14 == false) && ((decide ((0 : Int) < vt17_4)) == true))) <| aC (eld (gd_t he15 hg) (lenI .i64) 0 1 false (vI e15)) <| aC (Eq.refl (vI e15)) <| aN) <| aH ((b14 == false) && ((decide ((0 : Int) < vt17_4)) == true)) <| aC (fun hg : (b14 == false) = true => aC (gi (b14 == false)) <| aC (fun q : (decide ((0 : Int) < vt17_4)) = true => (gA hg (gT q))) <| aB hb16 <| aN) <| aF b14 <| aB hb17 <| aN) ?_
       refine iB hzB5 (fun b18 hzB5 => ?_) (fun b18 hzB5 => ?_)
       · refine Rg [.a] (sl 68 [(4, vB false)] []) (aN) ?_
         refine Holds.ret ?_
         refine blockQ.ret ?_
         refine Tr ?_
         have hoB5_ := hoB5 _ (sI hzB5).symm
         subst hoB5_
         replace h := sumL h
         refine Tr ?_
         refine blockQ.ret ?_
         refine Tr ?_
         exact bQ (vB false) (congrArg vB (sI h))
       · refine Holds.skip ?_
         refine blockQ.normal ?_
         refine Tn ?_
         refine Re [.a, .a] (sl 68 [(0, vL encSCard a0), (3, vP [3] (0)), (15, vL (eI .i64) a1.Cards), (16, vI (a1.Cards.length : Int)), (17, vI (wrap64 (vt17_4 + (1 : Int)))), (66, vB b17), (67, vI (wrap64 (vt17_4 + (1 : Int))))] [bx [3] (encSDeck a1)]) (aN) ?_
         refine Tn ⟨(wrap64 (vt17_4 + (1 : Int))), (sI hzB5).symm, wT⟩
     · refine Holds.exit ?_
       refine thenQ.exit ?_
       have hoB5_ := hoB5 _ (sI hzB5).symm
       subst hoB5_
       replace h := sumR h
       refine thenQ.exit ?_
       refine blockQ.out ?_
       refine Tn ⟨(), h, wT⟩
   · rintro _ hJ2
     replace hJ2 : deck_formed_J2 = some r := hJ2
     unfold deck_formed_J2 at hJ2
     refine Rg [.a] (sl 68 [(4, vB true)] []) (aN) ?_
     refine Holds.ret ?_
     exact bQ (vB true) (congrArg vB (sI hJ2))
def r23_Ints_J2  : Option (Bool) :=
 some true
def r23_Ints_B5 (a0 : List (Int)) (a1 : List (Int)) (i_t5_4 : Int) : Option ((Int) ⊕ (Unit ⊕ Unit)) :=
 (if (decide (i_t5_4 < (a0.length : Int))) = true then
  (idx a0 i_t5_4).bind fun e7 =>
  (idx a1 i_t5_4).bind fun e8 =>
  (if (e7 != e8) = true then
   some (.inr (.inl ()))
  else
   some (.inl (wrap64 (i_t5_4 + (1 : Int)))))
 else
  some (.inr (.inr ())))
/-- cardgame/cardgameref23.Ints -/
def r23_Ints (a0 : List (Int)) (a1 : List (Int)) : Option (Bool) :=
 (if ((a0.length : Int) != (a1.length : Int)) = true then
  some false
 else
  (iter (fun (v : Int) => r23_Ints_B5 a0 a1 v) FU (0 : Int)).bind (Sum.elim (fun o0 => some false) (fun o1 => r23_Ints_J2)))
def r23_Ints_C (a0 : List (Int)) (a1 : List (Int)) (r : Bool) : Prop := PCall Tryd.prog I0 13 [vL (eI .i64) a0, vL (eI .i64) a1] (· = vB r)
theorem r23_Ints_ok {a0 : List (Int)} {a1 : List (Int)} {r : Bool} (h : r23_Ints a0 a1 = some r) : r23_Ints_C a0 a1 r := by
 refine PCall.body I0_stable (by kernel_rfl) Tryd.func13 rfl Tryd.ntmps13 (rs := [.tmp 4]) rfl rfl ?_
 intro w0 av old gv
 unfold r23_Ints at h
 refine Rg [.a] (sl 26 [(0, vL (eI .i64) a0), (1, vL (eI .i64) a1)] []) (aN) ?_
 refine Holds.seq ?_
 refine Rg [.a, .a, .a, .a, .a] (sl 26 [(0, vL (eI .i64) a0), (1, vL (eI .i64) a1), (10, vB ((a0.length : Int) != (a1.length : Int)))] []) (aN) ?_
 refine iB h (fun b1 h => ?_) (fun b1 h => ?_)
 · refine Rg [.a] (sl 26 [(4, vB false)] []) (aN) ?_
   refine Holds.ret ?_
   refine Tr ?_
   exact bQ (vB false) (congrArg vB (sI h))
 · refine Holds.skip ?_
   refine Tn ?_
   refine Sj (X := Unit) (fun v => (sl 26 [] [])) (fun v => r23_Ints_J2 = some r) ?_ ?_
   · refine Rg [.a] (sl 26 [(0, vL (eI .i64) a0), (1, vL (eI .i64) a1), (5, vI (0 : Int))] []) (aN) ?_
     refine Holds.block ?_
     obtain ⟨oB5, hiB5, h⟩ := bS h
     refine It (fun (v : Int) => (sl 26 [(0, vL (eI .i64) a0), (1, vL (eI .i64) a1), (5, vI v)] [])) hiB5 (wT) ?_
     rintro i_t5_4 zB5 hzB5 hoB5
     replace hzB5 : r23_Ints_B5 a0 a1 i_t5_4 = some zB5 := hzB5
     unfold r23_Ints_B5 at hzB5
     refine Holds.seq ?_
     refine Rg [.a, .a, .a, .a] (sl 26 [(0, vL (eI .i64) a0), (1, vL (eI .i64) a1), (5, vI i_t5_4), (14, vB (decide (i_t5_4 < (a0.length : Int))))] []) (aN) ?_
     refine iB hzB5 (fun b6 hzB5 => ?_) (fun b6 hzB5 => ?_)
     · refine Holds.skip ?_
       refine Tn ?_
       refine Holds.seq ?_
       refine Holds.block ?_
       obtain ⟨e7, he7, hzB5⟩ := bS hzB5
       obtain ⟨e8, he8, hzB5⟩ := bS hzB5
       refine Rq followsP [.a, .a, .a, (.v (vI e7)), .a, .a, .a, (.v (vI e8)), .a] (sl 26 [(0, vL (eI .i64) a0), (1, vL (eI .i64) a1), (5, vI i_t5_4), (25, vB (e7 != e8))] []) (aC (idx_b he7) <| aC (eld he7 (lenI .i64) 0 1 false (vI e7)) <| aC (Eq.refl (vI e7)) <| aC (idx_b he8) <| aC (eld he8 (lenI .i64) 0 1 false (vI e8)) <| aC (Eq.refl (vI e8)) <| aN) ?_
       refine iB hzB5 (fun b9 hzB5 => ?_) (fun b9 hzB5 => ?_)
       · refine Rg [.a] (sl 26 [(4, vB false)] []) (aN) ?_
         refine Holds.ret ?_
         refine blockQ.ret ?_
         refine Tr ?_
         have hoB5_ := hoB5 _ (sI hzB5).symm
         subst hoB5_
         replace h := sumL h
         refine Tr ?_
         refine blockQ.ret ?_
         refine Tr ?_
         exact bQ (vB false) (congrArg vB (sI h))
       · refine Holds.skip ?_
         refine blockQ.normal ?_
         refine Tn ?_
         refine Re [.a, .a, .a] (sl 26 [(0, vL (eI .i64) a0), (1, vL (eI .i64) a1), (5, vI (wrap64 (i_t5_4 + (1 : Int)))), (15, vI i_t5_4), (16, vI (wrap64 (i_t5_4 + (1 : Int)))), (25, vB (e7 != e8))] []) (aN) ?_
         refine Tn ⟨(wrap64 (i_t5_4 + (1 : Int))), (sI hzB5).symm, wT⟩
     · refine Holds.exit ?_
       refine thenQ.exit ?_
       have hoB5_ := hoB5 _ (sI hzB5).symm
       subst hoB5_
       replace h := sumR h
       refine thenQ.exit ?_
       refine blockQ.out ?_
       refine Tn ⟨(), h, wT⟩
   · rintro _ hJ2
     replace hJ2 : r23_Ints_J2 = some r := hJ2
     unfold r23_Ints_J2 at hJ2
     refine Rg [.a] (sl 26 [(4, vB true)] []) (aN) ?_
     refine Holds.ret ?_
     exact bQ (vB true) (congrArg vB (sI hJ2))
def slices_Index_string_string_J1  : Option (Int) :=
 some (-1 : Int)
def slices_Index_string_string_B5 (a0 : List (List UInt8)) (a1 : List UInt8) (vt8_3 : Int) : Option ((Int) ⊕ (Int ⊕ Unit)) :=
 (if (decide (vt8_3 < (a0.length : Int))) = true then
  (idx a0 vt8_3).bind fun e7 =>
  (if (a1 == e7) = true then
   some (.inr (.inl vt8_3))
  else
   some (.inl (wrap64 (vt8_3 + (1 : Int)))))
 else
  some (.inr (.inr ())))
/-- slices.Index[[]string,string] -/
def slices_Index_string_string (a0 : List (List UInt8)) (a1 : List UInt8) : Option (Int) :=
 (iter (fun (v : Int) => slices_Index_string_string_B5 a0 a1 v) FU (0 : Int)).bind (Sum.elim (fun o0 => some o0) (fun o1 => slices_Index_string_string_J1))
def slices_Index_string_string_C (a0 : List (List UInt8)) (a1 : List UInt8) (r : Int) : Prop := PCall Tryd.prog I0 83 [vL eS a0, vS a1] (· = vI r)
theorem slices_Index_string_string_ok {a0 : List (List UInt8)} {a1 : List UInt8} {r : Int} (h : slices_Index_string_string a0 a1 = some r) : slices_Index_string_string_C a0 a1 r := by
 refine PCall.body I0_stable (by kernel_rfl) Tryd.func83 rfl Tryd.ntmps83 (rs := [.tmp 4]) rfl rfl ?_
 intro w0 av old gv
 unfold slices_Index_string_string at h
 refine Rg [.a] (sl 19 [(0, vL eS a0), (1, vS a1)] []) (aN) ?_
 refine Sj (X := Unit) (fun v => (sl 19 [] [])) (fun v => slices_Index_string_string_J1 = some r) ?_ ?_
 · refine Rg [.a, .a, .a] (sl 19 [(0, vL eS a0), (1, vS a1), (7, vI (a0.length : Int)), (8, vI (0 : Int))] []) (aN) ?_
   refine Holds.block ?_
   obtain ⟨oB5, hiB5, h⟩ := bS h
   refine It (fun (v : Int) => (sl 19 [(0, vL eS a0), (1, vS a1), (7, vI (a0.length : Int)), (8, vI v)] [])) hiB5 (wT) ?_
   rintro vt8_3 zB5 hzB5 hoB5
   replace hzB5 : slices_Index_string_string_B5 a0 a1 vt8_3 = some zB5 := hzB5
   unfold slices_Index_string_string_B5 at hzB5
   refine Rg [.a] (sl 19 [(0, vL eS a0), (1, vS a1), (7, vI (a0.length : Int)), (8, vI vt8_3), (9, vB (decide (vt8_3 < (a0.length : Int))))] []) (aN) ?_
   refine Holds.seq ?_
   refine iB hzB5 (fun b6 hzB5 => ?_) (fun b6 hzB5 => ?_)
   · refine Holds.skip ?_
     refine Tn ?_
     refine Holds.seq ?_
     refine Holds.block ?_
     refine Rg [.a, .a] (sl 19 [(0, vL eS a0), (1, vS a1), (5, vI vt8_3), (7, vI (a0.length : Int)), (8, vI vt8_3)] []) (aN) ?_
     obtain ⟨e7, he7, hzB5⟩ := bS hzB5
     refine Rg [.a, .a, .a, .a, (.v (vS e7)), .a] (sl 19 [(0, vL eS a0), (1, vS a1), (5, vI vt8_3), (7, vI (a0.length : Int)), (8, vI vt8_3), (16, vB (a1 == e7))] []) (aC (idx_b he7) <| aC (eld he7 lenS 0 1 false (vS e7)) <| aC (Eq.refl (vS e7)) <| aN) ?_
     refine iB hzB5 (fun b8 hzB5 => ?_) (fun b8 hzB5 => ?_)
     · refine Rg [.a, .a] (sl 19 [(4, vI vt8_3)] []) (aN) ?_
       refine Holds.ret ?_
       refine blockQ.ret ?_
       refine Tr ?_
       have hoB5_ := hoB5 _ (sI hzB5).symm
       subst hoB5_
       replace h := sumL h
       refine Tr ?_
       refine blockQ.ret ?_
       refine Tr ?_
       exact bQ (vI vt8_3) (congrArg vI (sI h))
     · refine Holds.skip ?_
       refine blockQ.normal ?_
       refine Tn ?_
       refine Re [.a, .a] (sl 19 [(0, vL eS a0), (1, vS a1), (5, vI vt8_3), (7, vI (a0.length : Int)), (8, vI (wrap64 (vt8_3 + (1 : Int)))), (16, vB (a1 == e7)), (18, vI (wrap64 (vt8_3 + (1 : Int))))] []) (aN) ?_
       refine Tn ⟨(wrap64 (vt8_3 + (1 : Int))), (sI hzB5).symm, wT⟩
   · refine Holds.exit ?_
     refine thenQ.exit ?_
     have hoB5_ := hoB5 _ (sI hzB5).symm
     subst hoB5_
     replace h := sumR h
     refine thenQ.exit ?_
     refine blockQ.out ?_
     refine Tn ⟨(), h, wT⟩
 · rintro _ hJ1
   replace hJ1 : slices_Index_string_string_J1 = some r := hJ1
   unfold slices_Index_string_string_J1 at hJ1
   refine Rg [.a] (sl 19 [(4, vI (-1 : Int))] []) (aN) ?_
   refine Holds.ret ?_
   exact bQ (vI (-1 : Int)) (congrArg vI (sI hJ1))
def deck_List_J2  (l3_1 : List (Int)) : Option ((List (Int))) :=
 some l3_1
def deck_List_J11 (vt13_5 : Int) (l3_10 : List (Int)) : Option ((Int × (List (Int))) ⊕ ((List (Int)))) :=
 some (.inl ((wrap64 (vt13_5 + (1 : Int))), l3_10))
def deck_List_B17 (a0 : SDeck) (vt13_5 : Int) (n_t5_14 : Int) (l3_15 : List (Int)) : Option ((Int × (List (Int))) ⊕ ((List (Int)))) :=
 (idx a0.Counts vt13_5).bind fun e18 =>
 (some (if (decide (n_t5_14 < e18)) = true then decide ((l3_15.length : Int) < (250 : Int)) else false)).bind fun b19 =>
 (if b19 = true then
  (idx a0.Cards vt13_5).bind fun e21 =>
  (app 8 l3_15 ([e21] : List (Int))).bind fun l22 =>
  some (.inl ((wrap64 (n_t5_14 + (1 : Int))), l22))
 else
  some (.inr l3_15))
def deck_List_B8 (a0 : SDeck) (vt13_5 : Int) (l3_6 : List (Int)) : Option ((Int × (List (Int))) ⊕ ((List (Int)))) :=
 (if (decide (vt13_5 < (if (a0.Counts.length : Int) < (a0.Cards.length : Int) then (a0.Counts.length : Int) else (a0.Cards.length : Int)))) = true then
  (iter (fun (v : Int × (List (Int))) => deck_List_B17 a0 vt13_5 v.1 v.2) FU ((0 : Int), l3_6)).bind (fun o0 => deck_List_J11 vt13_5 o0)
 else
  some (.inr l3_6))
/-- cardgame/deck.List -/
def deck_List (a0 : SDeck) : Option ((List (Int))) :=
 (iter (fun (v : Int × (List (Int))) => deck_List_B8 a0 v.1 v.2) FU ((0 : Int), ([] : List (Int)))).bind (fun o0 => deck_List_J2 o0)
def deck_List_C (a0 : SDeck) (r : (List (Int))) : Prop := PCall Tryd.prog I0 14 [vA encSDeck a0] (· = vL (eI .i64) r)
theorem deck_List_ok {a0 : SDeck} {r : (List (Int))} (h : deck_List a0 = some r) : deck_List_C a0 r := by
 refine PCall.body I0_stable (by kernel_rfl) Tryd.func14 rfl Tryd.ntmps14 (rs := [.tmp 2]) rfl rfl ?_
 intro w0 av old gv
 unfold deck_List at h
 refine Rg [.a, .a] (sl 40 [(1, vP [1] (0))] [bx [1] (encSDeck a0)]) (aN) ?_
 refine Rg [.a] (sl 40 [(1, vP [1] (0)), (3, vO [3])] [rw_ [3] 3 1 (eI .i64) ([] : List (Int)), bx [1] (encSDeck a0)]) (aN) ?_
 refine Sj (X := (List (Int))) (fun v => (sl 40 [(3, vO [3])] [rw_ [3] 3 1 (eI .i64) v])) (fun v => deck_List_J2 v = some r) ?_ ?_
 · refine Rg [.a, .a, .a, .a, .a, .a, .a, .a] (sl 40 [(1, vP [1] (0)), (3, vO [3]), (12, vI (if (a0.Counts.length : Int) < (a0.Cards.length : Int) then (a0.Counts.length : Int) else (a0.Cards.length : Int))), (13, vI (0 : Int))] [rw_ [3] 3 1 (eI .i64) ([] : List (Int)), bx [1] (encSDeck a0)]) (aC (show (True ∧ (True ∧ True)) ∧ True from ⟨⟨trivial, ⟨trivial, trivial⟩⟩, trivial⟩) <| aN) ?_
   refine Holds.block ?_
   obtain ⟨oB8, hiB8, h⟩ := bS h
   refine It (fun (v : Int × (List (Int))) => (sl 40 [(1, vP [1] (0)), (3, vO [3]), (12, vI (if (a0.Counts.length : Int) < (a0.Cards.length : Int) then (a0.Counts.length : Int) else (a0.Cards.length : Int))), (13, vI v.1)] [rw_ [3] 3 1 (eI .i64) v.2, bx [1] (encSDeck a0)])) hiB8 (wT) ?_
   rintro ⟨vt13_5, l3_6⟩ zB8 hzB8 hoB8
   replace hzB8 : deck_List_B8 a0 vt13_5 l3_6 = some zB8 := hzB8
   unfold deck_List_B8 at hzB8
   refine Rg [.a] (sl 40 [(1, vP [1] (0)), (3, vO [3]), (12, vI (if (a0.Counts.length : Int) < (a0.Cards.length : Int) then (a0.Counts.length : Int) else (a0.Cards.length : Int))), (13, vI vt13_5), (14, vB (decide (vt13_5 < (if (a0.Counts.length : Int) < (a0.Cards.length : Int) then (a0.Counts.length : Int) else (a0.Cards.length : Int)))))] [rw_ [3] 3 1 (eI .i64) l3_6, bx [1] (encSDeck a0)]) (aN) ?_
   refine Holds.seq ?_
   refine iB hzB8 (fun b9 hzB8 => ?_) (fun b9 hzB8 => ?_)
   · refine Holds.skip ?_
     refine Tn ?_
     refine Sj (X := (List (Int))) (fun v => (sl 40 [(1, vP [1] (0)), (3, vO [3]), (12, vI (if (a0.Counts.length : Int) < (a0.Cards.length : Int) then (a0.Counts.length : Int) else (a0.Cards.length : Int))), (13, vI vt13_5)] [rw_ [3] 3 1 (eI .i64) v, bx [1] (encSDeck a0)])) (fun v => deck_List_J11 vt13_5 v = some zB8) ?_ ?_
     · refine Holds.block ?_
       refine Rg [.a, .a] (sl 40 [(1, vP [1] (0)), (3, vO [3]), (4, vI vt13_5), (12, vI (if (a0.Counts.length : Int) < (a0.Cards.length : Int) then (a0.Counts.length : Int) else (a0.Cards.length : Int))), (13, vI vt13_5)] [rw_ [3] 3 1 (eI .i64) l3_6, bx [1] (encSDeck a0)]) (aN) ?_
       refine Rg [.a] (sl 40 [(1, vP [1] (0)), (3, vO [3]), (4, vI vt13_5), (5, vI (0 : Int)), (12, vI (if (a0.Counts.length : Int) < (a0.Cards.length : Int) then (a0.Counts.length : Int) else (a0.Cards.length : Int))), (13, vI vt13_5)] [rw_ [3] 3 1 (eI .i64) l3_6, bx [1] (encSDeck a0)]) (aN) ?_
       refine Holds.block ?_
       obtain ⟨oB17, hiB17, hzB8⟩ := bS hzB8
       refine It (fun (v : Int × (List (Int))) => (sl 40 [(1, vP [1] (0)), (3, vO [3]), (4, vI vt13_5), (5, vI v.1), (12, vI (if (a0.Counts.length : Int) < (a0.Cards.length : Int) then (a0.Counts.length : Int) else (a0.Cards.length : Int))), (13, vI vt13_5)] [rw_ [3] 3 1 (eI .i64) v.2, bx [1] (encSDeck a0)])) hiB17 (wT) ?_
       rintro ⟨n_t5_14, l3_15⟩ zB17 hzB17 hoB17
       replace hzB17 : deck_List_B17 a0 vt13_5 n_t5_14 l3_15 = some zB17 := hzB17
       unfold deck_List_B17 at hzB17
       refine Holds.seq ?_
       obtain ⟨e18, he18, hzB17⟩ := bS hzB17
       obtain ⟨b19, hb19, hzB17⟩ := bS hzB17
       refine Rg [.a, .a, .a, .a, .a, (.v (vI e18)), .a, .a, .a, .a, .a, (.v (vB b19))] (sl 40 [(1, vP [1] (0)), (3, vO [3]), (4, vI vt13_5), (5, vI n_t5_14), (12, vI (if (a0.Counts.length : Int) < (a0.Cards.length : Int) then (a0.Counts.length : Int) else (a0.Cards.length : Int))), (13, vI vt13_5), (27, vB b19)] [rw_ [3] 3 1 (eI .i64) l3_15, bx [1] (encSDeck a0)]) (aC (idx_b he18) <| aC (eld he18 (lenI .i64) 0 1 false (vI e18)) <| aC (Eq.refl (vI e18)) <| aG ((decide (n_t5_14 < e18)) == true) <| aG ((decide (n_t5_14 < e18)) == true) <| aT (decide (n_t5_14 < e18)) <| aB hb19 <| aN) ?_
       refine iB hzB17 (fun b20 hzB17 => ?_) (fun b20 hzB17 => ?_)
       · refine Holds.skip ?_
         refine Tn ?_
         refine Holds.seq ?_
         refine Holds.block ?_
         obtain ⟨e21, he21, hzB17⟩ := bS hzB17
         obtain ⟨l22, hl22, hzB17⟩ := bS hzB17
         refine Re [.a, .a, .a, .a, .a, (.v (vI e21)), .a, (.e l22.length (l22.flatMap (eI .i64))), .a] (sl 40 [(1, vP [1] (0)), (3, vO [3]), (4, vI vt13_5), (5, vI n_t5_14), (12, vI (if (a0.Counts.length : Int) < (a0.Cards.length : Int) then (a0.Counts.length : Int) else (a0.Cards.length : Int))), (13, vI vt13_5), (27, vB b19), (31, vP [1] (0)), (32, vL (eI .i64) a0.Cards), (33, vI vt13_5), (34, vX (eI .i64) a0.Cards ((vt13_5).toNat * 1)), (35, vI e21), (36, vO [36]), (37, vO [3])] [rw_ [3] 3 1 (eI .i64) l22, rw_ [36] 3 1 (eI .i64) ([e21] : List (Int)), bx [1] (encSDeck a0)]) (aC (idx_b he21) <| aC (eld he21 (lenI .i64) 0 1 false (vI e21)) <| aC (Eq.refl (vI e21)) <| aC (ap1 hl22 (eI .i64)) <| aC (app_b hl22) <| aN) ?_
         refine blockQ.normal ?_
         refine Tn ?_
         refine Re [.a, .a, .a] (sl 40 [(1, vP [1] (0)), (3, vO [3]), (4, vI vt13_5), (5, vI (wrap64 (n_t5_14 + (1 : Int)))), (12, vI (if (a0.Counts.length : Int) < (a0.Cards.length : Int) then (a0.Counts.length : Int) else (a0.Cards.length : Int))), (13, vI vt13_5), (27, vB b19), (28, vI n_t5_14), (29, vI (wrap64 (n_t5_14 + (1 : Int)))), (31, vP [1] (0)), (32, vL (eI .i64) a0.Cards), (33, vI vt13_5), (34, vX (eI .i64) a0.Cards ((vt13_5).toNat * 1)), (35, vI e21), (36, vO [36]), (37, vO [3])] [rw_ [3] 3 1 (eI .i64) l22, rw_ [36] 3 1 (eI .i64) ([e21] : List (Int)), bx [1] (encSDeck a0)]) (aN) ?_
         refine Tn ⟨((wrap64 (n_t5_14 + (1 : Int))), l22), (sI hzB17).symm, wT⟩
       · refine Holds.exit ?_
         refine thenQ.exit ?_
         have hoB17_ := hoB17 _ (sI hzB17).symm
         subst hoB17_
         refine thenQ.exit ?_
         refine blockQ.out ?_
         refine blockQ.normal ?_
         refine Tn ⟨l3_15, hzB8, wT⟩
     · rintro l3_10 hJ11
       replace hJ11 : deck_List_J11 vt13_5 l3_10 = some zB8 := hJ11
       unfold deck_List_J11 at hJ11
       refine Re [.a, .a] (sl 40 [(1, vP [1] (0)), (3, vO [3]), (12, vI (if (a0.Counts.length : Int) < (a0.Cards.length : Int) then (a0.Counts.length : Int) else (a0.Cards.length : Int))), (13, vI (wrap64 (vt13_5 + (1 : Int)))), (38, vI (wrap64 (vt13_5 + (1 : Int))))] [rw_ [3] 3 1 (eI .i64) l3_10, bx [1] (encSDeck a0)]) (aN) ?_
       refine Tn ⟨((wrap64 (vt13_5 + (1 : Int))), l3_10), (sI hJ11).symm, wT⟩
   · refine Holds.exit ?_
     refine thenQ.exit ?_
     have hoB8_ := hoB8 _ (sI hzB8).symm
     subst hoB8_
     refine thenQ.exit ?_
     refine blockQ.out ?_
     refine Tn ⟨l3_6, h, wT⟩
 · rintro l3_1 hJ2
   replace hJ2 : deck_List_J2 l3_1 = some r := hJ2
   unfold deck_List_J2 at hJ2
   refine Rg [.a, .a] (sl 40 [(2, vO [3])] [rw_ [3] 3 1 (eI .i64) l3_1]) (aN) ?_
   refine Holds.ret ?_
   exact bE (vO [3]) (vL (eI .i64) l3_1) (congrArg (vL (eI .i64)) (sI hJ2))
/-- cardgame/cardgameref01.Clamp -/
def r01_Clamp (a0 : Int) : Option (Int) :=
 (if (decide ((1000000 : Int) < a0)) = true then
  some (1000000 : Int)
 else
  (if (decide (a0 < (-1000000 : Int))) = true then
   some (-1000000 : Int)
  else
   some a0))
def r01_Clamp_C (a0 : Int) (r : Int) : Prop := PCall Tryd.prog I0 66 [vI a0] (· = vI r)
theorem r01_Clamp_ok {a0 : Int} {r : Int} (h : r01_Clamp a0 = some r) : r01_Clamp_C a0 r := by
 refine PCall.body I0_stable (by kernel_rfl) Tryd.func66 rfl Tryd.ntmps66 (rs := [.tmp 2]) rfl rfl ?_
 intro w0 av old gv
 unfold r01_Clamp at h
 refine Rg [.a] (sl 8 [(0, vI a0)] []) (aN) ?_
 refine Holds.seq ?_
 refine Rg [.a, .a] (sl 8 [(0, vI a0), (4, vB (decide ((1000000 : Int) < a0)))] []) (aN) ?_
 refine iB h (fun b1 h => ?_) (fun b1 h => ?_)
 · refine Rg [.a] (sl 8 [(2, vI (1000000 : Int))] []) (aN) ?_
   refine Holds.ret ?_
   refine Tr ?_
   exact bQ (vI (1000000 : Int)) (congrArg vI (sI h))
 · refine Holds.skip ?_
   refine Tn ?_
   refine Holds.seq ?_
   refine Rg [.a, .a] (sl 8 [(0, vI a0), (6, vB (decide (a0 < (-1000000 : Int))))] []) (aN) ?_
   refine iB h (fun b2 h => ?_) (fun b2 h => ?_)
   · refine Rg [.a] (sl 8 [(2, vI (-1000000 : Int))] []) (aN) ?_
     refine Holds.ret ?_
     refine Tr ?_
     exact bQ (vI (-1000000 : Int)) (congrArg vI (sI h))
   · refine Holds.skip ?_
     refine Tn ?_
     refine Rg [.a, .a] (sl 8 [(2, vI a0)] []) (aN) ?_
     refine Holds.ret ?_
     exact bQ (vI a0) (congrArg vI (sI h))
def r23_List_J2  (l3_1 : List (Int)) : Option ((List (Int))) :=
 some l3_1
def r23_List_J12 (i_t4_5 : Int) (l3_11 : List (Int)) : Option ((Int × (List (Int))) ⊕ ((List (Int)))) :=
 some (.inl ((wrap64 (i_t4_5 + (1 : Int))), l3_11))
def r23_List_B18 (a0 : SDeck) (i_t4_5 : Int) (k_t5_15 : Int) (l3_16 : List (Int)) : Option ((Int × (List (Int))) ⊕ ((List (Int)))) :=
 (idx a0.Counts i_t4_5).bind fun e19 =>
 (some (if (decide (k_t5_15 < e19)) = true then decide ((l3_16.length : Int) < (250 : Int)) else false)).bind fun b20 =>
 (if b20 = true then
  (idx a0.Cards i_t4_5).bind fun e22 =>
  (app 8 l3_16 ([e22] : List (Int))).bind fun l23 =>
  some (.inl ((wrap64 (k_t5_15 + (1 : Int))), l23))
 else
  some (.inr l3_16))
def r23_List_B8 (a0 : SDeck) (i_t4_5 : Int) (l3_6 : List (Int)) : Option ((Int × (List (Int))) ⊕ ((List (Int)))) :=
 (some (if (decide (i_t4_5 < (a0.Cards.length : Int))) = true then decide (i_t4_5 < (a0.Counts.length : Int)) else false)).bind fun b9 =>
 (if b9 = true then
  (iter (fun (v : Int × (List (Int))) => r23_List_B18 a0 i_t4_5 v.1 v.2) FU ((0 : Int), l3_6)).bind (fun o0 => r23_List_J12 i_t4_5 o0)
 else
  some (.inr l3_6))
/-- cardgame/cardgameref23.List -/
def r23_List (a0 : SDeck) : Option ((List (Int))) :=
 (iter (fun (v : Int × (List (Int))) => r23_List_B8 a0 v.1 v.2) FU ((0 : Int), ([] : List (Int)))).bind (fun o0 => r23_List_J2 o0)
def r23_List_C (a0 : SDeck) (r : (List (Int))) : Prop := PCall Tryd.prog I0 15 [vA encSDeck a0] (· = vL (eI .i64) r)
theorem r23_List_ok {a0 : SDeck} {r : (List (Int))} (h : r23_List a0 = some r) : r23_List_C a0 r := by
 refine PCall.body I0_stable (by kernel_rfl) Tryd.func15 rfl Tryd.ntmps15 (rs := [.tmp 2]) rfl rfl ?_
 intro w0 av old gv
 unfold r23_List at h
 refine Rg [.a, .a] (sl 43 [(1, vP [1] (0))] [bx [1] (encSDeck a0)]) (aN) ?_
 refine Rg [.a] (sl 43 [(1, vP [1] (0)), (3, vO [3])] [rw_ [3] 3 1 (eI .i64) ([] : List (Int)), bx [1] (encSDeck a0)]) (aN) ?_
 refine Sj (X := (List (Int))) (fun v => (sl 43 [(3, vO [3])] [rw_ [3] 3 1 (eI .i64) v])) (fun v => r23_List_J2 v = some r) ?_ ?_
 · refine Rg [.a] (sl 43 [(1, vP [1] (0)), (3, vO [3]), (4, vI (0 : Int))] [rw_ [3] 3 1 (eI .i64) ([] : List (Int)), bx [1] (encSDeck a0)]) (aN) ?_
   refine Holds.block ?_
   obtain ⟨oB8, hiB8, h⟩ := bS h
   refine It (fun (v : Int × (List (Int))) => (sl 43 [(1, vP [1] (0)), (3, vO [3]), (4, vI v.1)] [rw_ [3] 3 1 (eI .i64) v.2, bx [1] (encSDeck a0)])) hiB8 (wT) ?_
   rintro ⟨i_t4_5, l3_6⟩ zB8 hzB8 hoB8
   replace hzB8 : r23_List_B8 a0 i_t4_5 l3_6 = some zB8 := hzB8
   unfold r23_List_B8 at hzB8
   refine Holds.seq ?_
   obtain ⟨b9, hb9, hzB8⟩ := bS hzB8
   refine Rg [.a, .a, .a, .a, .a, .a, .a, .a, .a, .a, .a, (.v (vB b9))] (sl 43 [(1, vP [1] (0)), (3, vO [3]), (4, vI i_t4_5), (17, vB b9)] [rw_ [3] 3 1 (eI .i64) l3_6, bx [1] (encSDeck a0)]) (aG ((decide (i_t4_5 < (a0.Cards.length : Int))) == true) <| aG ((decide (i_t4_5 < (a0.Cards.length : Int))) == true) <| aH ((decide (i_t4_5 < (a0.Cards.length : Int))) == true) <| aT (decide (i_t4_5 < (a0.Cards.length : Int))) <| aB hb9 <| aN) ?_
   refine iB hzB8 (fun b10 hzB8 => ?_) (fun b10 hzB8 => ?_)
   · refine Holds.skip ?_
     refine Tn ?_
     refine Sj (X := (List (Int))) (fun v => (sl 43 [(1, vP [1] (0)), (3, vO [3]), (4, vI i_t4_5)] [rw_ [3] 3 1 (eI .i64) v, bx [1] (encSDeck a0)])) (fun v => r23_List_J12 i_t4_5 v = some zB8) ?_ ?_
     · refine Holds.block ?_
       refine Rg [.a] (sl 43 [(1, vP [1] (0)), (3, vO [3]), (4, vI i_t4_5), (5, vI (0 : Int))] [rw_ [3] 3 1 (eI .i64) l3_6, bx [1] (encSDeck a0)]) (aN) ?_
       refine Holds.block ?_
       obtain ⟨oB18, hiB18, hzB8⟩ := bS hzB8
       refine It (fun (v : Int × (List (Int))) => (sl 43 [(1, vP [1] (0)), (3, vO [3]), (4, vI i_t4_5), (5, vI v.1)] [rw_ [3] 3 1 (eI .i64) v.2, bx [1] (encSDeck a0)])) hiB18 (wT) ?_
       rintro ⟨k_t5_15, l3_16⟩ zB18 hzB18 hoB18
       replace hzB18 : r23_List_B18 a0 i_t4_5 k_t5_15 l3_16 = some zB18 := hzB18
       unfold r23_List_B18 at hzB18
       refine Holds.seq ?_
       obtain ⟨e19, he19, hzB18⟩ := bS hzB18
       obtain ⟨b20, hb20, hzB18⟩ := bS hzB18
       refine Rg [.a, .a, .a, .a, .a, (.v (vI e19)), .a, .a, .a, .a, .a, (.v (vB b20))] (sl 43 [(1, vP [1] (0)), (3, vO [3]), (4, vI i_t4_5), (5, vI k_t5_15), (31, vB b20)] [rw_ [3] 3 1 (eI .i64) l3_16, bx [1] (encSDeck a0)]) (aC (idx_b he19) <| aC (eld he19 (lenI .i64) 0 1 false (vI e19)) <| aC (Eq.refl (vI e19)) <| aG ((decide (k_t5_15 < e19)) == true) <| aG ((decide (k_t5_15 < e19)) == true) <| aT (decide (k_t5_15 < e19)) <| aB hb20 <| aN) ?_
       refine iB hzB18 (fun b21 hzB18 => ?_) (fun b21 hzB18 => ?_)
       · refine Holds.skip ?_
         refine Tn ?_
         refine Holds.seq ?_
         refine Holds.block ?_
         obtain ⟨e22, he22, hzB18⟩ := bS hzB18
         obtain ⟨l23, hl23, hzB18⟩ := bS hzB18
         refine Re [.a, .a, .a, .a, .a, (.v (vI e22)), .a, (.e l23.length (l23.flatMap (eI .i64))), .a] (sl 43 [(1, vP [1] (0)), (3, vO [3]), (4, vI i_t4_5), (5, vI k_t5_15), (31, vB b20), (35, vP [1] (0)), (36, vL (eI .i64) a0.Cards), (37, vI i_t4_5), (38, vX (eI .i64) a0.Cards ((i_t4_5).toNat * 1)), (39, vI e22), (40, vO [40]), (41, vO [3])] [rw_ [3] 3 1 (eI .i64) l23, rw_ [40] 3 1 (eI .i64) ([e22] : List (Int)), bx [1] (encSDeck a0)]) (aC (idx_b he22) <| aC (eld he22 (lenI .i64) 0 1 false (vI e22)) <| aC (Eq.refl (vI e22)) <| aC (ap1 hl23 (eI .i64)) <| aC (app_b hl23) <| aN) ?_
         refine blockQ.normal ?_
         refine Tn ?_
         refine Re [.a, .a, .a] (sl 43 [(1, vP [1] (0)), (3, vO [3]), (4, vI i_t4_5), (5, vI (wrap64 (k_t5_15 + (1 : Int)))), (31, vB b20), (32, vI k_t5_15), (33, vI (wrap64 (k_t5_15 + (1 : Int)))), (35, vP [1] (0)), (36, vL (eI .i64) a0.Cards), (37, vI i_t4_5), (38, vX (eI .i64) a0.Cards ((i_t4_5).toNat * 1)), (39, vI e22), (40, vO [40]), (41, vO [3])] [rw_ [3] 3 1 (eI .i64) l23, rw_ [40] 3 1 (eI .i64) ([e22] : List (Int)), bx [1] (encSDeck a0)]) (aN) ?_
         refine Tn ⟨((wrap64 (k_t5_15 + (1 : Int))), l23), (sI hzB18).symm, wT⟩
       · refine Holds.exit ?_
         refine thenQ.exit ?_
         have hoB18_ := hoB18 _ (sI hzB18).symm
         subst hoB18_
         refine thenQ.exit ?_
         refine blockQ.out ?_
         refine blockQ.normal ?_
         refine Tn ⟨l3_16, hzB8, wT⟩
     · rintro l3_11 hJ12
       replace hJ12 : r23_List_J12 i_t4_5 l3_11 = some zB8 := hJ12
       unfold r23_List_J12 at hJ12
       refine Re [.a, .a, .a] (sl 43 [(1, vP [1] (0)), (3, vO [3]), (4, vI (wrap64 (i_t4_5 + (1 : Int)))), (18, vI i_t4_5), (19, vI (wrap64 (i_t4_5 + (1 : Int))))] [rw_ [3] 3 1 (eI .i64) l3_11, bx [1] (encSDeck a0)]) (aN) ?_
       refine Tn ⟨((wrap64 (i_t4_5 + (1 : Int))), l3_11), (sI hJ12).symm, wT⟩
   · refine Holds.exit ?_
     refine thenQ.exit ?_
     have hoB8_ := hoB8 _ (sI hzB8).symm
     subst hoB8_
     refine thenQ.exit ?_
     refine blockQ.out ?_
     refine Tn ⟨l3_6, h, wT⟩
 · rintro l3_1 hJ2
   replace hJ2 : r23_List_J2 l3_1 = some r := hJ2
   unfold r23_List_J2 at hJ2
   refine Rg [.a, .a] (sl 43 [(2, vO [3])] [rw_ [3] 3 1 (eI .i64) l3_1]) (aN) ?_
   refine Holds.ret ?_
   exact bE (vO [3]) (vL (eI .i64) l3_1) (congrArg (vL (eI .i64)) (sI hJ2))
end Go.PL
