/- Functions of the program, as partial functions in Lean, with proofs. -/
import Derived.Test.YtedobbmpljbccaaGreatDoorPlDkB
import Derived.Test.YtedobbmpljbccaaGreatDoorPlDkF0
import Derived.Test.YtedobbmpljbccaaGreatDoorPlDkF2
import Derived.Test.YtedobbmpljbccaaGreatDoorPlDkF3
import Derived.Test.YtedobbmpljbccaaGreatDoorPlDkF4
namespace Go.PL
open Go Go.RowKit Go.Proofs
set_option maxRecDepth 100000
set_option linter.all false
set_option maxHeartbeats 1000000
attribute [local irreducible] Holds thenQ blockQ
def r15_Is_J18 (a0 : SMod) (vt51_17 : Bool) : Option (Bool) :=
 (if vt51_17 = true then
  (some (if (decide ((1 : Int) ≤ a0.N)) = true then decide (a0.N ≤ (131071 : Int)) else false)).bind fun b20 =>
  some b20
 else
  (if (a0.Kind == (11 : Int)) = true then
   (r13_Is a0.Filter).bind fun r22 =>
   some r22
  else
   (if (a0.Kind == (12 : Int)) = true then
    (some (if (decide ((0 : Int) ≤ a0.N)) = true then decide (a0.N ≤ (99 : Int)) else false)).bind fun b24 =>
    (some (if b24 = true then decide ((0 : Int) ≤ a0.M) else false)).bind fun b25 =>
    (some (if b25 = true then decide (a0.M ≤ (99 : Int)) else false)).bind fun b26 =>
    some b26
   else
    (if (a0.Kind == (13 : Int)) = true then
     (some (if (decide ((-99 : Int) ≤ a0.N)) = true then decide (a0.N ≤ (99 : Int)) else false)).bind fun b28 =>
     (some (if b28 = true then decide ((-99 : Int) ≤ a0.M) else false)).bind fun b29 =>
     (some (if b29 = true then decide (a0.M ≤ (99 : Int)) else false)).bind fun b30 =>
     some b30
    else
     some true))))
def r15_Is_J10 (a0 : SMod) (vt25_9 : Bool) : Option (Bool) :=
 (if vt25_9 = true then
  (r10_IsSub a0.Sub).bind fun r12 =>
  some r12
 else
  (if (a0.Kind == (6 : Int)) = true then
   (some (if (decide ((0 : Int) ≤ a0.N)) = true then decide (a0.N ≤ (31 : Int)) else false)).bind fun b14 =>
   some b14
  else
   (if (a0.Kind == (7 : Int)) = true then
    (some (if (decide ((1 : Int) ≤ a0.N)) = true then decide (a0.N ≤ (31 : Int)) else false)).bind fun b16 =>
    some b16
   else
    (if (a0.Kind == (8 : Int)) = true then
     r15_Is_J18 a0 (a0.Kind == (8 : Int))
    else
     r15_Is_J18 a0 (a0.Kind == (9 : Int))))))
def r15_Is_J6 (a0 : SMod) (vt19_5 : Bool) : Option (Bool) :=
 (if vt19_5 = true then
  (r15_types a0.N).bind fun r8 =>
  some r8
 else
  (if (a0.Kind == (4 : Int)) = true then
   r15_Is_J10 a0 (a0.Kind == (4 : Int))
  else
   r15_Is_J10 a0 (a0.Kind == (5 : Int))))
/-- cardgame/cardgameref15.Is -/
def r15_Is (a0 : SMod) : Option (Bool) :=
 (some (if (decide (a0.Kind < (1 : Int))) = true then true else decide ((14 : Int) < a0.Kind))).bind fun b1 =>
 (gd (b1 == false) (r15_used a0)).bind fun r2 =>
 (some (if b1 = true then true else !(r2 == (⟨(0 : Int), (0 : Int), (0 : Int), [], (⟨(0 : Int), (0 : Int), (0 : Int), (0 : Int), (0 : Int), (0 : Int), (0 : Int), [], (0 : Int), (0 : Int), (⟨(0 : Int), (0 : Int)⟩ : SBound), (⟨(0 : Int), (0 : Int)⟩ : SBound), (⟨(0 : Int), (0 : Int)⟩ : SBound)⟩ : SFilter)⟩ : SMod)))).bind fun b3 =>
 (if b3 = true then
  some false
 else
  (if (a0.Kind == (2 : Int)) = true then
   r15_Is_J6 a0 (a0.Kind == (2 : Int))
  else
   r15_Is_J6 a0 (a0.Kind == (3 : Int))))
def r15_Is_C (a0 : SMod) (r : Bool) : Prop := PCall Tryz.prog I0 97 [vA encSMod a0] (· = vB r)
theorem r15_Is_ok {a0 : SMod} {r : Bool} (h : r15_Is a0 = some r) : r15_Is_C a0 r := by
 refine PCall.body I0_stable (by kernel_rfl) Tryz.func97 rfl Tryz.ntmps97 (rs := [.tmp 2]) rfl rfl ?_
 intro w0 av old gv
 unfold r15_Is at h
 refine Rg [.a, .a] (sl 107 [(1, vP [1] (0))] [bx [1] (encSMod a0)]) (aN) ?_
 refine Holds.seq ?_
 obtain ⟨b1, hb1, h⟩ := bS h
 obtain ⟨r2, hr2, h⟩ := bS h
 obtain ⟨b3, hb3, h⟩ := bS h
 refine Rg [.a, .a, .a, .a, .a, .a, .a, (.v (vB b1)), .a, .a, (.c (vA encSMod r2)), .a, (.v (vB (!(r2 == (⟨(0 : Int), (0 : Int), (0 : Int), [], (⟨(0 : Int), (0 : Int), (0 : Int), (0 : Int), (0 : Int), (0 : Int), (0 : Int), [], (0 : Int), (0 : Int), (⟨(0 : Int), (0 : Int)⟩ : SBound), (⟨(0 : Int), (0 : Int)⟩ : SBound), (⟨(0 : Int), (0 : Int)⟩ : SBound)⟩ : SFilter)⟩ : SMod))))), (.v (vB b3))] (sl 107 [(1, vP [1] (0)), (16, vB b3)] [bx [1] (encSMod a0)]) (aG ((decide (a0.Kind < (1 : Int))) == false) <| aG ((decide (a0.Kind < (1 : Int))) == false) <| aF (decide (a0.Kind < (1 : Int))) <| aB hb1 <| aC (c1 hr2 r15_used_ok) <| aC (fun hg : (b1 == false) = true => aC (And.intro trivial okp152) <| aN) <| aC (fun hg : (b1 == false) = true => aC (gi (b1 == false)) <| aC (gi (b1 == false)) <| aC (congrArg (fun z => V.c (.bool (!z))) (eqT152 r2 (⟨(0 : Int), (0 : Int), (0 : Int), [], (⟨(0 : Int), (0 : Int), (0 : Int), (0 : Int), (0 : Int), (0 : Int), (0 : Int), [], (0 : Int), (0 : Int), (⟨(0 : Int), (0 : Int)⟩ : SBound), (⟨(0 : Int), (0 : Int)⟩ : SBound), (⟨(0 : Int), (0 : Int)⟩ : SBound)⟩ : SFilter)⟩ : SMod))) <| aN) <| aF b1 <| aB hb3 <| aN) ?_
 refine iB h (fun b4 h => ?_) (fun b4 h => ?_)
 · refine Rg [.a] (sl 107 [(2, vB false)] []) (aN) ?_
   refine Holds.ret ?_
   refine Tr ?_
   exact bQ (vB false) (congrArg vB (sI h))
 · refine Holds.skip ?_
   refine Tn ?_
   refine Holds.seq ?_
   refine Rg [.a, .a] (sl 107 [(1, vP [1] (0)), (18, vI a0.Kind)] [bx [1] (encSMod a0)]) (aN) ?_
   refine Holds.block ?_
   refine Sj (X := Bool) (fun v => (sl 107 [(1, vP [1] (0)), (18, vI a0.Kind), (19, vB v)] [bx [1] (encSMod a0)])) (fun v => r15_Is_J6 a0 v = some r) ?_ ?_
   · refine Rg [.a, .a] (sl 107 [(1, vP [1] (0)), (18, vI a0.Kind), (19, vB (a0.Kind == (2 : Int)))] [bx [1] (encSMod a0)]) (aN) ?_
     refine iB h (fun b33 h => ?_) (fun b33 h => ?_)
     · refine Holds.skip ?_
       refine Tn ⟨(a0.Kind == (2 : Int)), h, wT⟩
     · refine Re [.a, .a] (sl 107 [(1, vP [1] (0)), (18, vI a0.Kind), (19, vB (a0.Kind == (3 : Int))), (21, vB (a0.Kind == (3 : Int)))] [bx [1] (encSMod a0)]) (aN) ?_
       refine Tn ⟨(a0.Kind == (3 : Int)), h, wT⟩
   · rintro vt19_5 hJ6
     replace hJ6 : r15_Is_J6 a0 vt19_5 = some r := hJ6
     unfold r15_Is_J6 at hJ6
     refine iB hJ6 (fun b7 hJ6 => ?_) (fun b7 hJ6 => ?_)
     · obtain ⟨r8, hr8, hJ6⟩ := bS hJ6
       refine Rg [.a, .a, (.c (vB r8)), .a] (sl 107 [(2, vB r8)] []) (aC (r15_types_ok hr8) <| aN) ?_
       refine Holds.ret ?_
       refine blockQ.ret ?_
       refine Tr ?_
       exact bQ (vB r8) (congrArg vB (sI hJ6))
     · refine Sj (X := Bool) (fun v => (sl 107 [(1, vP [1] (0)), (18, vI a0.Kind), (25, vB v)] [bx [1] (encSMod a0)])) (fun v => r15_Is_J10 a0 v = some r) ?_ ?_
       · refine Rg [.a, .a] (sl 107 [(1, vP [1] (0)), (18, vI a0.Kind), (25, vB (a0.Kind == (4 : Int)))] [bx [1] (encSMod a0)]) (aN) ?_
         refine iB hJ6 (fun b32 hJ6 => ?_) (fun b32 hJ6 => ?_)
         · refine Holds.skip ?_
           refine Tn ⟨(a0.Kind == (4 : Int)), hJ6, wT⟩
         · refine Re [.a, .a] (sl 107 [(1, vP [1] (0)), (18, vI a0.Kind), (25, vB (a0.Kind == (5 : Int))), (27, vB (a0.Kind == (5 : Int)))] [bx [1] (encSMod a0)]) (aN) ?_
           refine Tn ⟨(a0.Kind == (5 : Int)), hJ6, wT⟩
       · rintro vt25_9 hJ10
         replace hJ10 : r15_Is_J10 a0 vt25_9 = some r := hJ10
         unfold r15_Is_J10 at hJ10
         refine iB hJ10 (fun b11 hJ10 => ?_) (fun b11 hJ10 => ?_)
         · obtain ⟨r12, hr12, hJ10⟩ := bS hJ10
           refine Rg [.a, .a, (.c (vB r12)), .a] (sl 107 [(2, vB r12)] []) (aC (r10_IsSub_ok hr12) <| aN) ?_
           refine Holds.ret ?_
           refine blockQ.ret ?_
           refine Tr ?_
           exact bQ (vB r12) (congrArg vB (sI hJ10))
         · refine Rg [.a, .a] (sl 107 [(1, vP [1] (0)), (18, vI a0.Kind), (31, vB (a0.Kind == (6 : Int)))] [bx [1] (encSMod a0)]) (aN) ?_
           refine iB hJ10 (fun b13 hJ10 => ?_) (fun b13 hJ10 => ?_)
           · obtain ⟨b14, hb14, hJ10⟩ := bS hJ10
             refine Rg [.a, .a, .a, .a, .a, .a, .a, (.v (vB b14)), .a] (sl 107 [(2, vB b14)] []) (aG ((decide ((0 : Int) ≤ a0.N)) == true) <| aG ((decide ((0 : Int) ≤ a0.N)) == true) <| aT (decide ((0 : Int) ≤ a0.N)) <| aB hb14 <| aN) ?_
             refine Holds.ret ?_
             refine blockQ.ret ?_
             refine Tr ?_
             exact bQ (vB b14) (congrArg vB (sI hJ10))
           · refine Rg [.a, .a] (sl 107 [(1, vP [1] (0)), (18, vI a0.Kind), (41, vB (a0.Kind == (7 : Int)))] [bx [1] (encSMod a0)]) (aN) ?_
             refine iB hJ10 (fun b15 hJ10 => ?_) (fun b15 hJ10 => ?_)
             · obtain ⟨b16, hb16, hJ10⟩ := bS hJ10
               refine Rg [.a, .a, .a, .a, .a, .a, .a, (.v (vB b16)), .a] (sl 107 [(2, vB b16)] []) (aG ((decide ((1 : Int) ≤ a0.N)) == true) <| aG ((decide ((1 : Int) ≤ a0.N)) == true) <| aT (decide ((1 : Int) ≤ a0.N)) <| aB hb16 <| aN) ?_
               refine Holds.ret ?_
               refine blockQ.ret ?_
               refine Tr ?_
               exact bQ (vB b16) (congrArg vB (sI hJ10))
             · refine Sj (X := Bool) (fun v => (sl 107 [(1, vP [1] (0)), (18, vI a0.Kind), (51, vB v)] [bx [1] (encSMod a0)])) (fun v => r15_Is_J18 a0 v = some r) ?_ ?_
               · refine Rg [.a, .a] (sl 107 [(1, vP [1] (0)), (18, vI a0.Kind), (51, vB (a0.Kind == (8 : Int)))] [bx [1] (encSMod a0)]) (aN) ?_
                 refine iB hJ10 (fun b31 hJ10 => ?_) (fun b31 hJ10 => ?_)
                 · refine Holds.skip ?_
                   refine Tn ⟨(a0.Kind == (8 : Int)), hJ10, wT⟩
                 · refine Re [.a, .a] (sl 107 [(1, vP [1] (0)), (18, vI a0.Kind), (51, vB (a0.Kind == (9 : Int))), (53, vB (a0.Kind == (9 : Int)))] [bx [1] (encSMod a0)]) (aN) ?_
                   refine Tn ⟨(a0.Kind == (9 : Int)), hJ10, wT⟩
               · rintro vt51_17 hJ18
                 replace hJ18 : r15_Is_J18 a0 vt51_17 = some r := hJ18
                 unfold r15_Is_J18 at hJ18
                 refine iB hJ18 (fun b19 hJ18 => ?_) (fun b19 hJ18 => ?_)
                 · obtain ⟨b20, hb20, hJ18⟩ := bS hJ18
                   refine Rg [.a, .a, .a, .a, .a, .a, .a, (.v (vB b20)), .a] (sl 107 [(2, vB b20)] []) (aG ((decide ((1 : Int) ≤ a0.N)) == true) <| aG ((decide ((1 : Int) ≤ a0.N)) == true) <| aT (decide ((1 : Int) ≤ a0.N)) <| aB hb20 <| aN) ?_
                   refine Holds.ret ?_
                   refine blockQ.ret ?_
                   refine Tr ?_
                   exact bQ (vB b20) (congrArg vB (sI hJ18))
                 · refine Rg [.a, .a] (sl 107 [(1, vP [1] (0)), (18, vI a0.Kind), (62, vB (a0.Kind == (11 : Int)))] [bx [1] (encSMod a0)]) (aN) ?_
                   refine iB hJ18 (fun b21 hJ18 => ?_) (fun b21 hJ18 => ?_)
                   · obtain ⟨r22, hr22, hJ18⟩ := bS hJ18
                     refine Rg [.a, .a, (.c (vB r22)), .a] (sl 107 [(2, vB r22)] []) (aC (r13_Is_ok hr22) <| aN) ?_
                     refine Holds.ret ?_
                     refine blockQ.ret ?_
                     refine Tr ?_
                     exact bQ (vB r22) (congrArg vB (sI hJ18))
                   · refine Rg [.a, .a] (sl 107 [(1, vP [1] (0)), (18, vI a0.Kind), (67, vB (a0.Kind == (12 : Int)))] [bx [1] (encSMod a0)]) (aN) ?_
                     refine iB hJ18 (fun b23 hJ18 => ?_) (fun b23 hJ18 => ?_)
                     · obtain ⟨b24, hb24, hJ18⟩ := bS hJ18
                       obtain ⟨b25, hb25, hJ18⟩ := bS hJ18
                       obtain ⟨b26, hb26, hJ18⟩ := bS hJ18
                       refine Rg [.a, .a, .a, .a, .a, .a, .a, (.v (vB b24)), .a, .a, .a, .a, (.v (vB b25)), .a, .a, .a, .a, (.v (vB b26)), .a] (sl 107 [(2, vB b26)] []) (aG ((decide ((0 : Int) ≤ a0.N)) == true) <| aG ((decide ((0 : Int) ≤ a0.N)) == true) <| aT (decide ((0 : Int) ≤ a0.N)) <| aB hb24 <| aG (b24 == true) <| aG (b24 == true) <| aT b24 <| aB hb25 <| aG (b25 == true) <| aG (b25 == true) <| aT b25 <| aB hb26 <| aN) ?_
                       refine Holds.ret ?_
                       refine blockQ.ret ?_
                       refine Tr ?_
                       exact bQ (vB b26) (congrArg vB (sI hJ18))
                     · refine Rg [.a, .a] (sl 107 [(1, vP [1] (0)), (87, vB (a0.Kind == (13 : Int)))] [bx [1] (encSMod a0)]) (aN) ?_
                       refine iB hJ18 (fun b27 hJ18 => ?_) (fun b27 hJ18 => ?_)
                       · obtain ⟨b28, hb28, hJ18⟩ := bS hJ18
                         obtain ⟨b29, hb29, hJ18⟩ := bS hJ18
                         obtain ⟨b30, hb30, hJ18⟩ := bS hJ18
                         refine Rg [.a, .a, .a, .a, .a, .a, .a, (.v (vB b28)), .a, .a, .a, .a, (.v (vB b29)), .a, .a, .a, .a, (.v (vB b30)), .a] (sl 107 [(2, vB b30)] []) (aG ((decide ((-99 : Int) ≤ a0.N)) == true) <| aG ((decide ((-99 : Int) ≤ a0.N)) == true) <| aT (decide ((-99 : Int) ≤ a0.N)) <| aB hb28 <| aG (b28 == true) <| aG (b28 == true) <| aT b28 <| aB hb29 <| aG (b29 == true) <| aG (b29 == true) <| aT b29 <| aB hb30 <| aN) ?_
                         refine Holds.ret ?_
                         refine blockQ.ret ?_
                         refine Tr ?_
                         exact bQ (vB b30) (congrArg vB (sI hJ18))
                       · refine Holds.skip ?_
                         refine blockQ.normal ?_
                         refine Tn ?_
                         refine Rg [.a] (sl 107 [(2, vB true)] []) (aN) ?_
                         refine Holds.ret ?_
                         exact bQ (vB true) (congrArg vB (sI hJ18))
def r13_Text_J39  (l7_38 : List (List UInt8)) : Option ((List UInt8)) :=
 (if ((l7_38.length : Int) == (0 : Int)) = true then
  some str_any
 else
  (r02_Join l7_38 str_x20).bind fun r41 =>
  some r41)
def r13_Text_J36 (a0 : SFilter) (l7_35 : List (List UInt8)) : Option ((List UInt8)) :=
 (r13_boundWord str_value a0.Value).bind fun r37 =>
 (if (r37 == ([] : List UInt8)) = true then
  r13_Text_J39 l7_35
 else
  (app 16 l7_35 ([r37] : List (List UInt8))).bind fun l43 =>
  r13_Text_J39 l43)
def r13_Text_J33 (a0 : SFilter) (l7_32 : List (List UInt8)) : Option ((List UInt8)) :=
 (r13_boundWord str_tough a0.Tough).bind fun r34 =>
 (if (r34 == ([] : List UInt8)) = true then
  r13_Text_J36 a0 l7_32
 else
  (app 16 l7_32 ([r34] : List (List UInt8))).bind fun l45 =>
  r13_Text_J36 a0 l45)
def r13_Text_J30 (a0 : SFilter) (l7_29 : List (List UInt8)) : Option ((List UInt8)) :=
 (r13_boundWord str_power a0.Power).bind fun r31 =>
 (if (r31 == ([] : List UInt8)) = true then
  r13_Text_J33 a0 l7_29
 else
  (app 16 l7_29 ([r31] : List (List UInt8))).bind fun l47 =>
  r13_Text_J33 a0 l47)
def r13_Text_J27 (a0 : SFilter) (r6 : (List (List UInt8))) (l7_26 : List (List UInt8)) : Option ((List UInt8)) :=
 (idx r6 a0.Tap).bind fun e28 =>
 (if (e28 == ([] : List UInt8)) = true then
  r13_Text_J30 a0 l7_26
 else
  (app 16 l7_26 ([e28] : List (List UInt8))).bind fun l49 =>
  r13_Text_J30 a0 l49)
def r13_Text_J58 (vt12_52 : Int) (l7_57 : List (List UInt8)) : Option ((Int × (List (List UInt8))) ⊕ ((List (List UInt8)))) :=
 some (.inl ((wrap64 (vt12_52 + (1 : Int))), l7_57))
def r13_Text_B55 (a0 : SFilter) (vt12_52 : Int) (l7_53 : List (List UInt8)) : Option ((Int × (List (List UInt8))) ⊕ ((List (List UInt8)))) :=
 (if (decide (vt12_52 < (17 : Int))) = true then
  (r13_bit a0.Keys vt12_52).bind fun r59 =>
  (if r59 = true then
   (r11_Name vt12_52).bind fun r61 =>
   (cat str_with_ r61).bind fun s62 =>
   (app 16 l7_53 ([s62] : List (List UInt8))).bind fun l63 =>
   r13_Text_J58 vt12_52 l63
  else
   r13_Text_J58 vt12_52 l7_53)
 else
  some (.inr l7_53))
def r13_Text_J25 (a0 : SFilter) (r6 : (List (List UInt8))) (l7_24 : List (List UInt8)) : Option ((List UInt8)) :=
 (iter (fun (v : Int × (List (List UInt8))) => r13_Text_B55 a0 v.1 v.2) FU ((0 : Int), l7_24)).bind (fun o0 => r13_Text_J27 a0 r6 o0)
def r13_Text_J23 (a0 : SFilter) (r6 : (List (List UInt8))) (l7_22 : List (List UInt8)) : Option ((List UInt8)) :=
 (if (a0.Sub != ([] : List UInt8)) = true then
  (cat str_x7375623a a0.Sub).bind fun s65 =>
  (app 16 l7_22 ([s65] : List (List UInt8))).bind fun l66 =>
  r13_Text_J25 a0 r6 l66
 else
  r13_Text_J25 a0 r6 l7_22)
def r13_Text_J75 (vt11_69 : Int) (l7_74 : List (List UInt8)) : Option ((Int × (List (List UInt8))) ⊕ ((List (List UInt8)))) :=
 some (.inl ((wrap64 (vt11_69 + (1 : Int))), l7_74))
def r13_Text_B72 (a0 : SFilter) (vt11_69 : Int) (l7_70 : List (List UInt8)) : Option ((Int × (List (List UInt8))) ⊕ ((List (List UInt8)))) :=
 (if (decide (vt11_69 < (5 : Int))) = true then
  (r13_bit a0.NotColors vt11_69).bind fun r76 =>
  (if r76 = true then
   (r09_Name vt11_69).bind fun r78 =>
   (cat str_non_ r78).bind fun s79 =>
   (app 16 l7_70 ([s79] : List (List UInt8))).bind fun l80 =>
   r13_Text_J75 vt11_69 l80
  else
   r13_Text_J75 vt11_69 l7_70)
 else
  some (.inr l7_70))
def r13_Text_J21 (a0 : SFilter) (r6 : (List (List UInt8))) (l7_20 : List (List UInt8)) : Option ((List UInt8)) :=
 (iter (fun (v : Int × (List (List UInt8))) => r13_Text_B72 a0 v.1 v.2) FU ((0 : Int), l7_20)).bind (fun o0 => r13_Text_J23 a0 r6 o0)
def r13_Text_J89 (vt10_83 : Int) (l7_88 : List (List UInt8)) : Option ((Int × (List (List UInt8))) ⊕ ((List (List UInt8)))) :=
 some (.inl ((wrap64 (vt10_83 + (1 : Int))), l7_88))
def r13_Text_B86 (a0 : SFilter) (vt10_83 : Int) (l7_84 : List (List UInt8)) : Option ((Int × (List (List UInt8))) ⊕ ((List (List UInt8)))) :=
 (if (decide (vt10_83 < (5 : Int))) = true then
  (r13_bit a0.Colors vt10_83).bind fun r90 =>
  (if r90 = true then
   (r09_Name vt10_83).bind fun r92 =>
   (app 16 l7_84 ([r92] : List (List UInt8))).bind fun l93 =>
   r13_Text_J89 vt10_83 l93
  else
   r13_Text_J89 vt10_83 l7_84)
 else
  some (.inr l7_84))
def r13_Text_J19 (a0 : SFilter) (r6 : (List (List UInt8))) (l7_18 : List (List UInt8)) : Option ((List UInt8)) :=
 (iter (fun (v : Int × (List (List UInt8))) => r13_Text_B86 a0 v.1 v.2) FU ((0 : Int), l7_18)).bind (fun o0 => r13_Text_J21 a0 r6 o0)
def r13_Text_J102 (vt9_96 : Int) (l7_101 : List (List UInt8)) : Option ((Int × (List (List UInt8))) ⊕ ((List (List UInt8)))) :=
 some (.inl ((wrap64 (vt9_96 + (1 : Int))), l7_101))
def r13_Text_B99 (a0 : SFilter) (vt9_96 : Int) (l7_97 : List (List UInt8)) : Option ((Int × (List (List UInt8))) ⊕ ((List (List UInt8)))) :=
 (if (decide (vt9_96 < (6 : Int))) = true then
  (r13_bit a0.NotTypes vt9_96).bind fun r103 =>
  (if r103 = true then
   (r13_typeWord vt9_96).bind fun r105 =>
   (cat str_non_ r105).bind fun s106 =>
   (app 16 l7_97 ([s106] : List (List UInt8))).bind fun l107 =>
   r13_Text_J102 vt9_96 l107
  else
   r13_Text_J102 vt9_96 l7_97)
 else
  some (.inr l7_97))
def r13_Text_J17 (a0 : SFilter) (r6 : (List (List UInt8))) (l7_16 : List (List UInt8)) : Option ((List UInt8)) :=
 (iter (fun (v : Int × (List (List UInt8))) => r13_Text_B99 a0 v.1 v.2) FU ((0 : Int), l7_16)).bind (fun o0 => r13_Text_J19 a0 r6 o0)
def r13_Text_J116 (vt8_110 : Int) (l7_115 : List (List UInt8)) : Option ((Int × (List (List UInt8))) ⊕ ((List (List UInt8)))) :=
 some (.inl ((wrap64 (vt8_110 + (1 : Int))), l7_115))
def r13_Text_B113 (a0 : SFilter) (vt8_110 : Int) (l7_111 : List (List UInt8)) : Option ((Int × (List (List UInt8))) ⊕ ((List (List UInt8)))) :=
 (if (decide (vt8_110 < (6 : Int))) = true then
  (r13_bit a0.Types vt8_110).bind fun r117 =>
  (if r117 = true then
   (r13_typeWord vt8_110).bind fun r119 =>
   (app 16 l7_111 ([r119] : List (List UInt8))).bind fun l120 =>
   r13_Text_J116 vt8_110 l120
  else
   r13_Text_J116 vt8_110 l7_111)
 else
  some (.inr l7_111))
def r13_Text_J15 (a0 : SFilter) (r6 : (List (List UInt8))) (l7_14 : List (List UInt8)) : Option ((List UInt8)) :=
 (iter (fun (v : Int × (List (List UInt8))) => r13_Text_B113 a0 v.1 v.2) FU ((0 : Int), l7_14)).bind (fun o0 => r13_Text_J17 a0 r6 o0)
def r13_Text_J12 (a0 : SFilter) (r5 : (List (List UInt8))) (r6 : (List (List UInt8))) (l7_11 : List (List UInt8)) : Option ((List UInt8)) :=
 (idx r5 a0.Self).bind fun e13 =>
 (if (e13 == ([] : List UInt8)) = true then
  r13_Text_J15 a0 r6 l7_11
 else
  (app 16 l7_11 ([e13] : List (List UInt8))).bind fun l122 =>
  r13_Text_J15 a0 r6 l122)
def r13_Text_J9 (a0 : SFilter) (r4 : (List (List UInt8))) (r5 : (List (List UInt8))) (r6 : (List (List UInt8))) (l7_8 : List (List UInt8)) : Option ((List UInt8)) :=
 (idx r4 a0.Who).bind fun e10 =>
 (if (e10 == ([] : List UInt8)) = true then
  r13_Text_J12 a0 r5 r6 l7_8
 else
  (app 16 l7_8 ([e10] : List (List UInt8))).bind fun l124 =>
  r13_Text_J12 a0 r5 r6 l124)
/-- cardgame/cardgameref13.Text -/
def r13_Text (a0 : SFilter) : Option ((List UInt8)) :=
 (r13_Is a0).bind fun r1 =>
 (if (!r1) = true then
  some ([] : List UInt8)
 else
  (r13_zoneWords).bind fun r3 =>
  (r13_whoWords).bind fun r4 =>
  (r13_selfWords).bind fun r5 =>
  (r13_tapWords).bind fun r6 =>
  (idx r3 a0.Zone).bind fun e7 =>
  (if (e7 == ([] : List UInt8)) = true then
   r13_Text_J9 a0 r4 r5 r6 ([] : List (List UInt8))
  else
   (app 16 ([] : List (List UInt8)) ([e7] : List (List UInt8))).bind fun l126 =>
   r13_Text_J9 a0 r4 r5 r6 l126))
def r13_Text_C (a0 : SFilter) (r : (List UInt8)) : Prop := PCall Tryz.prog I0 119 [vA encSFilter a0] (· = vS r)
theorem r13_Text_ok {a0 : SFilter} {r : (List UInt8)} (h : r13_Text a0 = some r) : r13_Text_C a0 r := by
 refine PCall.body I0_stable (by kernel_rfl) Tryz.func119 rfl Tryz.ntmps119 (rs := [.tmp 2]) rfl rfl ?_
 intro w0 av old gv
 unfold r13_Text at h
 refine Rg [.a, .a] (sl 145 [(1, vP [1] (0))] [bx [1] (encSFilter a0)]) (aN) ?_
 refine Holds.seq ?_
 obtain ⟨r1, hr1, h⟩ := bS h
 refine Rg [.a, (.c (vB r1)), .a] (sl 145 [(1, vP [1] (0)), (15, vB (!r1))] [bx [1] (encSFilter a0)]) (aC (r13_Is_ok hr1) <| aN) ?_
 refine iB h (fun b2 h => ?_) (fun b2 h => ?_)
 · refine Rg [.a] (sl 145 [(2, vS ([] : List UInt8))] []) (aN) ?_
   refine Holds.ret ?_
   refine Tr ?_
   exact bQ (vS ([] : List UInt8)) (congrArg vS (sI h))
 · refine Holds.skip ?_
   refine Tn ?_
   obtain ⟨r3, hr3, h⟩ := bS h
   refine Rg [(.c (vL eS r3)), .a] (sl 145 [(1, vP [1] (0)), (3, vL eS r3)] [bx [1] (encSFilter a0)]) (aC (r13_zoneWords_ok hr3) <| aN) ?_
   obtain ⟨r4, hr4, h⟩ := bS h
   refine Rg [(.c (vL eS r4)), .a] (sl 145 [(1, vP [1] (0)), (3, vL eS r3), (4, vL eS r4)] [bx [1] (encSFilter a0)]) (aC (r13_whoWords_ok hr4) <| aN) ?_
   obtain ⟨r5, hr5, h⟩ := bS h
   refine Rg [(.c (vL eS r5)), .a] (sl 145 [(1, vP [1] (0)), (3, vL eS r3), (4, vL eS r4), (5, vL eS r5)] [bx [1] (encSFilter a0)]) (aC (r13_selfWords_ok hr5) <| aN) ?_
   obtain ⟨r6, hr6, h⟩ := bS h
   refine Rg [(.c (vL eS r6)), .a] (sl 145 [(1, vP [1] (0)), (3, vL eS r3), (4, vL eS r4), (5, vL eS r5), (6, vL eS r6)] [bx [1] (encSFilter a0)]) (aC (r13_tapWords_ok hr6) <| aN) ?_
   refine Rg [.a] (sl 145 [(1, vP [1] (0)), (3, vL eS r3), (4, vL eS r4), (5, vL eS r5), (6, vL eS r6), (7, vO [7])] [rw_ [7] 9 1 eS ([] : List (List UInt8)), bx [1] (encSFilter a0)]) (aN) ?_
   refine Holds.seq ?_
   refine Holds.region ?_
   obtain ⟨e7, he7, h⟩ := bS h
   refine Rp 6 [.a, .a, .a, .a, .a, (.v (vS e7))] (sl 145 [(1, vP [1] (0)), (3, vL eS r3), (4, vL eS r4), (5, vL eS r5), (6, vL eS r6), (7, vO [7]), (20, vO [7]), (21, vL eS r3), (22, vP [1] (0)), (23, vI a0.Zone), (24, vX eS r3 ((a0.Zone).toNat * 1)), (25, vS e7)] [rw_ [7] 9 1 eS ([] : List (List UInt8)), bx [1] (encSFilter a0)]) (aC (idx_b he7) <| aC (eld he7 lenS 0 1 false (vS e7)) <| aC (Eq.refl (vS e7)) <| aN) ?_
   refine Run.inlJ (X := (List (List UInt8))) (fun v => (sl 145 [(1, vP [1] (0)), (4, vL eS r4), (5, vL eS r5), (6, vL eS r6), (26, vO [7])] [rw_ [7] 9 1 eS v, bx [1] (encSFilter a0)])) (fun v => r13_Text_J9 a0 r4 r5 r6 v = some r) rfl rfl (Esc.inline (s := True ∧ (True ∧ True)) (vs := [vO [7], vS e7]) (cs := []) 26 rfl rfl rfl (by kernel_rfl) ⟨trivial, ⟨trivial, trivial⟩⟩ (by kernel_rfl) (by kernel_rfl) Tryz.func138 rfl Tryz.ntmps138 (rs := [.tmp 4]) rfl ?_) ?_
   · intro w07 av7 old7 gv7
     refine At (sg 12 [(0, vO [7]), (1, vS e7)] [rw_ [7] 9 1 eS ([] : List (List UInt8)), bx [1] (encSFilter a0)] 145 [(1, vP [1] (0)), (3, vL eS r3), (4, vL eS r4), (5, vL eS r5), (6, vL eS r6), (7, vO [7]), (20, vO [7]), (21, vL eS r3), (22, vP [1] (0)), (23, vI a0.Zone), (24, vX eS r3 ((a0.Zone).toNat * 1)), (25, vS e7)] [26]) ?_
     refine Rg [.a] (sg 12 [(0, vO [7]), (1, vS e7)] [rw_ [7] 9 1 eS ([] : List (List UInt8)), bx [1] (encSFilter a0)] 145 [(1, vP [1] (0)), (3, vL eS r3), (4, vL eS r4), (5, vL eS r5), (6, vL eS r6), (7, vO [7]), (20, vO [7]), (21, vL eS r3), (22, vP [1] (0)), (23, vI a0.Zone), (24, vX eS r3 ((a0.Zone).toNat * 1)), (25, vS e7)] [26]) (aN) ?_
     refine Holds.seq ?_
     refine Rg [.a, .a] (sg 12 [(0, vO [7]), (1, vS e7), (6, vB (e7 == ([] : List UInt8)))] [rw_ [7] 9 1 eS ([] : List (List UInt8)), bx [1] (encSFilter a0)] 145 [(1, vP [1] (0)), (3, vL eS r3), (4, vL eS r4), (5, vL eS r5), (6, vL eS r6), (7, vO [7]), (20, vO [7]), (21, vL eS r3), (22, vP [1] (0)), (23, vI a0.Zone), (24, vX eS r3 ((a0.Zone).toNat * 1)), (25, vS e7)] [26]) (aN) ?_
     refine iB h (fun b125 h => ?_) (fun b125 h => ?_)
     · refine Rg [.a, .a] (sg 12 [(4, vO [7])] [rw_ [7] 9 1 eS ([] : List (List UInt8)), bx [1] (encSFilter a0)] 145 [(1, vP [1] (0)), (3, vL eS r3), (4, vL eS r4), (5, vL eS r5), (6, vL eS r6), (7, vO [7]), (20, vO [7]), (21, vL eS r3), (22, vP [1] (0)), (23, vI a0.Zone), (24, vX eS r3 ((a0.Zone).toNat * 1)), (25, vS e7)] [26]) (aN) ?_
       refine Holds.ret ?_
       refine Tr ?_
       refine inQ.ret (v := vO [7]) (by kernel_rfl) ⟨([] : List (List UInt8)), h, lT⟩
     · refine Holds.skip ?_
       refine Tn ?_
       obtain ⟨l126, hl126, h⟩ := bS h
       refine Rg [.a, .a, .a, (.e l126.length (l126.flatMap (eS))), .a] (sg 12 [(4, vO [7])] [rw_ [7] 9 1 eS l126, bx [1] (encSFilter a0)] 145 [(1, vP [1] (0)), (3, vL eS r3), (4, vL eS r4), (5, vL eS r5), (6, vL eS r6), (21, vL eS r3), (22, vP [1] (0)), (23, vI a0.Zone), (24, vX eS r3 ((a0.Zone).toNat * 1)), (25, vS e7)] [26]) (aC (ap1 hl126 eS) <| aC (app_b hl126) <| aN) ?_
       refine Holds.ret ?_
       refine inQ.ret (v := vO [7]) (by kernel_rfl) ⟨l126, h, lT⟩
   · rintro l7_8 hJ9
     replace hJ9 : r13_Text_J9 a0 r4 r5 r6 l7_8 = some r := hJ9
     unfold r13_Text_J9 at hJ9
     refine Rw [.a] (sl 145 [(1, vP [1] (0)), (4, vL eS r4), (5, vL eS r5), (6, vL eS r6), (7, vO [7]), (26, vO [7])] [rw_ [7] 9 1 eS l7_8, bx [1] (encSFilter a0)]) (aN) ?_
     refine Tn ?_
     refine Holds.seq ?_
     refine Holds.region ?_
     obtain ⟨e10, he10, hJ9⟩ := bS hJ9
     refine Rp 6 [.a, .a, .a, .a, .a, (.v (vS e10))] (sl 145 [(1, vP [1] (0)), (4, vL eS r4), (5, vL eS r5), (6, vL eS r6), (7, vO [7]), (26, vO [7]), (27, vO [7]), (28, vL eS r4), (29, vP [1] (1)), (30, vI a0.Who), (31, vX eS r4 ((a0.Who).toNat * 1)), (32, vS e10)] [rw_ [7] 9 1 eS l7_8, bx [1] (encSFilter a0)]) (aC (idx_b he10) <| aC (eld he10 lenS 0 1 false (vS e10)) <| aC (Eq.refl (vS e10)) <| aN) ?_
     refine Run.inlJ (X := (List (List UInt8))) (fun v => (sl 145 [(1, vP [1] (0)), (5, vL eS r5), (6, vL eS r6), (33, vO [7])] [rw_ [7] 9 1 eS v, bx [1] (encSFilter a0)])) (fun v => r13_Text_J12 a0 r5 r6 v = some r) rfl rfl (Esc.inline (s := True ∧ (True ∧ True)) (vs := [vO [7], vS e10]) (cs := []) 33 rfl rfl rfl (by kernel_rfl) ⟨trivial, ⟨trivial, trivial⟩⟩ (by kernel_rfl) (by kernel_rfl) Tryz.func138 rfl Tryz.ntmps138 (rs := [.tmp 4]) rfl ?_) ?_
     · intro w010 av10 old10 gv10
       refine At (sg 12 [(0, vO [7]), (1, vS e10)] [rw_ [7] 9 1 eS l7_8, bx [1] (encSFilter a0)] 145 [(1, vP [1] (0)), (4, vL eS r4), (5, vL eS r5), (6, vL eS r6), (7, vO [7]), (26, vO [7]), (27, vO [7]), (28, vL eS r4), (29, vP [1] (1)), (30, vI a0.Who), (31, vX eS r4 ((a0.Who).toNat * 1)), (32, vS e10)] [33]) ?_
       refine Rg [.a] (sg 12 [(0, vO [7]), (1, vS e10)] [rw_ [7] 9 1 eS l7_8, bx [1] (encSFilter a0)] 145 [(1, vP [1] (0)), (4, vL eS r4), (5, vL eS r5), (6, vL eS r6), (7, vO [7]), (26, vO [7]), (27, vO [7]), (28, vL eS r4), (29, vP [1] (1)), (30, vI a0.Who), (31, vX eS r4 ((a0.Who).toNat * 1)), (32, vS e10)] [33]) (aN) ?_
       refine Holds.seq ?_
       refine Rg [.a, .a] (sg 12 [(0, vO [7]), (1, vS e10), (6, vB (e10 == ([] : List UInt8)))] [rw_ [7] 9 1 eS l7_8, bx [1] (encSFilter a0)] 145 [(1, vP [1] (0)), (4, vL eS r4), (5, vL eS r5), (6, vL eS r6), (7, vO [7]), (26, vO [7]), (27, vO [7]), (28, vL eS r4), (29, vP [1] (1)), (30, vI a0.Who), (31, vX eS r4 ((a0.Who).toNat * 1)), (32, vS e10)] [33]) (aN) ?_
       refine iB hJ9 (fun b123 hJ9 => ?_) (fun b123 hJ9 => ?_)
       · refine Rg [.a, .a] (sg 12 [(4, vO [7])] [rw_ [7] 9 1 eS l7_8, bx [1] (encSFilter a0)] 145 [(1, vP [1] (0)), (4, vL eS r4), (5, vL eS r5), (6, vL eS r6), (7, vO [7]), (26, vO [7]), (27, vO [7]), (28, vL eS r4), (29, vP [1] (1)), (30, vI a0.Who), (31, vX eS r4 ((a0.Who).toNat * 1)), (32, vS e10)] [33]) (aN) ?_
         refine Holds.ret ?_
         refine Tr ?_
         refine inQ.ret (v := vO [7]) (by kernel_rfl) ⟨l7_8, hJ9, lT⟩
       · refine Holds.skip ?_
         refine Tn ?_
         obtain ⟨l124, hl124, hJ9⟩ := bS hJ9
         refine Rg [.a, .a, .a, (.e l124.length (l124.flatMap (eS))), .a] (sg 12 [(4, vO [7])] [rw_ [7] 9 1 eS l124, bx [1] (encSFilter a0)] 145 [(1, vP [1] (0)), (4, vL eS r4), (5, vL eS r5), (6, vL eS r6), (28, vL eS r4), (29, vP [1] (1)), (30, vI a0.Who), (31, vX eS r4 ((a0.Who).toNat * 1)), (32, vS e10)] [33]) (aC (ap1 hl124 eS) <| aC (app_b hl124) <| aN) ?_
         refine Holds.ret ?_
         refine inQ.ret (v := vO [7]) (by kernel_rfl) ⟨l124, hJ9, lT⟩
     · rintro l7_11 hJ12
       replace hJ12 : r13_Text_J12 a0 r5 r6 l7_11 = some r := hJ12
       unfold r13_Text_J12 at hJ12
       refine Rw [.a] (sl 145 [(1, vP [1] (0)), (5, vL eS r5), (6, vL eS r6), (7, vO [7]), (33, vO [7])] [rw_ [7] 9 1 eS l7_11, bx [1] (encSFilter a0)]) (aN) ?_
       refine Tn ?_
       refine Holds.seq ?_
       refine Holds.region ?_
       obtain ⟨e13, he13, hJ12⟩ := bS hJ12
       refine Rp 6 [.a, .a, .a, .a, .a, (.v (vS e13))] (sl 145 [(1, vP [1] (0)), (5, vL eS r5), (6, vL eS r6), (7, vO [7]), (33, vO [7]), (34, vO [7]), (35, vL eS r5), (36, vP [1] (2)), (37, vI a0.Self), (38, vX eS r5 ((a0.Self).toNat * 1)), (39, vS e13)] [rw_ [7] 9 1 eS l7_11, bx [1] (encSFilter a0)]) (aC (idx_b he13) <| aC (eld he13 lenS 0 1 false (vS e13)) <| aC (Eq.refl (vS e13)) <| aN) ?_
       refine Run.inlJ (X := (List (List UInt8))) (fun v => (sl 145 [(1, vP [1] (0)), (6, vL eS r6), (40, vO [7])] [rw_ [7] 9 1 eS v, bx [1] (encSFilter a0)])) (fun v => r13_Text_J15 a0 r6 v = some r) rfl rfl (Esc.inline (s := True ∧ (True ∧ True)) (vs := [vO [7], vS e13]) (cs := []) 40 rfl rfl rfl (by kernel_rfl) ⟨trivial, ⟨trivial, trivial⟩⟩ (by kernel_rfl) (by kernel_rfl) Tryz.func138 rfl Tryz.ntmps138 (rs := [.tmp 4]) rfl ?_) ?_
       · intro w013 av13 old13 gv13
         refine At (sg 12 [(0, vO [7]), (1, vS e13)] [rw_ [7] 9 1 eS l7_11, bx [1] (encSFilter a0)] 145 [(1, vP [1] (0)), (5, vL eS r5), (6, vL eS r6), (7, vO [7]), (33, vO [7]), (34, vO [7]), (35, vL eS r5), (36, vP [1] (2)), (37, vI a0.Self), (38, vX eS r5 ((a0.Self).toNat * 1)), (39, vS e13)] [40]) ?_
         refine Rg [.a] (sg 12 [(0, vO [7]), (1, vS e13)] [rw_ [7] 9 1 eS l7_11, bx [1] (encSFilter a0)] 145 [(1, vP [1] (0)), (5, vL eS r5), (6, vL eS r6), (7, vO [7]), (33, vO [7]), (34, vO [7]), (35, vL eS r5), (36, vP [1] (2)), (37, vI a0.Self), (38, vX eS r5 ((a0.Self).toNat * 1)), (39, vS e13)] [40]) (aN) ?_
         refine Holds.seq ?_
         refine Rg [.a, .a] (sg 12 [(0, vO [7]), (1, vS e13), (6, vB (e13 == ([] : List UInt8)))] [rw_ [7] 9 1 eS l7_11, bx [1] (encSFilter a0)] 145 [(1, vP [1] (0)), (5, vL eS r5), (6, vL eS r6), (7, vO [7]), (33, vO [7]), (34, vO [7]), (35, vL eS r5), (36, vP [1] (2)), (37, vI a0.Self), (38, vX eS r5 ((a0.Self).toNat * 1)), (39, vS e13)] [40]) (aN) ?_
         refine iB hJ12 (fun b121 hJ12 => ?_) (fun b121 hJ12 => ?_)
         · refine Rg [.a, .a] (sg 12 [(4, vO [7])] [rw_ [7] 9 1 eS l7_11, bx [1] (encSFilter a0)] 145 [(1, vP [1] (0)), (5, vL eS r5), (6, vL eS r6), (7, vO [7]), (33, vO [7]), (34, vO [7]), (35, vL eS r5), (36, vP [1] (2)), (37, vI a0.Self), (38, vX eS r5 ((a0.Self).toNat * 1)), (39, vS e13)] [40]) (aN) ?_
           refine Holds.ret ?_
           refine Tr ?_
           refine inQ.ret (v := vO [7]) (by kernel_rfl) ⟨l7_11, hJ12, lT⟩
         · refine Holds.skip ?_
           refine Tn ?_
           obtain ⟨l122, hl122, hJ12⟩ := bS hJ12
           refine Rg [.a, .a, .a, (.e l122.length (l122.flatMap (eS))), .a] (sg 12 [(4, vO [7])] [rw_ [7] 9 1 eS l122, bx [1] (encSFilter a0)] 145 [(1, vP [1] (0)), (5, vL eS r5), (6, vL eS r6), (35, vL eS r5), (36, vP [1] (2)), (37, vI a0.Self), (38, vX eS r5 ((a0.Self).toNat * 1)), (39, vS e13)] [40]) (aC (ap1 hl122 eS) <| aC (app_b hl122) <| aN) ?_
           refine Holds.ret ?_
           refine inQ.ret (v := vO [7]) (by kernel_rfl) ⟨l122, hJ12, lT⟩
       · rintro l7_14 hJ15
         replace hJ15 : r13_Text_J15 a0 r6 l7_14 = some r := hJ15
         unfold r13_Text_J15 at hJ15
         refine Rw [.a] (sl 145 [(1, vP [1] (0)), (6, vL eS r6), (7, vO [7]), (40, vO [7])] [rw_ [7] 9 1 eS l7_14, bx [1] (encSFilter a0)]) (aN) ?_
         refine Tn ?_
         refine Sj (X := (List (List UInt8))) (fun v => (sl 145 [(1, vP [1] (0)), (6, vL eS r6), (7, vO [7])] [rw_ [7] 9 1 eS v, bx [1] (encSFilter a0)])) (fun v => r13_Text_J17 a0 r6 v = some r) ?_ ?_
         · refine Rg [.a] (sl 145 [(1, vP [1] (0)), (6, vL eS r6), (7, vO [7]), (8, vI (0 : Int))] [rw_ [7] 9 1 eS l7_14, bx [1] (encSFilter a0)]) (aN) ?_
           refine Holds.block ?_
           obtain ⟨oB113, hiB113, hJ15⟩ := bS hJ15
           refine It (fun (v : Int × (List (List UInt8))) => (sl 145 [(1, vP [1] (0)), (6, vL eS r6), (7, vO [7]), (8, vI v.1)] [rw_ [7] 9 1 eS v.2, bx [1] (encSFilter a0)])) hiB113 (wT) ?_
           rintro ⟨vt8_110, l7_111⟩ zB113 hzB113 hoB113
           replace hzB113 : r13_Text_B113 a0 vt8_110 l7_111 = some zB113 := hzB113
           unfold r13_Text_B113 at hzB113
           refine Holds.seq ?_
           refine Rg [.a, .a] (sl 145 [(1, vP [1] (0)), (6, vL eS r6), (7, vO [7]), (8, vI vt8_110), (42, vB (decide (vt8_110 < (6 : Int))))] [rw_ [7] 9 1 eS l7_111, bx [1] (encSFilter a0)]) (aN) ?_
           refine iB hzB113 (fun b114 hzB113 => ?_) (fun b114 hzB113 => ?_)
           · refine Holds.skip ?_
             refine Tn ?_
             refine Sj (X := (List (List UInt8))) (fun v => (sl 145 [(1, vP [1] (0)), (6, vL eS r6), (7, vO [7]), (8, vI vt8_110)] [rw_ [7] 9 1 eS v, bx [1] (encSFilter a0)])) (fun v => r13_Text_J116 vt8_110 v = some zB113) ?_ ?_
             · refine Holds.block ?_
               obtain ⟨r117, hr117, hzB113⟩ := bS hzB113
               refine Rg [.a, .a, .a, (.c (vB r117))] (sl 145 [(1, vP [1] (0)), (6, vL eS r6), (7, vO [7]), (8, vI vt8_110), (48, vB r117)] [rw_ [7] 9 1 eS l7_111, bx [1] (encSFilter a0)]) (aC (r13_bit_ok hr117) <| aN) ?_
               refine iB hzB113 (fun b118 hzB113 => ?_) (fun b118 hzB113 => ?_)
               · obtain ⟨r119, hr119, hzB113⟩ := bS hzB113
                 obtain ⟨l120, hl120, hzB113⟩ := bS hzB113
                 refine Re [.a, .a, (.c (vS r119)), .a, (.e l120.length (l120.flatMap (eS))), .a] (sl 145 [(1, vP [1] (0)), (6, vL eS r6), (7, vO [7]), (8, vI vt8_110), (48, vB r117), (50, vI vt8_110), (51, vS r119), (52, vO [52]), (53, vO [7])] [rw_ [7] 9 1 eS l120, rw_ [52] 9 1 eS ([r119] : List (List UInt8)), bx [1] (encSFilter a0)]) (aC (r13_typeWord_ok hr119) <| aC (ap1 hl120 eS) <| aC (app_b hl120) <| aN) ?_
                 refine blockQ.normal ?_
                 refine Tn ⟨l120, hzB113, wT⟩
               · refine Holds.skip ?_
                 refine blockQ.normal ?_
                 refine Tn ⟨l7_111, hzB113, wT⟩
             · rintro l7_115 hJ116
               replace hJ116 : r13_Text_J116 vt8_110 l7_115 = some zB113 := hJ116
               unfold r13_Text_J116 at hJ116
               refine Re [.a, .a, .a] (sl 145 [(1, vP [1] (0)), (6, vL eS r6), (7, vO [7]), (8, vI (wrap64 (vt8_110 + (1 : Int)))), (43, vI vt8_110), (44, vI (wrap64 (vt8_110 + (1 : Int))))] [rw_ [7] 9 1 eS l7_115, bx [1] (encSFilter a0)]) (aN) ?_
               refine Tn ⟨((wrap64 (vt8_110 + (1 : Int))), l7_115), (sI hJ116).symm, wT⟩
           · refine Holds.exit ?_
             refine thenQ.exit ?_
             have hoB113_ := hoB113 _ (sI hzB113).symm
             subst hoB113_
             refine thenQ.exit ?_
             refine blockQ.out ?_
             refine Tn ⟨l7_111, hJ15, wT⟩
         · rintro l7_16 hJ17
           replace hJ17 : r13_Text_J17 a0 r6 l7_16 = some r := hJ17
           unfold r13_Text_J17 at hJ17
           refine Sj (X := (List (List UInt8))) (fun v => (sl 145 [(1, vP [1] (0)), (6, vL eS r6), (7, vO [7])] [rw_ [7] 9 1 eS v, bx [1] (encSFilter a0)])) (fun v => r13_Text_J19 a0 r6 v = some r) ?_ ?_
           · refine Rg [.a] (sl 145 [(1, vP [1] (0)), (6, vL eS r6), (7, vO [7]), (9, vI (0 : Int))] [rw_ [7] 9 1 eS l7_16, bx [1] (encSFilter a0)]) (aN) ?_
             refine Holds.block ?_
             obtain ⟨oB99, hiB99, hJ17⟩ := bS hJ17
             refine It (fun (v : Int × (List (List UInt8))) => (sl 145 [(1, vP [1] (0)), (6, vL eS r6), (7, vO [7]), (9, vI v.1)] [rw_ [7] 9 1 eS v.2, bx [1] (encSFilter a0)])) hiB99 (wT) ?_
             rintro ⟨vt9_96, l7_97⟩ zB99 hzB99 hoB99
             replace hzB99 : r13_Text_B99 a0 vt9_96 l7_97 = some zB99 := hzB99
             unfold r13_Text_B99 at hzB99
             refine Holds.seq ?_
             refine Rg [.a, .a] (sl 145 [(1, vP [1] (0)), (6, vL eS r6), (7, vO [7]), (9, vI vt9_96), (55, vB (decide (vt9_96 < (6 : Int))))] [rw_ [7] 9 1 eS l7_97, bx [1] (encSFilter a0)]) (aN) ?_
             refine iB hzB99 (fun b100 hzB99 => ?_) (fun b100 hzB99 => ?_)
             · refine Holds.skip ?_
               refine Tn ?_
               refine Sj (X := (List (List UInt8))) (fun v => (sl 145 [(1, vP [1] (0)), (6, vL eS r6), (7, vO [7]), (9, vI vt9_96)] [rw_ [7] 9 1 eS v, bx [1] (encSFilter a0)])) (fun v => r13_Text_J102 vt9_96 v = some zB99) ?_ ?_
               · refine Holds.block ?_
                 obtain ⟨r103, hr103, hzB99⟩ := bS hzB99
                 refine Rg [.a, .a, .a, (.c (vB r103))] (sl 145 [(1, vP [1] (0)), (6, vL eS r6), (7, vO [7]), (9, vI vt9_96), (61, vB r103)] [rw_ [7] 9 1 eS l7_97, bx [1] (encSFilter a0)]) (aC (r13_bit_ok hr103) <| aN) ?_
                 refine iB hzB99 (fun b104 hzB99 => ?_) (fun b104 hzB99 => ?_)
                 · obtain ⟨r105, hr105, hzB99⟩ := bS hzB99
                   obtain ⟨s106, hs106, hzB99⟩ := bS hzB99
                   obtain ⟨l107, hl107, hzB99⟩ := bS hzB99
                   refine Re [.a, .a, (.c (vS r105)), (.v (vS s106)), .a, (.e l107.length (l107.flatMap (eS))), .a] (sl 145 [(1, vP [1] (0)), (6, vL eS r6), (7, vO [7]), (9, vI vt9_96), (61, vB r103), (63, vI vt9_96), (64, vS r105), (65, vS s106), (66, vO [66]), (67, vO [7])] [rw_ [7] 9 1 eS l107, rw_ [66] 9 1 eS ([s106] : List (List UInt8)), bx [1] (encSFilter a0)]) (aC (r13_typeWord_ok hr105) <| aC (cat_b hs106) <| aC (congrArg (fun z => V.c (.str z)) (cat_x hs106).symm) <| aC (ap1 hl107 eS) <| aC (app_b hl107) <| aN) ?_
                   refine blockQ.normal ?_
                   refine Tn ⟨l107, hzB99, wT⟩
                 · refine Holds.skip ?_
                   refine blockQ.normal ?_
                   refine Tn ⟨l7_97, hzB99, wT⟩
               · rintro l7_101 hJ102
                 replace hJ102 : r13_Text_J102 vt9_96 l7_101 = some zB99 := hJ102
                 unfold r13_Text_J102 at hJ102
                 refine Re [.a, .a, .a] (sl 145 [(1, vP [1] (0)), (6, vL eS r6), (7, vO [7]), (9, vI (wrap64 (vt9_96 + (1 : Int)))), (56, vI vt9_96), (57, vI (wrap64 (vt9_96 + (1 : Int))))] [rw_ [7] 9 1 eS l7_101, bx [1] (encSFilter a0)]) (aN) ?_
                 refine Tn ⟨((wrap64 (vt9_96 + (1 : Int))), l7_101), (sI hJ102).symm, wT⟩
             · refine Holds.exit ?_
               refine thenQ.exit ?_
               have hoB99_ := hoB99 _ (sI hzB99).symm
               subst hoB99_
               refine thenQ.exit ?_
               refine blockQ.out ?_
               refine Tn ⟨l7_97, hJ17, wT⟩
           · rintro l7_18 hJ19
             replace hJ19 : r13_Text_J19 a0 r6 l7_18 = some r := hJ19
             unfold r13_Text_J19 at hJ19
             refine Sj (X := (List (List UInt8))) (fun v => (sl 145 [(1, vP [1] (0)), (6, vL eS r6), (7, vO [7])] [rw_ [7] 9 1 eS v, bx [1] (encSFilter a0)])) (fun v => r13_Text_J21 a0 r6 v = some r) ?_ ?_
             · refine Rg [.a] (sl 145 [(1, vP [1] (0)), (6, vL eS r6), (7, vO [7]), (10, vI (0 : Int))] [rw_ [7] 9 1 eS l7_18, bx [1] (encSFilter a0)]) (aN) ?_
               refine Holds.block ?_
               obtain ⟨oB86, hiB86, hJ19⟩ := bS hJ19
               refine It (fun (v : Int × (List (List UInt8))) => (sl 145 [(1, vP [1] (0)), (6, vL eS r6), (7, vO [7]), (10, vI v.1)] [rw_ [7] 9 1 eS v.2, bx [1] (encSFilter a0)])) hiB86 (wT) ?_
               rintro ⟨vt10_83, l7_84⟩ zB86 hzB86 hoB86
               replace hzB86 : r13_Text_B86 a0 vt10_83 l7_84 = some zB86 := hzB86
               unfold r13_Text_B86 at hzB86
               refine Holds.seq ?_
               refine Rg [.a, .a] (sl 145 [(1, vP [1] (0)), (6, vL eS r6), (7, vO [7]), (10, vI vt10_83), (69, vB (decide (vt10_83 < (5 : Int))))] [rw_ [7] 9 1 eS l7_84, bx [1] (encSFilter a0)]) (aN) ?_
               refine iB hzB86 (fun b87 hzB86 => ?_) (fun b87 hzB86 => ?_)
               · refine Holds.skip ?_
                 refine Tn ?_
                 refine Sj (X := (List (List UInt8))) (fun v => (sl 145 [(1, vP [1] (0)), (6, vL eS r6), (7, vO [7]), (10, vI vt10_83)] [rw_ [7] 9 1 eS v, bx [1] (encSFilter a0)])) (fun v => r13_Text_J89 vt10_83 v = some zB86) ?_ ?_
                 · refine Holds.block ?_
                   obtain ⟨r90, hr90, hzB86⟩ := bS hzB86
                   refine Rg [.a, .a, .a, (.c (vB r90))] (sl 145 [(1, vP [1] (0)), (6, vL eS r6), (7, vO [7]), (10, vI vt10_83), (75, vB r90)] [rw_ [7] 9 1 eS l7_84, bx [1] (encSFilter a0)]) (aC (r13_bit_ok hr90) <| aN) ?_
                   refine iB hzB86 (fun b91 hzB86 => ?_) (fun b91 hzB86 => ?_)
                   · obtain ⟨r92, hr92, hzB86⟩ := bS hzB86
                     obtain ⟨l93, hl93, hzB86⟩ := bS hzB86
                     refine Re [.a, .a, (.c (vS r92)), .a, (.e l93.length (l93.flatMap (eS))), .a] (sl 145 [(1, vP [1] (0)), (6, vL eS r6), (7, vO [7]), (10, vI vt10_83), (75, vB r90), (77, vI vt10_83), (78, vS r92), (79, vO [79]), (80, vO [7])] [rw_ [7] 9 1 eS l93, rw_ [79] 9 1 eS ([r92] : List (List UInt8)), bx [1] (encSFilter a0)]) (aC (r09_Name_ok hr92) <| aC (ap1 hl93 eS) <| aC (app_b hl93) <| aN) ?_
                     refine blockQ.normal ?_
                     refine Tn ⟨l93, hzB86, wT⟩
                   · refine Holds.skip ?_
                     refine blockQ.normal ?_
                     refine Tn ⟨l7_84, hzB86, wT⟩
                 · rintro l7_88 hJ89
                   replace hJ89 : r13_Text_J89 vt10_83 l7_88 = some zB86 := hJ89
                   unfold r13_Text_J89 at hJ89
                   refine Re [.a, .a, .a] (sl 145 [(1, vP [1] (0)), (6, vL eS r6), (7, vO [7]), (10, vI (wrap64 (vt10_83 + (1 : Int)))), (70, vI vt10_83), (71, vI (wrap64 (vt10_83 + (1 : Int))))] [rw_ [7] 9 1 eS l7_88, bx [1] (encSFilter a0)]) (aN) ?_
                   refine Tn ⟨((wrap64 (vt10_83 + (1 : Int))), l7_88), (sI hJ89).symm, wT⟩
               · refine Holds.exit ?_
                 refine thenQ.exit ?_
                 have hoB86_ := hoB86 _ (sI hzB86).symm
                 subst hoB86_
                 refine thenQ.exit ?_
                 refine blockQ.out ?_
                 refine Tn ⟨l7_84, hJ19, wT⟩
             · rintro l7_20 hJ21
               replace hJ21 : r13_Text_J21 a0 r6 l7_20 = some r := hJ21
               unfold r13_Text_J21 at hJ21
               refine Sj (X := (List (List UInt8))) (fun v => (sl 145 [(1, vP [1] (0)), (6, vL eS r6), (7, vO [7])] [rw_ [7] 9 1 eS v, bx [1] (encSFilter a0)])) (fun v => r13_Text_J23 a0 r6 v = some r) ?_ ?_
               · refine Rg [.a] (sl 145 [(1, vP [1] (0)), (6, vL eS r6), (7, vO [7]), (11, vI (0 : Int))] [rw_ [7] 9 1 eS l7_20, bx [1] (encSFilter a0)]) (aN) ?_
                 refine Holds.block ?_
                 obtain ⟨oB72, hiB72, hJ21⟩ := bS hJ21
                 refine It (fun (v : Int × (List (List UInt8))) => (sl 145 [(1, vP [1] (0)), (6, vL eS r6), (7, vO [7]), (11, vI v.1)] [rw_ [7] 9 1 eS v.2, bx [1] (encSFilter a0)])) hiB72 (wT) ?_
                 rintro ⟨vt11_69, l7_70⟩ zB72 hzB72 hoB72
                 replace hzB72 : r13_Text_B72 a0 vt11_69 l7_70 = some zB72 := hzB72
                 unfold r13_Text_B72 at hzB72
                 refine Holds.seq ?_
                 refine Rg [.a, .a] (sl 145 [(1, vP [1] (0)), (6, vL eS r6), (7, vO [7]), (11, vI vt11_69), (82, vB (decide (vt11_69 < (5 : Int))))] [rw_ [7] 9 1 eS l7_70, bx [1] (encSFilter a0)]) (aN) ?_
                 refine iB hzB72 (fun b73 hzB72 => ?_) (fun b73 hzB72 => ?_)
                 · refine Holds.skip ?_
                   refine Tn ?_
                   refine Sj (X := (List (List UInt8))) (fun v => (sl 145 [(1, vP [1] (0)), (6, vL eS r6), (7, vO [7]), (11, vI vt11_69)] [rw_ [7] 9 1 eS v, bx [1] (encSFilter a0)])) (fun v => r13_Text_J75 vt11_69 v = some zB72) ?_ ?_
                   · refine Holds.block ?_
                     obtain ⟨r76, hr76, hzB72⟩ := bS hzB72
                     refine Rg [.a, .a, .a, (.c (vB r76))] (sl 145 [(1, vP [1] (0)), (6, vL eS r6), (7, vO [7]), (11, vI vt11_69), (88, vB r76)] [rw_ [7] 9 1 eS l7_70, bx [1] (encSFilter a0)]) (aC (r13_bit_ok hr76) <| aN) ?_
                     refine iB hzB72 (fun b77 hzB72 => ?_) (fun b77 hzB72 => ?_)
                     · obtain ⟨r78, hr78, hzB72⟩ := bS hzB72
                       obtain ⟨s79, hs79, hzB72⟩ := bS hzB72
                       obtain ⟨l80, hl80, hzB72⟩ := bS hzB72
                       refine Re [.a, .a, (.c (vS r78)), (.v (vS s79)), .a, (.e l80.length (l80.flatMap (eS))), .a] (sl 145 [(1, vP [1] (0)), (6, vL eS r6), (7, vO [7]), (11, vI vt11_69), (88, vB r76), (90, vI vt11_69), (91, vS r78), (92, vS s79), (93, vO [93]), (94, vO [7])] [rw_ [7] 9 1 eS l80, rw_ [93] 9 1 eS ([s79] : List (List UInt8)), bx [1] (encSFilter a0)]) (aC (r09_Name_ok hr78) <| aC (cat_b hs79) <| aC (congrArg (fun z => V.c (.str z)) (cat_x hs79).symm) <| aC (ap1 hl80 eS) <| aC (app_b hl80) <| aN) ?_
                       refine blockQ.normal ?_
                       refine Tn ⟨l80, hzB72, wT⟩
                     · refine Holds.skip ?_
                       refine blockQ.normal ?_
                       refine Tn ⟨l7_70, hzB72, wT⟩
                   · rintro l7_74 hJ75
                     replace hJ75 : r13_Text_J75 vt11_69 l7_74 = some zB72 := hJ75
                     unfold r13_Text_J75 at hJ75
                     refine Re [.a, .a, .a] (sl 145 [(1, vP [1] (0)), (6, vL eS r6), (7, vO [7]), (11, vI (wrap64 (vt11_69 + (1 : Int)))), (83, vI vt11_69), (84, vI (wrap64 (vt11_69 + (1 : Int))))] [rw_ [7] 9 1 eS l7_74, bx [1] (encSFilter a0)]) (aN) ?_
                     refine Tn ⟨((wrap64 (vt11_69 + (1 : Int))), l7_74), (sI hJ75).symm, wT⟩
                 · refine Holds.exit ?_
                   refine thenQ.exit ?_
                   have hoB72_ := hoB72 _ (sI hzB72).symm
                   subst hoB72_
                   refine thenQ.exit ?_
                   refine blockQ.out ?_
                   refine Tn ⟨l7_70, hJ21, wT⟩
               · rintro l7_22 hJ23
                 replace hJ23 : r13_Text_J23 a0 r6 l7_22 = some r := hJ23
                 unfold r13_Text_J23 at hJ23
                 refine Sj (X := (List (List UInt8))) (fun v => (sl 145 [(1, vP [1] (0)), (6, vL eS r6), (7, vO [7])] [rw_ [7] 9 1 eS v, bx [1] (encSFilter a0)])) (fun v => r13_Text_J25 a0 r6 v = some r) ?_ ?_
                 · refine Rg [.a, .a, .a] (sl 145 [(1, vP [1] (0)), (6, vL eS r6), (7, vO [7]), (97, vB (a0.Sub != ([] : List UInt8)))] [rw_ [7] 9 1 eS l7_22, bx [1] (encSFilter a0)]) (aN) ?_
                   refine iB hJ23 (fun b64 hJ23 => ?_) (fun b64 hJ23 => ?_)
                   · obtain ⟨s65, hs65, hJ23⟩ := bS hJ23
                     obtain ⟨l66, hl66, hJ23⟩ := bS hJ23
                     refine Re [.a, .a, .a, (.v (vS s65)), .a, (.e l66.length (l66.flatMap (eS))), .a] (sl 145 [(1, vP [1] (0)), (6, vL eS r6), (7, vO [7]), (97, vB (a0.Sub != ([] : List UInt8))), (99, vP [1] (7)), (100, vS a0.Sub), (101, vS s65), (102, vO [102]), (103, vO [7])] [rw_ [7] 9 1 eS l66, rw_ [102] 9 1 eS ([s65] : List (List UInt8)), bx [1] (encSFilter a0)]) (aC (cat_b hs65) <| aC (congrArg (fun z => V.c (.str z)) (cat_x hs65).symm) <| aC (ap1 hl66 eS) <| aC (app_b hl66) <| aN) ?_
                     refine Tn ⟨l66, hJ23, wT⟩
                   · refine Holds.skip ?_
                     refine Tn ⟨l7_22, hJ23, wT⟩
                 · rintro l7_24 hJ25
                   replace hJ25 : r13_Text_J25 a0 r6 l7_24 = some r := hJ25
                   unfold r13_Text_J25 at hJ25
                   refine Sj (X := (List (List UInt8))) (fun v => (sl 145 [(1, vP [1] (0)), (6, vL eS r6), (7, vO [7])] [rw_ [7] 9 1 eS v, bx [1] (encSFilter a0)])) (fun v => r13_Text_J27 a0 r6 v = some r) ?_ ?_
                   · refine Rg [.a] (sl 145 [(1, vP [1] (0)), (6, vL eS r6), (7, vO [7]), (12, vI (0 : Int))] [rw_ [7] 9 1 eS l7_24, bx [1] (encSFilter a0)]) (aN) ?_
                     refine Holds.block ?_
                     obtain ⟨oB55, hiB55, hJ25⟩ := bS hJ25
                     refine It (fun (v : Int × (List (List UInt8))) => (sl 145 [(1, vP [1] (0)), (6, vL eS r6), (7, vO [7]), (12, vI v.1)] [rw_ [7] 9 1 eS v.2, bx [1] (encSFilter a0)])) hiB55 (wT) ?_
                     rintro ⟨vt12_52, l7_53⟩ zB55 hzB55 hoB55
                     replace hzB55 : r13_Text_B55 a0 vt12_52 l7_53 = some zB55 := hzB55
                     unfold r13_Text_B55 at hzB55
                     refine Holds.seq ?_
                     refine Rg [.a, .a] (sl 145 [(1, vP [1] (0)), (6, vL eS r6), (7, vO [7]), (12, vI vt12_52), (105, vB (decide (vt12_52 < (17 : Int))))] [rw_ [7] 9 1 eS l7_53, bx [1] (encSFilter a0)]) (aN) ?_
                     refine iB hzB55 (fun b56 hzB55 => ?_) (fun b56 hzB55 => ?_)
                     · refine Holds.skip ?_
                       refine Tn ?_
                       refine Sj (X := (List (List UInt8))) (fun v => (sl 145 [(1, vP [1] (0)), (6, vL eS r6), (7, vO [7]), (12, vI vt12_52)] [rw_ [7] 9 1 eS v, bx [1] (encSFilter a0)])) (fun v => r13_Text_J58 vt12_52 v = some zB55) ?_ ?_
                       · refine Holds.block ?_
                         obtain ⟨r59, hr59, hzB55⟩ := bS hzB55
                         refine Rg [.a, .a, .a, (.c (vB r59))] (sl 145 [(1, vP [1] (0)), (6, vL eS r6), (7, vO [7]), (12, vI vt12_52), (111, vB r59)] [rw_ [7] 9 1 eS l7_53, bx [1] (encSFilter a0)]) (aC (r13_bit_ok hr59) <| aN) ?_
                         refine iB hzB55 (fun b60 hzB55 => ?_) (fun b60 hzB55 => ?_)
                         · obtain ⟨r61, hr61, hzB55⟩ := bS hzB55
                           obtain ⟨s62, hs62, hzB55⟩ := bS hzB55
                           obtain ⟨l63, hl63, hzB55⟩ := bS hzB55
                           refine Re [.a, .a, (.c (vS r61)), (.v (vS s62)), .a, (.e l63.length (l63.flatMap (eS))), .a] (sl 145 [(1, vP [1] (0)), (6, vL eS r6), (7, vO [7]), (12, vI vt12_52), (111, vB r59), (113, vI vt12_52), (114, vS r61), (115, vS s62), (116, vO [116]), (117, vO [7])] [rw_ [7] 9 1 eS l63, rw_ [116] 9 1 eS ([s62] : List (List UInt8)), bx [1] (encSFilter a0)]) (aC (r11_Name_ok hr61) <| aC (cat_b hs62) <| aC (congrArg (fun z => V.c (.str z)) (cat_x hs62).symm) <| aC (ap1 hl63 eS) <| aC (app_b hl63) <| aN) ?_
                           refine blockQ.normal ?_
                           refine Tn ⟨l63, hzB55, wT⟩
                         · refine Holds.skip ?_
                           refine blockQ.normal ?_
                           refine Tn ⟨l7_53, hzB55, wT⟩
                       · rintro l7_57 hJ58
                         replace hJ58 : r13_Text_J58 vt12_52 l7_57 = some zB55 := hJ58
                         unfold r13_Text_J58 at hJ58
                         refine Re [.a, .a, .a] (sl 145 [(1, vP [1] (0)), (6, vL eS r6), (7, vO [7]), (12, vI (wrap64 (vt12_52 + (1 : Int)))), (106, vI vt12_52), (107, vI (wrap64 (vt12_52 + (1 : Int))))] [rw_ [7] 9 1 eS l7_57, bx [1] (encSFilter a0)]) (aN) ?_
                         refine Tn ⟨((wrap64 (vt12_52 + (1 : Int))), l7_57), (sI hJ58).symm, wT⟩
                     · refine Holds.exit ?_
                       refine thenQ.exit ?_
                       have hoB55_ := hoB55 _ (sI hzB55).symm
                       subst hoB55_
                       refine thenQ.exit ?_
                       refine blockQ.out ?_
                       refine Tn ⟨l7_53, hJ25, wT⟩
                   · rintro l7_26 hJ27
                     replace hJ27 : r13_Text_J27 a0 r6 l7_26 = some r := hJ27
                     unfold r13_Text_J27 at hJ27
                     refine Holds.seq ?_
                     refine Holds.region ?_
                     obtain ⟨e28, he28, hJ27⟩ := bS hJ27
                     refine Rp 6 [.a, .a, .a, .a, .a, (.v (vS e28))] (sl 145 [(1, vP [1] (0)), (6, vL eS r6), (7, vO [7]), (118, vO [7]), (119, vL eS r6), (120, vP [1] (9)), (121, vI a0.Tap), (122, vX eS r6 ((a0.Tap).toNat * 1)), (123, vS e28)] [rw_ [7] 9 1 eS l7_26, bx [1] (encSFilter a0)]) (aC (idx_b he28) <| aC (eld he28 lenS 0 1 false (vS e28)) <| aC (Eq.refl (vS e28)) <| aN) ?_
                     refine Run.inlJ (X := (List (List UInt8))) (fun v => (sl 145 [(1, vP [1] (0)), (124, vO [7])] [rw_ [7] 9 1 eS v, bx [1] (encSFilter a0)])) (fun v => r13_Text_J30 a0 v = some r) rfl rfl (Esc.inline (s := True ∧ (True ∧ True)) (vs := [vO [7], vS e28]) (cs := []) 124 rfl rfl rfl (by kernel_rfl) ⟨trivial, ⟨trivial, trivial⟩⟩ (by kernel_rfl) (by kernel_rfl) Tryz.func138 rfl Tryz.ntmps138 (rs := [.tmp 4]) rfl ?_) ?_
                     · intro w028 av28 old28 gv28
                       refine At (sg 12 [(0, vO [7]), (1, vS e28)] [rw_ [7] 9 1 eS l7_26, bx [1] (encSFilter a0)] 145 [(1, vP [1] (0)), (6, vL eS r6), (7, vO [7]), (118, vO [7]), (119, vL eS r6), (120, vP [1] (9)), (121, vI a0.Tap), (122, vX eS r6 ((a0.Tap).toNat * 1)), (123, vS e28)] [124]) ?_
                       refine Rg [.a] (sg 12 [(0, vO [7]), (1, vS e28)] [rw_ [7] 9 1 eS l7_26, bx [1] (encSFilter a0)] 145 [(1, vP [1] (0)), (6, vL eS r6), (7, vO [7]), (118, vO [7]), (119, vL eS r6), (120, vP [1] (9)), (121, vI a0.Tap), (122, vX eS r6 ((a0.Tap).toNat * 1)), (123, vS e28)] [124]) (aN) ?_
                       refine Holds.seq ?_
                       refine Rg [.a, .a] (sg 12 [(0, vO [7]), (1, vS e28), (6, vB (e28 == ([] : List UInt8)))] [rw_ [7] 9 1 eS l7_26, bx [1] (encSFilter a0)] 145 [(1, vP [1] (0)), (6, vL eS r6), (7, vO [7]), (118, vO [7]), (119, vL eS r6), (120, vP [1] (9)), (121, vI a0.Tap), (122, vX eS r6 ((a0.Tap).toNat * 1)), (123, vS e28)] [124]) (aN) ?_
                       refine iB hJ27 (fun b48 hJ27 => ?_) (fun b48 hJ27 => ?_)
                       · refine Rg [.a, .a] (sg 12 [(4, vO [7])] [rw_ [7] 9 1 eS l7_26, bx [1] (encSFilter a0)] 145 [(1, vP [1] (0)), (6, vL eS r6), (7, vO [7]), (118, vO [7]), (119, vL eS r6), (120, vP [1] (9)), (121, vI a0.Tap), (122, vX eS r6 ((a0.Tap).toNat * 1)), (123, vS e28)] [124]) (aN) ?_
                         refine Holds.ret ?_
                         refine Tr ?_
                         refine inQ.ret (v := vO [7]) (by kernel_rfl) ⟨l7_26, hJ27, lT⟩
                       · refine Holds.skip ?_
                         refine Tn ?_
                         obtain ⟨l49, hl49, hJ27⟩ := bS hJ27
                         refine Rg [.a, .a, .a, (.e l49.length (l49.flatMap (eS))), .a] (sg 12 [(4, vO [7])] [rw_ [7] 9 1 eS l49, bx [1] (encSFilter a0)] 145 [(1, vP [1] (0)), (6, vL eS r6), (119, vL eS r6), (120, vP [1] (9)), (121, vI a0.Tap), (122, vX eS r6 ((a0.Tap).toNat * 1)), (123, vS e28)] [124]) (aC (ap1 hl49 eS) <| aC (app_b hl49) <| aN) ?_
                         refine Holds.ret ?_
                         refine inQ.ret (v := vO [7]) (by kernel_rfl) ⟨l49, hJ27, lT⟩
                     · rintro l7_29 hJ30
                       replace hJ30 : r13_Text_J30 a0 l7_29 = some r := hJ30
                       unfold r13_Text_J30 at hJ30
                       refine Rw [.a] (sl 145 [(1, vP [1] (0)), (7, vO [7]), (124, vO [7])] [rw_ [7] 9 1 eS l7_29, bx [1] (encSFilter a0)]) (aN) ?_
                       refine Tn ?_
                       refine Holds.seq ?_
                       refine Holds.region ?_
                       obtain ⟨r31, hr31, hJ30⟩ := bS hJ30
                       refine Rp 4 [.a, .a, .a, (.c (vS r31))] (sl 145 [(1, vP [1] (0)), (7, vO [7]), (124, vO [7]), (125, vO [7]), (126, vP [1] (10)), (127, vA encSBound a0.Power), (128, vS r31)] [rw_ [7] 9 1 eS l7_29, bx [1] (encSFilter a0)]) (aC (r13_boundWord_ok hr31) <| aN) ?_
                       refine Run.inlJ (X := (List (List UInt8))) (fun v => (sl 145 [(1, vP [1] (0)), (129, vO [7])] [rw_ [7] 9 1 eS v, bx [1] (encSFilter a0)])) (fun v => r13_Text_J33 a0 v = some r) rfl rfl (Esc.inline (s := True ∧ (True ∧ True)) (vs := [vO [7], vS r31]) (cs := []) 129 rfl rfl rfl (by kernel_rfl) ⟨trivial, ⟨trivial, trivial⟩⟩ (by kernel_rfl) (by kernel_rfl) Tryz.func138 rfl Tryz.ntmps138 (rs := [.tmp 4]) rfl ?_) ?_
                       · intro w031 av31 old31 gv31
                         refine At (sg 12 [(0, vO [7]), (1, vS r31)] [rw_ [7] 9 1 eS l7_29, bx [1] (encSFilter a0)] 145 [(1, vP [1] (0)), (7, vO [7]), (124, vO [7]), (125, vO [7]), (126, vP [1] (10)), (127, vA encSBound a0.Power), (128, vS r31)] [129]) ?_
                         refine Rg [.a] (sg 12 [(0, vO [7]), (1, vS r31)] [rw_ [7] 9 1 eS l7_29, bx [1] (encSFilter a0)] 145 [(1, vP [1] (0)), (7, vO [7]), (124, vO [7]), (125, vO [7]), (126, vP [1] (10)), (127, vA encSBound a0.Power), (128, vS r31)] [129]) (aN) ?_
                         refine Holds.seq ?_
                         refine Rg [.a, .a] (sg 12 [(0, vO [7]), (1, vS r31), (6, vB (r31 == ([] : List UInt8)))] [rw_ [7] 9 1 eS l7_29, bx [1] (encSFilter a0)] 145 [(1, vP [1] (0)), (7, vO [7]), (124, vO [7]), (125, vO [7]), (126, vP [1] (10)), (127, vA encSBound a0.Power), (128, vS r31)] [129]) (aN) ?_
                         refine iB hJ30 (fun b46 hJ30 => ?_) (fun b46 hJ30 => ?_)
                         · refine Rg [.a, .a] (sg 12 [(4, vO [7])] [rw_ [7] 9 1 eS l7_29, bx [1] (encSFilter a0)] 145 [(1, vP [1] (0)), (7, vO [7]), (124, vO [7]), (125, vO [7]), (126, vP [1] (10)), (127, vA encSBound a0.Power), (128, vS r31)] [129]) (aN) ?_
                           refine Holds.ret ?_
                           refine Tr ?_
                           refine inQ.ret (v := vO [7]) (by kernel_rfl) ⟨l7_29, hJ30, lT⟩
                         · refine Holds.skip ?_
                           refine Tn ?_
                           obtain ⟨l47, hl47, hJ30⟩ := bS hJ30
                           refine Rg [.a, .a, .a, (.e l47.length (l47.flatMap (eS))), .a] (sg 12 [(4, vO [7])] [rw_ [7] 9 1 eS l47, bx [1] (encSFilter a0)] 145 [(1, vP [1] (0)), (126, vP [1] (10)), (127, vA encSBound a0.Power), (128, vS r31)] [129]) (aC (ap1 hl47 eS) <| aC (app_b hl47) <| aN) ?_
                           refine Holds.ret ?_
                           refine inQ.ret (v := vO [7]) (by kernel_rfl) ⟨l47, hJ30, lT⟩
                       · rintro l7_32 hJ33
                         replace hJ33 : r13_Text_J33 a0 l7_32 = some r := hJ33
                         unfold r13_Text_J33 at hJ33
                         refine Rw [.a] (sl 145 [(1, vP [1] (0)), (7, vO [7]), (129, vO [7])] [rw_ [7] 9 1 eS l7_32, bx [1] (encSFilter a0)]) (aN) ?_
                         refine Tn ?_
                         refine Holds.seq ?_
                         refine Holds.region ?_
                         obtain ⟨r34, hr34, hJ33⟩ := bS hJ33
                         refine Rp 4 [.a, .a, .a, (.c (vS r34))] (sl 145 [(1, vP [1] (0)), (7, vO [7]), (129, vO [7]), (130, vO [7]), (131, vP [1] (12)), (132, vA encSBound a0.Tough), (133, vS r34)] [rw_ [7] 9 1 eS l7_32, bx [1] (encSFilter a0)]) (aC (r13_boundWord_ok hr34) <| aN) ?_
                         refine Run.inlJ (X := (List (List UInt8))) (fun v => (sl 145 [(1, vP [1] (0)), (134, vO [7])] [rw_ [7] 9 1 eS v, bx [1] (encSFilter a0)])) (fun v => r13_Text_J36 a0 v = some r) rfl rfl (Esc.inline (s := True ∧ (True ∧ True)) (vs := [vO [7], vS r34]) (cs := []) 134 rfl rfl rfl (by kernel_rfl) ⟨trivial, ⟨trivial, trivial⟩⟩ (by kernel_rfl) (by kernel_rfl) Tryz.func138 rfl Tryz.ntmps138 (rs := [.tmp 4]) rfl ?_) ?_
                         · intro w034 av34 old34 gv34
                           refine At (sg 12 [(0, vO [7]), (1, vS r34)] [rw_ [7] 9 1 eS l7_32, bx [1] (encSFilter a0)] 145 [(1, vP [1] (0)), (7, vO [7]), (129, vO [7]), (130, vO [7]), (131, vP [1] (12)), (132, vA encSBound a0.Tough), (133, vS r34)] [134]) ?_
                           refine Rg [.a] (sg 12 [(0, vO [7]), (1, vS r34)] [rw_ [7] 9 1 eS l7_32, bx [1] (encSFilter a0)] 145 [(1, vP [1] (0)), (7, vO [7]), (129, vO [7]), (130, vO [7]), (131, vP [1] (12)), (132, vA encSBound a0.Tough), (133, vS r34)] [134]) (aN) ?_
                           refine Holds.seq ?_
                           refine Rg [.a, .a] (sg 12 [(0, vO [7]), (1, vS r34), (6, vB (r34 == ([] : List UInt8)))] [rw_ [7] 9 1 eS l7_32, bx [1] (encSFilter a0)] 145 [(1, vP [1] (0)), (7, vO [7]), (129, vO [7]), (130, vO [7]), (131, vP [1] (12)), (132, vA encSBound a0.Tough), (133, vS r34)] [134]) (aN) ?_
                           refine iB hJ33 (fun b44 hJ33 => ?_) (fun b44 hJ33 => ?_)
                           · refine Rg [.a, .a] (sg 12 [(4, vO [7])] [rw_ [7] 9 1 eS l7_32, bx [1] (encSFilter a0)] 145 [(1, vP [1] (0)), (7, vO [7]), (129, vO [7]), (130, vO [7]), (131, vP [1] (12)), (132, vA encSBound a0.Tough), (133, vS r34)] [134]) (aN) ?_
                             refine Holds.ret ?_
                             refine Tr ?_
                             refine inQ.ret (v := vO [7]) (by kernel_rfl) ⟨l7_32, hJ33, lT⟩
                           · refine Holds.skip ?_
                             refine Tn ?_
                             obtain ⟨l45, hl45, hJ33⟩ := bS hJ33
                             refine Rg [.a, .a, .a, (.e l45.length (l45.flatMap (eS))), .a] (sg 12 [(4, vO [7])] [rw_ [7] 9 1 eS l45, bx [1] (encSFilter a0)] 145 [(1, vP [1] (0)), (131, vP [1] (12)), (132, vA encSBound a0.Tough), (133, vS r34)] [134]) (aC (ap1 hl45 eS) <| aC (app_b hl45) <| aN) ?_
                             refine Holds.ret ?_
                             refine inQ.ret (v := vO [7]) (by kernel_rfl) ⟨l45, hJ33, lT⟩
                         · rintro l7_35 hJ36
                           replace hJ36 : r13_Text_J36 a0 l7_35 = some r := hJ36
                           unfold r13_Text_J36 at hJ36
                           refine Rw [.a] (sl 145 [(1, vP [1] (0)), (7, vO [7]), (134, vO [7])] [rw_ [7] 9 1 eS l7_35, bx [1] (encSFilter a0)]) (aN) ?_
                           refine Tn ?_
                           refine Holds.seq ?_
                           refine Holds.region ?_
                           obtain ⟨r37, hr37, hJ36⟩ := bS hJ36
                           refine Rp 4 [.a, .a, .a, (.c (vS r37))] (sl 145 [(1, vP [1] (0)), (7, vO [7]), (134, vO [7]), (135, vO [7]), (136, vP [1] (14)), (137, vA encSBound a0.Value), (138, vS r37)] [rw_ [7] 9 1 eS l7_35, bx [1] (encSFilter a0)]) (aC (r13_boundWord_ok hr37) <| aN) ?_
                           refine Run.inlJ (X := (List (List UInt8))) (fun v => (sl 145 [(139, vO [7])] [rw_ [7] 9 1 eS v])) (fun v => r13_Text_J39 v = some r) rfl rfl (Esc.inline (s := True ∧ (True ∧ True)) (vs := [vO [7], vS r37]) (cs := []) 139 rfl rfl rfl (by kernel_rfl) ⟨trivial, ⟨trivial, trivial⟩⟩ (by kernel_rfl) (by kernel_rfl) Tryz.func138 rfl Tryz.ntmps138 (rs := [.tmp 4]) rfl ?_) ?_
                           · intro w037 av37 old37 gv37
                             refine At (sg 12 [(0, vO [7]), (1, vS r37)] [rw_ [7] 9 1 eS l7_35, bx [1] (encSFilter a0)] 145 [(1, vP [1] (0)), (7, vO [7]), (134, vO [7]), (135, vO [7]), (136, vP [1] (14)), (137, vA encSBound a0.Value), (138, vS r37)] [139]) ?_
                             refine Rg [.a] (sg 12 [(0, vO [7]), (1, vS r37)] [rw_ [7] 9 1 eS l7_35, bx [1] (encSFilter a0)] 145 [(1, vP [1] (0)), (7, vO [7]), (134, vO [7]), (135, vO [7]), (136, vP [1] (14)), (137, vA encSBound a0.Value), (138, vS r37)] [139]) (aN) ?_
                             refine Holds.seq ?_
                             refine Rg [.a, .a] (sg 12 [(0, vO [7]), (1, vS r37), (6, vB (r37 == ([] : List UInt8)))] [rw_ [7] 9 1 eS l7_35, bx [1] (encSFilter a0)] 145 [(1, vP [1] (0)), (7, vO [7]), (134, vO [7]), (135, vO [7]), (136, vP [1] (14)), (137, vA encSBound a0.Value), (138, vS r37)] [139]) (aN) ?_
                             refine iB hJ36 (fun b42 hJ36 => ?_) (fun b42 hJ36 => ?_)
                             · refine Rg [.a, .a] (sg 12 [(4, vO [7])] [rw_ [7] 9 1 eS l7_35, bx [1] (encSFilter a0)] 145 [(1, vP [1] (0)), (7, vO [7]), (134, vO [7]), (135, vO [7]), (136, vP [1] (14)), (137, vA encSBound a0.Value), (138, vS r37)] [139]) (aN) ?_
                               refine Holds.ret ?_
                               refine Tr ?_
                               refine inQ.ret (v := vO [7]) (by kernel_rfl) ⟨l7_35, hJ36, lT⟩
                             · refine Holds.skip ?_
                               refine Tn ?_
                               obtain ⟨l43, hl43, hJ36⟩ := bS hJ36
                               refine Rg [.a, .a, .a, (.e l43.length (l43.flatMap (eS))), .a] (sg 12 [(4, vO [7])] [rw_ [7] 9 1 eS l43, bx [1] (encSFilter a0)] 145 [(1, vP [1] (0)), (136, vP [1] (14)), (137, vA encSBound a0.Value), (138, vS r37)] [139]) (aC (ap1 hl43 eS) <| aC (app_b hl43) <| aN) ?_
                               refine Holds.ret ?_
                               refine inQ.ret (v := vO [7]) (by kernel_rfl) ⟨l43, hJ36, lT⟩
                           · rintro l7_38 hJ39
                             replace hJ39 : r13_Text_J39 l7_38 = some r := hJ39
                             unfold r13_Text_J39 at hJ39
                             refine Rw [.a] (sl 145 [(7, vO [7]), (139, vO [7])] [rw_ [7] 9 1 eS l7_38]) (aN) ?_
                             refine Tn ?_
                             refine Holds.seq ?_
                             refine Rg [.a, .a, .a] (sl 145 [(7, vO [7]), (142, vB ((l7_38.length : Int) == (0 : Int)))] [rw_ [7] 9 1 eS l7_38]) (aN) ?_
                             refine iB hJ39 (fun b40 hJ39 => ?_) (fun b40 hJ39 => ?_)
                             · refine Rg [.a] (sl 145 [(2, vS str_any)] []) (aN) ?_
                               refine Holds.ret ?_
                               refine Tr ?_
                               exact bQ (vS str_any) (congrArg vS (sI hJ39))
                             · refine Holds.skip ?_
                               refine Tn ?_
                               obtain ⟨r41, hr41, hJ39⟩ := bS hJ39
                               refine Rg [.a, (.c (vS r41)), .a] (sl 145 [(2, vS r41)] []) (aC (r02_Join_ok hr41) <| aN) ?_
                               refine Holds.ret ?_
                               exact bQ (vS r41) (congrArg vS (sI hJ39))
def r18_Is_J10 (a0 : STrigger) (zone_t3_9 : Int) : Option (Bool) :=
 (r13_Is a0.Filter).bind fun r11 =>
 (some (if r11 = true then a0.Filter.Zone == zone_t3_9 else false)).bind fun b12 =>
 some b12
/-- cardgame/cardgameref18.Is -/
def r18_Is (a0 : STrigger) : Option (Bool) :=
 (r18_word a0.When).bind fun r1 =>
 (some (if (r1 == ([] : List UInt8)) = true then true else decide (a0.Who < (0 : Int)))).bind fun b2 =>
 (some (if b2 = true then true else decide ((2 : Int) < a0.Who))).bind fun b3 =>
 (gd (b3 == false) (r18_hasWho a0.When)).bind fun r4 =>
 (some (if (!r4) = true then a0.Who != (0 : Int) else false)).bind fun b5 =>
 (if (if b3 = true then true else b5) = true then
  some false
 else
  (r18_hasFilter a0.When).bind fun r7 =>
  (if (!r7) = true then
   some (a0.Filter == (⟨(0 : Int), (0 : Int), (0 : Int), (0 : Int), (0 : Int), (0 : Int), (0 : Int), [], (0 : Int), (0 : Int), (⟨(0 : Int), (0 : Int)⟩ : SBound), (⟨(0 : Int), (0 : Int)⟩ : SBound), (⟨(0 : Int), (0 : Int)⟩ : SBound)⟩ : SFilter))
  else
   (if (a0.When == (9 : Int)) = true then
    r18_Is_J10 a0 (5 : Int)
   else
    r18_Is_J10 a0 (0 : Int))))
def r18_Is_C (a0 : STrigger) (r : Bool) : Prop := PCall Tryz.prog I0 79 [vA encSTrigger a0] (· = vB r)
theorem r18_Is_ok {a0 : STrigger} {r : Bool} (h : r18_Is a0 = some r) : r18_Is_C a0 r := by
 refine PCall.body I0_stable (by kernel_rfl) Tryz.func79 rfl Tryz.ntmps79 (rs := [.tmp 2]) rfl rfl ?_
 intro w0 av old gv
 unfold r18_Is at h
 refine Rg [.a, .a] (sl 50 [(1, vP [1] (0))] [bx [1] (encSTrigger a0)]) (aN) ?_
 refine Holds.seq ?_
 obtain ⟨r1, hr1, h⟩ := bS h
 obtain ⟨b2, hb2, h⟩ := bS h
 obtain ⟨b3, hb3, h⟩ := bS h
 obtain ⟨r4, hr4, h⟩ := bS h
 obtain ⟨b5, hb5, h⟩ := bS h
 refine Rg [.a, .a, (.c (vS r1)), .a, .a, .a, .a, .a, (.v (vB b2)), .a, .a, .a, .a, (.v (vB b3)), .a, .a, .a, (.c (vB r4)), .a, .a, .a, .a, .a, (.v (vB b5)), .a] (sl 50 [(1, vP [1] (0)), (28, vB (if b3 = true then true else b5))] [bx [1] (encSTrigger a0)]) (aC (r18_word_ok hr1) <| aG ((r1 == ([] : List UInt8)) == false) <| aG ((r1 == ([] : List UInt8)) == false) <| aF (r1 == ([] : List UInt8)) <| aB hb2 <| aG (b2 == false) <| aG (b2 == false) <| aF b2 <| aB hb3 <| aG (b3 == false) <| aC (c1 hr4 r18_hasWho_ok) <| aG (b3 == false) <| aG (b3 == false) <| aG ((b3 == false) && ((!r4) == true)) <| aG ((b3 == false) && ((!r4) == true)) <| aC (fun hg : (b3 == false) = true => aC (gi (b3 == false)) <| aC (fun q : (!r4) = true => (gA hg (gT q))) <| aB hb5 <| aN) <| aF b3 <| aN) ?_
 refine iB h (fun b6 h => ?_) (fun b6 h => ?_)
 · refine Rg [.a] (sl 50 [(2, vB false)] []) (aN) ?_
   refine Holds.ret ?_
   refine Tr ?_
   exact bQ (vB false) (congrArg vB (sI h))
 · refine Holds.skip ?_
   refine Tn ?_
   refine Holds.seq ?_
   obtain ⟨r7, hr7, h⟩ := bS h
   refine Rg [.a, .a, (.c (vB r7)), .a] (sl 50 [(1, vP [1] (0)), (32, vB (!r7))] [bx [1] (encSTrigger a0)]) (aC (r18_hasFilter_ok hr7) <| aN) ?_
   refine iB h (fun b8 h => ?_) (fun b8 h => ?_)
   · refine Rg [.a, .a, .a, (.v (vB (a0.Filter == (⟨(0 : Int), (0 : Int), (0 : Int), (0 : Int), (0 : Int), (0 : Int), (0 : Int), [], (0 : Int), (0 : Int), (⟨(0 : Int), (0 : Int)⟩ : SBound), (⟨(0 : Int), (0 : Int)⟩ : SBound), (⟨(0 : Int), (0 : Int)⟩ : SBound)⟩ : SFilter)))), .a] (sl 50 [(2, vB (a0.Filter == (⟨(0 : Int), (0 : Int), (0 : Int), (0 : Int), (0 : Int), (0 : Int), (0 : Int), [], (0 : Int), (0 : Int), (⟨(0 : Int), (0 : Int)⟩ : SBound), (⟨(0 : Int), (0 : Int)⟩ : SBound), (⟨(0 : Int), (0 : Int)⟩ : SBound)⟩ : SFilter)))] []) (aC (And.intro trivial okp94) <| aC (congrArg (fun z => V.c (.bool (z))) (eqT94 a0.Filter (⟨(0 : Int), (0 : Int), (0 : Int), (0 : Int), (0 : Int), (0 : Int), (0 : Int), [], (0 : Int), (0 : Int), (⟨(0 : Int), (0 : Int)⟩ : SBound), (⟨(0 : Int), (0 : Int)⟩ : SBound), (⟨(0 : Int), (0 : Int)⟩ : SBound)⟩ : SFilter))) <| aN) ?_
     refine Holds.ret ?_
     refine Tr ?_
     exact bQ (vB (a0.Filter == (⟨(0 : Int), (0 : Int), (0 : Int), (0 : Int), (0 : Int), (0 : Int), (0 : Int), [], (0 : Int), (0 : Int), (⟨(0 : Int), (0 : Int)⟩ : SBound), (⟨(0 : Int), (0 : Int)⟩ : SBound), (⟨(0 : Int), (0 : Int)⟩ : SBound)⟩ : SFilter))) (congrArg vB (sI h))
   · refine Holds.skip ?_
     refine Tn ?_
     refine Rg [.a] (sl 50 [(1, vP [1] (0)), (3, vI (0 : Int))] [bx [1] (encSTrigger a0)]) (aN) ?_
     refine Sj (X := Int) (fun v => (sl 50 [(1, vP [1] (0)), (3, vI v)] [bx [1] (encSTrigger a0)])) (fun v => r18_Is_J10 a0 v = some r) ?_ ?_
     · refine Rg [.a, .a, .a] (sl 50 [(1, vP [1] (0)), (3, vI (0 : Int)), (39, vB (a0.When == (9 : Int)))] [bx [1] (encSTrigger a0)]) (aN) ?_
       refine iB h (fun b13 h => ?_) (fun b13 h => ?_)
       · refine Re [.a] (sl 50 [(1, vP [1] (0)), (3, vI (5 : Int)), (39, vB (a0.When == (9 : Int)))] [bx [1] (encSTrigger a0)]) (aN) ?_
         refine Tn ⟨(5 : Int), h, wT⟩
       · refine Holds.skip ?_
         refine Tn ⟨(0 : Int), h, wT⟩
     · rintro zone_t3_9 hJ10
       replace hJ10 : r18_Is_J10 a0 zone_t3_9 = some r := hJ10
       unfold r18_Is_J10 at hJ10
       obtain ⟨r11, hr11, hJ10⟩ := bS hJ10
       obtain ⟨b12, hb12, hJ10⟩ := bS hJ10
       refine Rg [.a, .a, (.c (vB r11)), .a, .a, .a, .a, .a, .a, (.v (vB b12)), .a] (sl 50 [(2, vB b12)] []) (aC (r13_Is_ok hr11) <| aG (r11 == true) <| aG (r11 == true) <| aH (r11 == true) <| aT r11 <| aB hb12 <| aN) ?_
       refine Holds.ret ?_
       exact bQ (vB b12) (congrArg vB (sI hJ10))
/-- cardgame/cardgameref19.field -/
def r19_field (a0 : SFilter) : Option (Bool) :=
 (r13_Is a0).bind fun r1 =>
 (some (if r1 = true then a0.Zone == (0 : Int) else false)).bind fun b2 =>
 some b2
def r19_field_C (a0 : SFilter) (r : Bool) : Prop := PCall Tryz.prog I0 104 [vA encSFilter a0] (· = vB r)
theorem r19_field_ok {a0 : SFilter} {r : Bool} (h : r19_field a0 = some r) : r19_field_C a0 r := by
 refine PCall.body I0_stable (by kernel_rfl) Tryz.func104 rfl Tryz.ntmps104 (rs := [.tmp 2]) rfl rfl ?_
 intro w0 av old gv
 unfold r19_field at h
 refine Rg [.a, .a] (sl 10 [(1, vP [1] (0))] [bx [1] (encSFilter a0)]) (aN) ?_
 obtain ⟨r1, hr1, h⟩ := bS h
 obtain ⟨b2, hb2, h⟩ := bS h
 refine Rg [.a, (.c (vB r1)), .a, .a, .a, .a, (.v (vB b2)), .a] (sl 10 [(2, vB b2)] []) (aC (r13_Is_ok hr1) <| aG (r1 == true) <| aG (r1 == true) <| aT r1 <| aB hb2 <| aN) ?_
 refine Holds.ret ?_
 exact bQ (vB b2) (congrArg vB (sI h))
/-- cardgame/cardgameref20.spec -/
def r20_spec (a0 : SSpec) : Option (Bool) :=
 (if (!a0.Object) = true then
  (some (if a0.Player = true then a0.Filter == (⟨(0 : Int), (0 : Int), (0 : Int), (0 : Int), (0 : Int), (0 : Int), (0 : Int), [], (0 : Int), (0 : Int), (⟨(0 : Int), (0 : Int)⟩ : SBound), (⟨(0 : Int), (0 : Int)⟩ : SBound), (⟨(0 : Int), (0 : Int)⟩ : SBound)⟩ : SFilter) else false)).bind fun b2 =>
  some b2
 else
  (r13_Is a0.Filter).bind fun r3 =>
  (some (if (a0.Filter.Zone == (0 : Int)) = true then true else a0.Filter.Zone == (3 : Int))).bind fun b4 =>
  (some (if b4 = true then true else a0.Filter.Zone == (5 : Int))).bind fun b5 =>
  (some (if r3 = true then b5 else false)).bind fun b6 =>
  some b6)
def r20_spec_C (a0 : SSpec) (r : Bool) : Prop := PCall Tryz.prog I0 105 [vA encSSpec a0] (· = vB r)
theorem r20_spec_ok {a0 : SSpec} {r : Bool} (h : r20_spec a0 = some r) : r20_spec_C a0 r := by
 refine PCall.body I0_stable (by kernel_rfl) Tryz.func105 rfl Tryz.ntmps105 (rs := [.tmp 2]) rfl rfl ?_
 intro w0 av old gv
 unfold r20_spec at h
 refine Rg [.a, .a] (sl 33 [(1, vP [1] (0))] [bx [1] (encSSpec a0)]) (aN) ?_
 refine Holds.seq ?_
 refine Rg [.a, .a, .a] (sl 33 [(1, vP [1] (0)), (6, vB (!a0.Object))] [bx [1] (encSSpec a0)]) (aN) ?_
 refine iB h (fun b1 h => ?_) (fun b1 h => ?_)
 · obtain ⟨b2, hb2, h⟩ := bS h
   refine Rg [.a, .a, .a, .a, .a, .a, (.v (vB (a0.Filter == (⟨(0 : Int), (0 : Int), (0 : Int), (0 : Int), (0 : Int), (0 : Int), (0 : Int), [], (0 : Int), (0 : Int), (⟨(0 : Int), (0 : Int)⟩ : SBound), (⟨(0 : Int), (0 : Int)⟩ : SBound), (⟨(0 : Int), (0 : Int)⟩ : SBound)⟩ : SFilter)))), (.v (vB b2)), .a] (sl 33 [(2, vB b2)] []) (aG (a0.Player == true) <| aC (fun hg : (a0.Player == true) = true => aC (And.intro trivial okp94) <| aN) <| aC (fun hg : (a0.Player == true) = true => aC (gi (a0.Player == true)) <| aC (gi (a0.Player == true)) <| aC (congrArg (fun z => V.c (.bool (z))) (eqT94 a0.Filter (⟨(0 : Int), (0 : Int), (0 : Int), (0 : Int), (0 : Int), (0 : Int), (0 : Int), [], (0 : Int), (0 : Int), (⟨(0 : Int), (0 : Int)⟩ : SBound), (⟨(0 : Int), (0 : Int)⟩ : SBound), (⟨(0 : Int), (0 : Int)⟩ : SBound)⟩ : SFilter))) <| aN) <| aT a0.Player <| aB hb2 <| aN) ?_
   refine Holds.ret ?_
   refine Tr ?_
   exact bQ (vB b2) (congrArg vB (sI h))
 · refine Holds.skip ?_
   refine Tn ?_
   refine Rg [.a, .a, .a, .a] (sl 33 [(1, vP [1] (0)), (3, vI a0.Filter.Zone)] [bx [1] (encSSpec a0)]) (aN) ?_
   obtain ⟨r3, hr3, h⟩ := bS h
   obtain ⟨b4, hb4, h⟩ := bS h
   obtain ⟨b5, hb5, h⟩ := bS h
   obtain ⟨b6, hb6, h⟩ := bS h
   refine Rg [.a, .a, (.c (vB r3)), .a, .a, .a, .a, .a, .a, (.v (vB b4)), .a, .a, .a, (.v (vB b5)), (.v (vB b6)), .a] (sl 33 [(2, vB b6)] []) (aC (r13_Is_ok hr3) <| aG (r3 == true) <| aG (r3 == true) <| aG ((r3 == true) && ((a0.Filter.Zone == (0 : Int)) == false)) <| aC (fun hg : (r3 == true) = true => aC (gi (r3 == true)) <| aC (fun q : (a0.Filter.Zone == (0 : Int)) = false => (gA hg (gF q))) <| aB hb4 <| aN) <| aG (r3 == true) <| aG ((r3 == true) && (b4 == false)) <| aC (fun hg : (r3 == true) = true => aC (gi (r3 == true)) <| aC (fun q : b4 = false => (gA hg (gF q))) <| aB hb5 <| aN) <| aT r3 <| aB hb6 <| aN) ?_
   refine Holds.ret ?_
   exact bQ (vB b6) (congrArg vB (sI h))
def r16_Is_J5 (a0 : SRef) : Option (Bool) :=
 (if (a0.Kind == (4 : Int)) = true then
  (r13_Is a0.Filter).bind fun r7 =>
  some r7
 else
  some (a0.Filter == (⟨(0 : Int), (0 : Int), (0 : Int), (0 : Int), (0 : Int), (0 : Int), (0 : Int), [], (0 : Int), (0 : Int), (⟨(0 : Int), (0 : Int)⟩ : SBound), (⟨(0 : Int), (0 : Int)⟩ : SBound), (⟨(0 : Int), (0 : Int)⟩ : SBound)⟩ : SFilter)))
def r16_Is_J2 (a0 : SRef) (specs_t1_1 : Int) : Option (Bool) :=
 (some (if (decide (a0.Kind < (1 : Int))) = true then true else decide ((8 : Int) < a0.Kind))).bind fun b3 =>
 (if b3 = true then
  some false
 else
  (r16_numbered a0.Kind).bind fun r8 =>
  (if r8 = true then
   (some (if (decide (a0.N < (1 : Int))) = true then true else decide (specs_t1_1 < a0.N))).bind fun b10 =>
   (if b10 = true then
    some false
   else
    r16_Is_J5 a0)
  else
   (if (a0.N != (0 : Int)) = true then
    some false
   else
    r16_Is_J5 a0)))
/-- cardgame/cardgameref16.Is -/
def r16_Is (a0 : SRef) (a1 : Int) : Option (Bool) :=
 (if (decide ((4 : Int) < a1)) = true then
  r16_Is_J2 a0 (4 : Int)
 else
  r16_Is_J2 a0 a1)
def r16_Is_C (a0 : SRef) (a1 : Int) (r : Bool) : Prop := PCall Tryz.prog I0 122 [vA encSRef a0, vI a1] (· = vB r)
theorem r16_Is_ok {a0 : SRef} {a1 : Int} {r : Bool} (h : r16_Is a0 a1 = some r) : r16_Is_C a0 a1 r := by
 refine PCall.body I0_stable (by kernel_rfl) Tryz.func122 rfl Tryz.ntmps122 (rs := [.tmp 4]) rfl rfl ?_
 intro w0 av old gv
 unfold r16_Is at h
 refine Rg [.a, .a] (sl 40 [(1, vI a1), (2, vP [2] (0))] [bx [2] (encSRef a0)]) (aN) ?_
 refine Sj (X := Int) (fun v => (sl 40 [(1, vI v), (2, vP [2] (0))] [bx [2] (encSRef a0)])) (fun v => r16_Is_J2 a0 v = some r) ?_ ?_
 · refine Rg [.a, .a] (sl 40 [(1, vI a1), (2, vP [2] (0)), (6, vB (decide ((4 : Int) < a1)))] [bx [2] (encSRef a0)]) (aN) ?_
   refine iB h (fun b13 h => ?_) (fun b13 h => ?_)
   · refine Re [.a] (sl 40 [(1, vI (4 : Int)), (2, vP [2] (0)), (6, vB (decide ((4 : Int) < a1)))] [bx [2] (encSRef a0)]) (aN) ?_
     refine Tn ⟨(4 : Int), h, wT⟩
   · refine Holds.skip ?_
     refine Tn ⟨a1, h, wT⟩
 · rintro specs_t1_1 hJ2
   replace hJ2 : r16_Is_J2 a0 specs_t1_1 = some r := hJ2
   unfold r16_Is_J2 at hJ2
   refine Holds.seq ?_
   obtain ⟨b3, hb3, hJ2⟩ := bS hJ2
   refine Rg [.a, .a, .a, .a, .a, .a, .a, (.v (vB b3))] (sl 40 [(1, vI specs_t1_1), (2, vP [2] (0)), (14, vB b3)] [bx [2] (encSRef a0)]) (aG ((decide (a0.Kind < (1 : Int))) == false) <| aG ((decide (a0.Kind < (1 : Int))) == false) <| aF (decide (a0.Kind < (1 : Int))) <| aB hb3 <| aN) ?_
   refine iB hJ2 (fun b4 hJ2 => ?_) (fun b4 hJ2 => ?_)
   · refine Rg [.a] (sl 40 [(4, vB false)] []) (aN) ?_
     refine Holds.ret ?_
     refine Tr ?_
     exact bQ (vB false) (congrArg vB (sI hJ2))
   · refine Holds.skip ?_
     refine Tn ?_
     refine Sj (X := Unit) (fun v => (sl 40 [(2, vP [2] (0))] [bx [2] (encSRef a0)])) (fun v => r16_Is_J5 a0 = some r) ?_ ?_
     · obtain ⟨r8, hr8, hJ2⟩ := bS hJ2
       refine Rg [.a, .a, (.c (vB r8))] (sl 40 [(1, vI specs_t1_1), (2, vP [2] (0)), (17, vB r8)] [bx [2] (encSRef a0)]) (aC (r16_numbered_ok hr8) <| aN) ?_
       refine iB hJ2 (fun b9 hJ2 => ?_) (fun b9 hJ2 => ?_)
       · obtain ⟨b10, hb10, hJ2⟩ := bS hJ2
         refine Rg [.a, .a, .a, .a, .a, .a, .a, .a, (.v (vB b10))] (sl 40 [(2, vP [2] (0)), (26, vB b10)] [bx [2] (encSRef a0)]) (aG ((decide (a0.N < (1 : Int))) == false) <| aH ((decide (a0.N < (1 : Int))) == false) <| aF (decide (a0.N < (1 : Int))) <| aB hb10 <| aN) ?_
         refine iB hJ2 (fun b11 hJ2 => ?_) (fun b11 hJ2 => ?_)
         · refine Rg [.a] (sl 40 [(4, vB false)] []) (aN) ?_
           refine Holds.ret ?_
           refine Tr ?_
           exact bQ (vB false) (congrArg vB (sI hJ2))
         · refine Holds.skip ?_
           refine Tn ⟨(), hJ2, wT⟩
       · refine Rg [.a, .a, .a] (sl 40 [(2, vP [2] (0)), (29, vB (a0.N != (0 : Int)))] [bx [2] (encSRef a0)]) (aN) ?_
         refine iB hJ2 (fun b12 hJ2 => ?_) (fun b12 hJ2 => ?_)
         · refine Rg [.a] (sl 40 [(4, vB false)] []) (aN) ?_
           refine Holds.ret ?_
           refine Tr ?_
           exact bQ (vB false) (congrArg vB (sI hJ2))
         · refine Holds.skip ?_
           refine Tn ⟨(), hJ2, wT⟩
     · rintro _ hJ5
       replace hJ5 : r16_Is_J5 a0 = some r := hJ5
       unfold r16_Is_J5 at hJ5
       refine Holds.seq ?_
       refine Rg [.a, .a, .a] (sl 40 [(2, vP [2] (0)), (32, vB (a0.Kind == (4 : Int)))] [bx [2] (encSRef a0)]) (aN) ?_
       refine iB hJ5 (fun b6 hJ5 => ?_) (fun b6 hJ5 => ?_)
       · obtain ⟨r7, hr7, hJ5⟩ := bS hJ5
         refine Rg [.a, .a, (.c (vB r7)), .a] (sl 40 [(4, vB r7)] []) (aC (r13_Is_ok hr7) <| aN) ?_
         refine Holds.ret ?_
         refine Tr ?_
         exact bQ (vB r7) (congrArg vB (sI hJ5))
       · refine Holds.skip ?_
         refine Tn ?_
         refine Rg [.a, .a, .a, (.v (vB (a0.Filter == (⟨(0 : Int), (0 : Int), (0 : Int), (0 : Int), (0 : Int), (0 : Int), (0 : Int), [], (0 : Int), (0 : Int), (⟨(0 : Int), (0 : Int)⟩ : SBound), (⟨(0 : Int), (0 : Int)⟩ : SBound), (⟨(0 : Int), (0 : Int)⟩ : SBound)⟩ : SFilter)))), .a] (sl 40 [(4, vB (a0.Filter == (⟨(0 : Int), (0 : Int), (0 : Int), (0 : Int), (0 : Int), (0 : Int), (0 : Int), [], (0 : Int), (0 : Int), (⟨(0 : Int), (0 : Int)⟩ : SBound), (⟨(0 : Int), (0 : Int)⟩ : SBound), (⟨(0 : Int), (0 : Int)⟩ : SBound)⟩ : SFilter)))] []) (aC (And.intro trivial okp94) <| aC (congrArg (fun z => V.c (.bool (z))) (eqT94 a0.Filter (⟨(0 : Int), (0 : Int), (0 : Int), (0 : Int), (0 : Int), (0 : Int), (0 : Int), [], (0 : Int), (0 : Int), (⟨(0 : Int), (0 : Int)⟩ : SBound), (⟨(0 : Int), (0 : Int)⟩ : SBound), (⟨(0 : Int), (0 : Int)⟩ : SBound)⟩ : SFilter))) <| aN) ?_
         refine Holds.ret ?_
         exact bQ (vB (a0.Filter == (⟨(0 : Int), (0 : Int), (0 : Int), (0 : Int), (0 : Int), (0 : Int), (0 : Int), [], (0 : Int), (0 : Int), (⟨(0 : Int), (0 : Int)⟩ : SBound), (⟨(0 : Int), (0 : Int)⟩ : SBound), (⟨(0 : Int), (0 : Int)⟩ : SBound)⟩ : SFilter))) (congrArg vB (sI hJ5))
def r17_filter_J2 (a1 : SFilter) (zone_t5_1 : Int) : Option (Bool) :=
 (r13_Is a1).bind fun r3 =>
 (some (if r3 = true then a1.Zone == zone_t5_1 else false)).bind fun b4 =>
 some b4
/-- cardgame/cardgameref17.filter -/
def r17_filter (a0 : Int) (a1 : SFilter) : Option (Bool) :=
 (if (a0 == (21 : Int)) = true then
  r17_filter_J2 a1 (2 : Int)
 else
  r17_filter_J2 a1 (0 : Int))
def r17_filter_C (a0 : Int) (a1 : SFilter) (r : Bool) : Prop := PCall Tryz.prog I0 127 [vI a0, vA encSFilter a1] (· = vB r)
theorem r17_filter_ok {a0 : Int} {a1 : SFilter} {r : Bool} (h : r17_filter a0 a1 = some r) : r17_filter_C a0 a1 r := by
 refine PCall.body I0_stable (by kernel_rfl) Tryz.func127 rfl Tryz.ntmps127 (rs := [.tmp 4]) rfl rfl ?_
 intro w0 av old gv
 unfold r17_filter at h
 refine Rg [.a, .a] (sl 16 [(0, vI a0), (3, vP [3] (0))] [bx [3] (encSFilter a1)]) (aN) ?_
 refine Rg [.a] (sl 16 [(0, vI a0), (3, vP [3] (0)), (5, vI (0 : Int))] [bx [3] (encSFilter a1)]) (aN) ?_
 refine Sj (X := Int) (fun v => (sl 16 [(3, vP [3] (0)), (5, vI v)] [bx [3] (encSFilter a1)])) (fun v => r17_filter_J2 a1 v = some r) ?_ ?_
 · refine Rg [.a, .a] (sl 16 [(3, vP [3] (0)), (5, vI (0 : Int)), (7, vB (a0 == (21 : Int)))] [bx [3] (encSFilter a1)]) (aN) ?_
   refine iB h (fun b5 h => ?_) (fun b5 h => ?_)
   · refine Re [.a] (sl 16 [(3, vP [3] (0)), (5, vI (2 : Int)), (7, vB (a0 == (21 : Int)))] [bx [3] (encSFilter a1)]) (aN) ?_
     refine Tn ⟨(2 : Int), h, wT⟩
   · refine Holds.skip ?_
     refine Tn ⟨(0 : Int), h, wT⟩
 · rintro zone_t5_1 hJ2
   replace hJ2 : r17_filter_J2 a1 zone_t5_1 = some r := hJ2
   unfold r17_filter_J2 at hJ2
   obtain ⟨r3, hr3, hJ2⟩ := bS hJ2
   obtain ⟨b4, hb4, hJ2⟩ := bS hJ2
   refine Rg [.a, (.c (vB r3)), .a, .a, .a, .a, .a, (.v (vB b4)), .a] (sl 16 [(4, vB b4)] []) (aC (r13_Is_ok hr3) <| aG (r3 == true) <| aH (r3 == true) <| aT r3 <| aB hb4 <| aN) ?_
   refine Holds.ret ?_
   exact bQ (vB b4) (congrArg vB (sI hJ2))
end Go.PL
