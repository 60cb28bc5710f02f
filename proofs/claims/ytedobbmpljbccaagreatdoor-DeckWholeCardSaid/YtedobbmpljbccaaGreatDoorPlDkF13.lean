/- Functions of the program, as partial functions in Lean, with proofs. -/
import Derived.Test.YtedobbmpljbccaaGreatDoorPlDkB
import Derived.Test.YtedobbmpljbccaaGreatDoorPlDkF0
import Derived.Test.YtedobbmpljbccaaGreatDoorPlDkF12
import Derived.Test.YtedobbmpljbccaaGreatDoorPlDkF2
import Derived.Test.YtedobbmpljbccaaGreatDoorPlDkF4
namespace Go.PL
open Go Go.RowKit Go.Proofs
set_option maxRecDepth 100000
set_option linter.all false
set_option maxHeartbeats 1000000
attribute [local irreducible] Holds thenQ blockQ
def r21_Is_J21 (a0 : SCard) (vt3_20 : Int) : Option (Bool) :=
 (r21_fast a0).bind fun r22 =>
 (if r22 = true then
  (some (if (!a0.Token) = true then a0.Keys == (0 : Int) else false)).bind fun b24 =>
  (some (if b24 = true then (a0.Abilities.length : Int) == (1 : Int) else false)).bind fun b25 =>
  (some (if b25 = true then vt3_20 == (1 : Int) else false)).bind fun b26 =>
  some b26
 else
  (some (if (!a0.Token) = true then (bAnd .i64 a0.Line.Types (32 : Int)) == (0 : Int) else false)).bind fun b27 =>
  (some (if b27 = true then true else a0.Cost == (⟨(0 : Int), (0 : Int), (⟨(0 : Int), (0 : Int), (0 : Int), (0 : Int), (0 : Int)⟩ : A5 (Int))⟩ : SCost))).bind fun b28 =>
  (some (if (vt3_20 == (0 : Int)) = true then b28 else false)).bind fun b29 =>
  some b29)
def r21_Is_J38 (vt4_33 : Int) (vt3_37 : Int) : Option ((Int × Int) ⊕ (Unit ⊕ Int)) :=
 some (.inl (vt3_37, (wrap64 (vt4_33 + (1 : Int)))))
def r21_Is_B35 (a0 : SCard) (vt3_32 : Int) (vt4_33 : Int) : Option ((Int × Int) ⊕ (Unit ⊕ Int)) :=
 (if (decide (vt4_33 < (a0.Abilities.length : Int))) = true then
  (idx a0.Abilities vt4_33).bind fun e39 =>
  (r20_Is e39).bind fun r40 =>
  (if (!r40) = true then
   some (.inr (.inl ()))
  else
   (idx a0.Abilities vt4_33).bind fun e42 =>
   (if (e42.Kind == (2 : Int)) = true then
    r21_Is_J38 vt4_33 (wrap64 (vt3_32 + (1 : Int)))
   else
    r21_Is_J38 vt4_33 vt3_32))
 else
  some (.inr (.inr vt3_32)))
/-- cardgame/cardgameref21.Is -/
def r21_Is (a0 : SCard) : Option (Bool) :=
 (r02_Is a0.Name).bind fun r1 =>
 (gd ((!r1) == false) (r08_Is a0.Cost)).bind fun r2 =>
 (some (if (!r1) = true then true else !r2)).bind fun b3 =>
 (gd (b3 == false) (r10_Is a0.Line)).bind fun r4 =>
 (some (if b3 = true then true else !r4)).bind fun b5 =>
 (gd (b5 == false) (r11_Is a0.Keys)).bind fun r6 =>
 (some (if b5 = true then true else !r6)).bind fun b7 =>
 (some (if b7 = true then true else decide (a0.Color < (0 : Int)))).bind fun b8 =>
 (some (if b8 = true then true else decide ((31 : Int) < a0.Color))).bind fun b9 =>
 (if b9 = true then
  some false
 else
  (some (if (decide (a0.Power < (0 : Int))) = true then true else decide ((99 : Int) < a0.Power))).bind fun b11 =>
  (some (if b11 = true then true else decide (a0.Tough < (0 : Int)))).bind fun b12 =>
  (some (if b12 = true then true else decide ((99 : Int) < a0.Tough))).bind fun b13 =>
  (gd (b13 == false) (r21_creature a0)).bind fun r14 =>
  (some (if (a0.Power != (0 : Int)) = true then true else a0.Tough != (0 : Int))).bind fun b15 =>
  (some (if (!r14) = true then b15 else false)).bind fun b16 =>
  (some (if b13 = true then true else b16)).bind fun b17 =>
  (some (if b17 = true then true else decide ((8 : Int) < (a0.Abilities.length : Int)))).bind fun b18 =>
  (if b18 = true then
   some false
  else
   (iter (fun (v : Int × Int) => r21_Is_B35 a0 v.1 v.2) FU ((0 : Int), (0 : Int))).bind (Sum.elim (fun o0 => some false) (fun o1 => r21_Is_J21 a0 o1))))
def r21_Is_C (a0 : SCard) (r : Bool) : Prop := PCall Tryz.prog I0 46 [vA encSCard a0] (· = vB r)
theorem r21_Is_ok {a0 : SCard} {r : Bool} (h : r21_Is a0 = some r) : r21_Is_C a0 r := by
 refine PCall.body I0_stable (by kernel_rfl) Tryz.func46 rfl Tryz.ntmps46 (rs := [.tmp 2]) rfl rfl ?_
 intro w0 av old gv
 unfold r21_Is at h
 refine Rg [.a, .a] (sl 139 [(1, vP [1] (0))] [bx [1] (encSCard a0)]) (aN) ?_
 refine Holds.seq ?_
 obtain ⟨r1, hr1, h⟩ := bS h
 obtain ⟨r2, hr2, h⟩ := bS h
 obtain ⟨b3, hb3, h⟩ := bS h
 obtain ⟨r4, hr4, h⟩ := bS h
 obtain ⟨b5, hb5, h⟩ := bS h
 obtain ⟨r6, hr6, h⟩ := bS h
 obtain ⟨b7, hb7, h⟩ := bS h
 obtain ⟨b8, hb8, h⟩ := bS h
 obtain ⟨b9, hb9, h⟩ := bS h
 refine Rg [.a, .a, (.c (vB r1)), .a, .a, .a, .a, (.c (vB r2)), .a, (.v (vB b3)), .a, .a, .a, (.c (vB r4)), .a, (.v (vB b5)), .a, .a, .a, (.c (vB r6)), .a, (.v (vB b7)), .a, .a, .a, .a, (.v (vB b8)), .a, .a, .a, .a, (.v (vB b9))] (sl 139 [(1, vP [1] (0)), (36, vB b9)] [bx [1] (encSCard a0)]) (aC (r02_Is_ok hr1) <| aG ((!r1) == false) <| aC (c1 hr2 r08_Is_ok) <| aG ((!r1) == false) <| aF (!r1) <| aB hb3 <| aG (b3 == false) <| aC (c1 hr4 r10_Is_ok) <| aG (b3 == false) <| aF b3 <| aB hb5 <| aG (b5 == false) <| aC (c1 hr6 r11_Is_ok) <| aG (b5 == false) <| aF b5 <| aB hb7 <| aG (b7 == false) <| aG (b7 == false) <| aF b7 <| aB hb8 <| aG (b8 == false) <| aG (b8 == false) <| aF b8 <| aB hb9 <| aN) ?_
 refine iB h (fun b10 h => ?_) (fun b10 h => ?_)
 · refine Rg [.a] (sl 139 [(2, vB false)] []) (aN) ?_
   refine Holds.ret ?_
   refine Tr ?_
   exact bQ (vB false) (congrArg vB (sI h))
 · refine Holds.skip ?_
   refine Tn ?_
   refine Holds.seq ?_
   obtain ⟨b11, hb11, h⟩ := bS h
   obtain ⟨b12, hb12, h⟩ := bS h
   obtain ⟨b13, hb13, h⟩ := bS h
   obtain ⟨r14, hr14, h⟩ := bS h
   obtain ⟨b15, hb15, h⟩ := bS h
   obtain ⟨b16, hb16, h⟩ := bS h
   obtain ⟨b17, hb17, h⟩ := bS h
   obtain ⟨b18, hb18, h⟩ := bS h
   refine Rg [.a, .a, .a, .a, .a, .a, .a, (.v (vB b11)), .a, .a, .a, .a, (.v (vB b12)), .a, .a, .a, .a, (.v (vB b13)), .a, .a, (.c (vB r14)), .a, .a, .a, .a, .a, .a, .a, .a, .a, (.v (vB b15)), (.v (vB b16)), (.v (vB b17)), .a, .a, .a, .a, .a, (.v (vB b18))] (sl 139 [(1, vP [1] (0)), (75, vB b18)] [bx [1] (encSCard a0)]) (aG ((decide (a0.Power < (0 : Int))) == false) <| aG ((decide (a0.Power < (0 : Int))) == false) <| aF (decide (a0.Power < (0 : Int))) <| aB hb11 <| aG (b11 == false) <| aG (b11 == false) <| aF b11 <| aB hb12 <| aG (b12 == false) <| aG (b12 == false) <| aF b12 <| aB hb13 <| aC (c1 hr14 r21_creature_ok) <| aG (b13 == false) <| aG (b13 == false) <| aG ((b13 == false) && ((!r14) == true)) <| aG ((b13 == false) && ((!r14) == true)) <| aG ((b13 == false) && ((!r14) == true)) <| aG (((b13 == false) && ((!r14) == true)) && ((a0.Power != (0 : Int)) == false)) <| aG (((b13 == false) && ((!r14) == true)) && ((a0.Power != (0 : Int)) == false)) <| aC (fun hg : ((b13 == false) && ((!r14) == true)) = true => aC (gi ((b13 == false) && ((!r14) == true))) <| aC (fun q : (a0.Power != (0 : Int)) = false => (gA hg (gF q))) <| aB hb15 <| aN) <| aC (fun hg : (b13 == false) = true => aC (gi (b13 == false)) <| aC (fun q : (!r14) = true => (gA hg (gT q))) <| aB hb16 <| aN) <| aF b13 <| aB hb17 <| aG (b17 == false) <| aG (b17 == false) <| aG (b17 == false) <| aF b17 <| aB hb18 <| aN) ?_
   refine iB h (fun b19 h => ?_) (fun b19 h => ?_)
   · refine Rg [.a] (sl 139 [(2, vB false)] []) (aN) ?_
     refine Holds.ret ?_
     refine Tr ?_
     exact bQ (vB false) (congrArg vB (sI h))
   · refine Holds.skip ?_
     refine Tn ?_
     refine Rg [.a] (sl 139 [(1, vP [1] (0)), (3, vI (0 : Int))] [bx [1] (encSCard a0)]) (aN) ?_
     refine Sj (X := Int) (fun v => (sl 139 [(1, vP [1] (0)), (3, vI v)] [bx [1] (encSCard a0)])) (fun v => r21_Is_J21 a0 v = some r) ?_ ?_
     · refine Rg [.a] (sl 139 [(1, vP [1] (0)), (3, vI (0 : Int)), (4, vI (0 : Int))] [bx [1] (encSCard a0)]) (aN) ?_
       refine Holds.block ?_
       obtain ⟨oB35, hiB35, h⟩ := bS h
       refine It (fun (v : Int × Int) => (sl 139 [(1, vP [1] (0)), (3, vI v.1), (4, vI v.2)] [bx [1] (encSCard a0)])) hiB35 (wT) ?_
       rintro ⟨vt3_32, vt4_33⟩ zB35 hzB35 hoB35
       replace hzB35 : r21_Is_B35 a0 vt3_32 vt4_33 = some zB35 := hzB35
       unfold r21_Is_B35 at hzB35
       refine Holds.seq ?_
       refine Rg [.a, .a, .a, .a, .a] (sl 139 [(1, vP [1] (0)), (3, vI vt3_32), (4, vI vt4_33), (80, vB (decide (vt4_33 < (a0.Abilities.length : Int))))] [bx [1] (encSCard a0)]) (aN) ?_
       refine iB hzB35 (fun b36 hzB35 => ?_) (fun b36 hzB35 => ?_)
       · refine Holds.skip ?_
         refine Tn ?_
         refine Sj (X := Int) (fun v => (sl 139 [(1, vP [1] (0)), (3, vI v), (4, vI vt4_33)] [bx [1] (encSCard a0)])) (fun v => r21_Is_J38 vt4_33 v = some zB35) ?_ ?_
         · refine Holds.block ?_
           refine Holds.seq ?_
           obtain ⟨e39, he39, hzB35⟩ := bS hzB35
           obtain ⟨r40, hr40, hzB35⟩ := bS hzB35
           refine Rg [.a, .a, .a, .a, (.v (vA encSAbility e39)), (.c (vB r40)), .a] (sl 139 [(1, vP [1] (0)), (3, vI vt3_32), (4, vI vt4_33), (89, vB (!r40))] [bx [1] (encSCard a0)]) (aC (idx_b he39) <| aC (eld he39 lenSAbility 0 72 true (vA encSAbility e39)) <| aC (Eq.refl (vA encSAbility e39)) <| aC (r20_Is_ok hr40) <| aN) ?_
           refine iB hzB35 (fun b41 hzB35 => ?_) (fun b41 hzB35 => ?_)
           · refine Rg [.a] (sl 139 [(2, vB false)] []) (aN) ?_
             refine Holds.ret ?_
             refine Tr ?_
             refine blockQ.ret ?_
             refine Tr ?_
             have hoB35_ := hoB35 _ (sI hzB35).symm
             subst hoB35_
             replace h := sumL h
             refine Tr ?_
             refine blockQ.ret ?_
             refine Tr ?_
             exact bQ (vB false) (congrArg vB (sI h))
           · refine Holds.skip ?_
             refine Tn ?_
             obtain ⟨e42, he42, hzB35⟩ := bS hzB35
             refine Rg [.a, .a, .a, .a, .a, (.v (vI e42.Kind)), .a] (sl 139 [(1, vP [1] (0)), (3, vI vt3_32), (4, vI vt4_33), (96, vB (e42.Kind == (2 : Int)))] [bx [1] (encSCard a0)]) (aC (idx_b he42) <| aC (eld he42 lenSAbility 0 1 false (vI e42.Kind)) <| aC (Eq.refl (vI e42.Kind)) <| aN) ?_
             refine iB hzB35 (fun b43 hzB35 => ?_) (fun b43 hzB35 => ?_)
             · refine Re [.a, .a, .a] (sl 139 [(1, vP [1] (0)), (3, vI (wrap64 (vt3_32 + (1 : Int)))), (4, vI vt4_33), (96, vB (e42.Kind == (2 : Int))), (97, vI vt3_32), (98, vI (wrap64 (vt3_32 + (1 : Int))))] [bx [1] (encSCard a0)]) (aN) ?_
               refine blockQ.normal ?_
               refine Tn ⟨(wrap64 (vt3_32 + (1 : Int))), hzB35, wT⟩
             · refine Holds.skip ?_
               refine blockQ.normal ?_
               refine Tn ⟨vt3_32, hzB35, wT⟩
         · rintro vt3_37 hJ38
           replace hJ38 : r21_Is_J38 vt4_33 vt3_37 = some zB35 := hJ38
           unfold r21_Is_J38 at hJ38
           refine Re [.a, .a, .a] (sl 139 [(1, vP [1] (0)), (3, vI vt3_37), (4, vI (wrap64 (vt4_33 + (1 : Int)))), (81, vI vt4_33), (82, vI (wrap64 (vt4_33 + (1 : Int))))] [bx [1] (encSCard a0)]) (aN) ?_
           refine Tn ⟨(vt3_37, (wrap64 (vt4_33 + (1 : Int)))), (sI hJ38).symm, wT⟩
       · refine Holds.exit ?_
         refine thenQ.exit ?_
         have hoB35_ := hoB35 _ (sI hzB35).symm
         subst hoB35_
         replace h := sumR h
         refine thenQ.exit ?_
         refine blockQ.out ?_
         refine Tn ⟨vt3_32, h, wT⟩
     · rintro vt3_20 hJ21
       replace hJ21 : r21_Is_J21 a0 vt3_20 = some r := hJ21
       unfold r21_Is_J21 at hJ21
       refine Holds.seq ?_
       obtain ⟨r22, hr22, hJ21⟩ := bS hJ21
       refine Rg [.a, (.c (vB r22))] (sl 139 [(1, vP [1] (0)), (3, vI vt3_20), (100, vB r22)] [bx [1] (encSCard a0)]) (aC (r21_fast_ok hr22) <| aN) ?_
       refine iB hJ21 (fun b23 hJ21 => ?_) (fun b23 hJ21 => ?_)
       · obtain ⟨b24, hb24, hJ21⟩ := bS hJ21
         obtain ⟨b25, hb25, hJ21⟩ := bS hJ21
         obtain ⟨b26, hb26, hJ21⟩ := bS hJ21
         refine Rg [.a, .a, .a, .a, .a, .a, .a, (.v (vB b24)), .a, .a, .a, .a, .a, (.v (vB b25)), .a, .a, .a, (.v (vB b26)), .a] (sl 139 [(2, vB b26)] []) (aG ((!a0.Token) == true) <| aG ((!a0.Token) == true) <| aT (!a0.Token) <| aB hb24 <| aG (b24 == true) <| aG (b24 == true) <| aG (b24 == true) <| aT b24 <| aB hb25 <| aG (b25 == true) <| aT b25 <| aB hb26 <| aN) ?_
         refine Holds.ret ?_
         refine Tr ?_
         exact bQ (vB b26) (congrArg vB (sI hJ21))
       · refine Holds.skip ?_
         refine Tn ?_
         obtain ⟨b27, hb27, hJ21⟩ := bS hJ21
         obtain ⟨b28, hb28, hJ21⟩ := bS hJ21
         obtain ⟨b29, hb29, hJ21⟩ := bS hJ21
         refine Rg [.a, .a, .a, .a, .a, .a, .a, .a, .a, .a, .a, .a, (.v (vB b27)), .a, .a, .a, .a, (.v (vB (a0.Cost == (⟨(0 : Int), (0 : Int), (⟨(0 : Int), (0 : Int), (0 : Int), (0 : Int), (0 : Int)⟩ : A5 (Int))⟩ : SCost)))), (.v (vB b28)), (.v (vB b29)), .a] (sl 139 [(2, vB b29)] []) (aG ((vt3_20 == (0 : Int)) == true) <| aG ((vt3_20 == (0 : Int)) == true) <| aG ((vt3_20 == (0 : Int)) == true) <| aG (((vt3_20 == (0 : Int)) == true) && ((!a0.Token) == true)) <| aG (((vt3_20 == (0 : Int)) == true) && ((!a0.Token) == true)) <| aG (((vt3_20 == (0 : Int)) == true) && ((!a0.Token) == true)) <| aG (((vt3_20 == (0 : Int)) == true) && ((!a0.Token) == true)) <| aC (fun hg : ((vt3_20 == (0 : Int)) == true) = true => aC (gi ((vt3_20 == (0 : Int)) == true)) <| aC (fun q : (!a0.Token) = true => (gA hg (gT q))) <| aB hb27 <| aN) <| aG ((vt3_20 == (0 : Int)) == true) <| aG (((vt3_20 == (0 : Int)) == true) && (b27 == false)) <| aC (fun hg : (((vt3_20 == (0 : Int)) == true) && (b27 == false)) = true => aC (And.intro trivial okp46) <| aN) <| aC (fun hg : (((vt3_20 == (0 : Int)) == true) && (b27 == false)) = true => aC (gi (((vt3_20 == (0 : Int)) == true) && (b27 == false))) <| aC (gi (((vt3_20 == (0 : Int)) == true) && (b27 == false))) <| aC (congrArg (fun z => V.c (.bool (z))) (eqT46 a0.Cost (⟨(0 : Int), (0 : Int), (⟨(0 : Int), (0 : Int), (0 : Int), (0 : Int), (0 : Int)⟩ : A5 (Int))⟩ : SCost))) <| aN) <| aC (fun hg : ((vt3_20 == (0 : Int)) == true) = true => aC (gi ((vt3_20 == (0 : Int)) == true)) <| aC (fun q : b27 = false => (gA hg (gF q))) <| aB hb28 <| aN) <| aT (vt3_20 == (0 : Int)) <| aB hb29 <| aN) ?_
         refine Holds.ret ?_
         exact bQ (vB b29) (congrArg vB (sI hJ21))
end Go.PL
