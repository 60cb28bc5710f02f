/- Functions of the program, as partial functions in Lean, with proofs. -/
import Derived.Test.YtedobbmpljbccaaGreatDoorPlDkB
import Derived.Test.YtedobbmpljbccaaGreatDoorPlDkF2
import Derived.Test.YtedobbmpljbccaaGreatDoorPlDkF3
import Derived.Test.YtedobbmpljbccaaGreatDoorPlDkF5
namespace Go.PL
open Go Go.RowKit Go.Proofs
set_option maxRecDepth 100000
set_option linter.all false
set_option maxHeartbeats 1000000
attribute [local irreducible] Holds thenQ blockQ
/-- cardgame/cardgameref15.Text -/
def r15_Text (a0 : SMod) : Option ((List UInt8)) :=
 (r15_Is a0).bind fun r1 =>
 (if (!r1) = true then
  some ([] : List UInt8)
 else
  (if (a0.Kind == (1 : Int)) = true then
   some str_control
  else
   (if (a0.Kind == (2 : Int)) = true then
    (r10_TypesText a0.N).bind fun r5 =>
    (cat str_types_ r5).bind fun s6 =>
    some s6
   else
    (if (a0.Kind == (3 : Int)) = true then
     (r10_TypesText a0.N).bind fun r8 =>
     (cat str_types__ r8).bind fun s9 =>
     some s9
    else
     (if (a0.Kind == (4 : Int)) = true then
      (cat str_sub_ a0.Sub).bind fun s11 =>
      some s11
     else
      (if (a0.Kind == (5 : Int)) = true then
       (cat str_sub__ a0.Sub).bind fun s13 =>
       some s13
      else
       (if (a0.Kind == (6 : Int)) = true then
        (r09_Text a0.N).bind fun r15 =>
        (cat str_colors_ r15).bind fun s16 =>
        some s16
       else
        (if (a0.Kind == (7 : Int)) = true then
         (r09_Text a0.N).bind fun r18 =>
         (cat str_colors__ r18).bind fun s19 =>
         some s19
        else
         (if (a0.Kind == (8 : Int)) = true then
          (r11_Text a0.N).bind fun r21 =>
          (cat str_keys__ r21).bind fun s22 =>
          some s22
         else
          (if (a0.Kind == (9 : Int)) = true then
           (r11_Text a0.N).bind fun r24 =>
           (cat str_x6b6579732d3d r24).bind fun s25 =>
           some s25
          else
           (if (a0.Kind == (10 : Int)) = true then
            some str_blank
           else
            (if (a0.Kind == (11 : Int)) = true then
             (r13_Text a0.Filter).bind fun r28 =>
             (cat str_pt_count_ r28).bind fun s29 =>
             (cat s29 str_x29).bind fun s30 =>
             some s30
            else
             (if (a0.Kind == (12 : Int)) = true then
              (r01_Text a0.N).bind fun r32 =>
              (cat str_pt_ r32).bind fun s33 =>
              (cat s33 str_x2f).bind fun s34 =>
              (r01_Text a0.M).bind fun r35 =>
              (cat s34 r35).bind fun s36 =>
              some s36
             else
              (if (a0.Kind == (13 : Int)) = true then
               (r01_Text a0.N).bind fun r38 =>
               (cat str_pt__ r38).bind fun s39 =>
               (cat s39 str_x2f).bind fun s40 =>
               (r01_Text a0.M).bind fun r41 =>
               (cat s40 r41).bind fun s42 =>
               some s42
              else
               some str_pt_switch))))))))))))))
def r15_Text_C (a0 : SMod) (r : (List UInt8)) : Prop := PCall Tryz.prog I0 98 [vA encSMod a0] (· = vS r)
theorem r15_Text_ok {a0 : SMod} {r : (List UInt8)} (h : r15_Text a0 = some r) : r15_Text_C a0 r := by
 refine PCall.body I0_stable (by kernel_rfl) Tryz.func98 rfl Tryz.ntmps98 (rs := [.tmp 2]) rfl rfl ?_
 intro w0 av old gv
 unfold r15_Text at h
 refine Rg [.a, .a] (sl 87 [(1, vP [1] (0))] [bx [1] (encSMod a0)]) (aN) ?_
 refine Holds.seq ?_
 obtain ⟨r1, hr1, h⟩ := bS h
 refine Rg [.a, (.c (vB r1)), .a] (sl 87 [(1, vP [1] (0)), (5, vB (!r1))] [bx [1] (encSMod a0)]) (aC (r15_Is_ok hr1) <| aN) ?_
 refine iB h (fun b2 h => ?_) (fun b2 h => ?_)
 · refine Rg [.a] (sl 87 [(2, vS ([] : List UInt8))] []) (aN) ?_
   refine Holds.ret ?_
   refine Tr ?_
   exact bQ (vS ([] : List UInt8)) (congrArg vS (sI h))
 · refine Holds.skip ?_
   refine Tn ?_
   refine Holds.seq ?_
   refine Rg [.a, .a] (sl 87 [(1, vP [1] (0)), (7, vI a0.Kind)] [bx [1] (encSMod a0)]) (aN) ?_
   refine Holds.block ?_
   refine Rg [.a, .a] (sl 87 [(1, vP [1] (0)), (7, vI a0.Kind), (8, vB (a0.Kind == (1 : Int)))] [bx [1] (encSMod a0)]) (aN) ?_
   refine iB h (fun b3 h => ?_) (fun b3 h => ?_)
   · refine Rg [.a] (sl 87 [(2, vS str_control)] []) (aN) ?_
     refine Holds.ret ?_
     refine blockQ.ret ?_
     refine Tr ?_
     exact bQ (vS str_control) (congrArg vS (sI h))
   · refine Rg [.a, .a] (sl 87 [(1, vP [1] (0)), (7, vI a0.Kind), (10, vB (a0.Kind == (2 : Int)))] [bx [1] (encSMod a0)]) (aN) ?_
     refine iB h (fun b4 h => ?_) (fun b4 h => ?_)
     · obtain ⟨r5, hr5, h⟩ := bS h
       obtain ⟨s6, hs6, h⟩ := bS h
       refine Rg [.a, .a, (.c (vS r5)), (.v (vS s6)), .a] (sl 87 [(2, vS s6)] []) (aC (r10_TypesText_ok hr5) <| aC (cat_b hs6) <| aC (congrArg (fun z => V.c (.str z)) (cat_x hs6).symm) <| aN) ?_
       refine Holds.ret ?_
       refine blockQ.ret ?_
       refine Tr ?_
       exact bQ (vS s6) (congrArg vS (sI h))
     · refine Rg [.a, .a] (sl 87 [(1, vP [1] (0)), (7, vI a0.Kind), (16, vB (a0.Kind == (3 : Int)))] [bx [1] (encSMod a0)]) (aN) ?_
       refine iB h (fun b7 h => ?_) (fun b7 h => ?_)
       · obtain ⟨r8, hr8, h⟩ := bS h
         obtain ⟨s9, hs9, h⟩ := bS h
         refine Rg [.a, .a, (.c (vS r8)), (.v (vS s9)), .a] (sl 87 [(2, vS s9)] []) (aC (r10_TypesText_ok hr8) <| aC (cat_b hs9) <| aC (congrArg (fun z => V.c (.str z)) (cat_x hs9).symm) <| aN) ?_
         refine Holds.ret ?_
         refine blockQ.ret ?_
         refine Tr ?_
         exact bQ (vS s9) (congrArg vS (sI h))
       · refine Rg [.a, .a] (sl 87 [(1, vP [1] (0)), (7, vI a0.Kind), (22, vB (a0.Kind == (4 : Int)))] [bx [1] (encSMod a0)]) (aN) ?_
         refine iB h (fun b10 h => ?_) (fun b10 h => ?_)
         · obtain ⟨s11, hs11, h⟩ := bS h
           refine Rg [.a, .a, (.v (vS s11)), .a] (sl 87 [(2, vS s11)] []) (aC (cat_b hs11) <| aC (congrArg (fun z => V.c (.str z)) (cat_x hs11).symm) <| aN) ?_
           refine Holds.ret ?_
           refine blockQ.ret ?_
           refine Tr ?_
           exact bQ (vS s11) (congrArg vS (sI h))
         · refine Rg [.a, .a] (sl 87 [(1, vP [1] (0)), (7, vI a0.Kind), (27, vB (a0.Kind == (5 : Int)))] [bx [1] (encSMod a0)]) (aN) ?_
           refine iB h (fun b12 h => ?_) (fun b12 h => ?_)
           · obtain ⟨s13, hs13, h⟩ := bS h
             refine Rg [.a, .a, (.v (vS s13)), .a] (sl 87 [(2, vS s13)] []) (aC (cat_b hs13) <| aC (congrArg (fun z => V.c (.str z)) (cat_x hs13).symm) <| aN) ?_
             refine Holds.ret ?_
             refine blockQ.ret ?_
             refine Tr ?_
             exact bQ (vS s13) (congrArg vS (sI h))
           · refine Rg [.a, .a] (sl 87 [(1, vP [1] (0)), (7, vI a0.Kind), (32, vB (a0.Kind == (6 : Int)))] [bx [1] (encSMod a0)]) (aN) ?_
             refine iB h (fun b14 h => ?_) (fun b14 h => ?_)
             · obtain ⟨r15, hr15, h⟩ := bS h
               obtain ⟨s16, hs16, h⟩ := bS h
               refine Rg [.a, .a, (.c (vS r15)), (.v (vS s16)), .a] (sl 87 [(2, vS s16)] []) (aC (r09_Text_ok hr15) <| aC (cat_b hs16) <| aC (congrArg (fun z => V.c (.str z)) (cat_x hs16).symm) <| aN) ?_
               refine Holds.ret ?_
               refine blockQ.ret ?_
               refine Tr ?_
               exact bQ (vS s16) (congrArg vS (sI h))
             · refine Rg [.a, .a] (sl 87 [(1, vP [1] (0)), (7, vI a0.Kind), (38, vB (a0.Kind == (7 : Int)))] [bx [1] (encSMod a0)]) (aN) ?_
               refine iB h (fun b17 h => ?_) (fun b17 h => ?_)
               · obtain ⟨r18, hr18, h⟩ := bS h
                 obtain ⟨s19, hs19, h⟩ := bS h
                 refine Rg [.a, .a, (.c (vS r18)), (.v (vS s19)), .a] (sl 87 [(2, vS s19)] []) (aC (r09_Text_ok hr18) <| aC (cat_b hs19) <| aC (congrArg (fun z => V.c (.str z)) (cat_x hs19).symm) <| aN) ?_
                 refine Holds.ret ?_
                 refine blockQ.ret ?_
                 refine Tr ?_
                 exact bQ (vS s19) (congrArg vS (sI h))
               · refine Rg [.a, .a] (sl 87 [(1, vP [1] (0)), (7, vI a0.Kind), (44, vB (a0.Kind == (8 : Int)))] [bx [1] (encSMod a0)]) (aN) ?_
                 refine iB h (fun b20 h => ?_) (fun b20 h => ?_)
                 · obtain ⟨r21, hr21, h⟩ := bS h
                   obtain ⟨s22, hs22, h⟩ := bS h
                   refine Rg [.a, .a, (.c (vS r21)), (.v (vS s22)), .a] (sl 87 [(2, vS s22)] []) (aC (r11_Text_ok hr21) <| aC (cat_b hs22) <| aC (congrArg (fun z => V.c (.str z)) (cat_x hs22).symm) <| aN) ?_
                   refine Holds.ret ?_
                   refine blockQ.ret ?_
                   refine Tr ?_
                   exact bQ (vS s22) (congrArg vS (sI h))
                 · refine Rg [.a, .a] (sl 87 [(1, vP [1] (0)), (7, vI a0.Kind), (50, vB (a0.Kind == (9 : Int)))] [bx [1] (encSMod a0)]) (aN) ?_
                   refine iB h (fun b23 h => ?_) (fun b23 h => ?_)
                   · obtain ⟨r24, hr24, h⟩ := bS h
                     obtain ⟨s25, hs25, h⟩ := bS h
                     refine Rg [.a, .a, (.c (vS r24)), (.v (vS s25)), .a] (sl 87 [(2, vS s25)] []) (aC (r11_Text_ok hr24) <| aC (cat_b hs25) <| aC (congrArg (fun z => V.c (.str z)) (cat_x hs25).symm) <| aN) ?_
                     refine Holds.ret ?_
                     refine blockQ.ret ?_
                     refine Tr ?_
                     exact bQ (vS s25) (congrArg vS (sI h))
                   · refine Rg [.a, .a] (sl 87 [(1, vP [1] (0)), (7, vI a0.Kind), (56, vB (a0.Kind == (10 : Int)))] [bx [1] (encSMod a0)]) (aN) ?_
                     refine iB h (fun b26 h => ?_) (fun b26 h => ?_)
                     · refine Rg [.a] (sl 87 [(2, vS str_blank)] []) (aN) ?_
                       refine Holds.ret ?_
                       refine blockQ.ret ?_
                       refine Tr ?_
                       exact bQ (vS str_blank) (congrArg vS (sI h))
                     · refine Rg [.a, .a] (sl 87 [(1, vP [1] (0)), (7, vI a0.Kind), (58, vB (a0.Kind == (11 : Int)))] [bx [1] (encSMod a0)]) (aN) ?_
                       refine iB h (fun b27 h => ?_) (fun b27 h => ?_)
                       · obtain ⟨r28, hr28, h⟩ := bS h
                         obtain ⟨s29, hs29, h⟩ := bS h
                         obtain ⟨s30, hs30, h⟩ := bS h
                         refine Rg [.a, .a, (.c (vS r28)), (.v (vS s29)), (.v (vS s30)), .a] (sl 87 [(2, vS s30)] []) (aC (r13_Text_ok hr28) <| aC (cat_b hs29) <| aC (congrArg (fun z => V.c (.str z)) (cat_x hs29).symm) <| aC (cat_b hs30) <| aC (congrArg (fun z => V.c (.str z)) (cat_x hs30).symm) <| aN) ?_
                         refine Holds.ret ?_
                         refine blockQ.ret ?_
                         refine Tr ?_
                         exact bQ (vS s30) (congrArg vS (sI h))
                       · refine Rg [.a, .a] (sl 87 [(1, vP [1] (0)), (7, vI a0.Kind), (65, vB (a0.Kind == (12 : Int)))] [bx [1] (encSMod a0)]) (aN) ?_
                         refine iB h (fun b31 h => ?_) (fun b31 h => ?_)
                         · obtain ⟨r32, hr32, h⟩ := bS h
                           obtain ⟨s33, hs33, h⟩ := bS h
                           obtain ⟨s34, hs34, h⟩ := bS h
                           obtain ⟨r35, hr35, h⟩ := bS h
                           obtain ⟨s36, hs36, h⟩ := bS h
                           refine Rq followsP [.a, .a, (.c (vS r32)), (.v (vS s33)), (.v (vS s34)), .a, .a, (.c (vS r35)), (.v (vS s36)), .a] (sl 87 [(2, vS s36)] []) (aC (r01_Text_ok hr32) <| aC (cat_b hs33) <| aC (congrArg (fun z => V.c (.str z)) (cat_x hs33).symm) <| aC (cat_b hs34) <| aC (congrArg (fun z => V.c (.str z)) (cat_x hs34).symm) <| aC (r01_Text_ok hr35) <| aC (cat_b hs36) <| aC (congrArg (fun z => V.c (.str z)) (cat_x hs36).symm) <| aN) ?_
                           refine Holds.ret ?_
                           refine blockQ.ret ?_
                           refine Tr ?_
                           exact bQ (vS s36) (congrArg vS (sI h))
                         · refine Rg [.a, .a] (sl 87 [(1, vP [1] (0)), (76, vB (a0.Kind == (13 : Int)))] [bx [1] (encSMod a0)]) (aN) ?_
                           refine iB h (fun b37 h => ?_) (fun b37 h => ?_)
                           · obtain ⟨r38, hr38, h⟩ := bS h
                             obtain ⟨s39, hs39, h⟩ := bS h
                             obtain ⟨s40, hs40, h⟩ := bS h
                             obtain ⟨r41, hr41, h⟩ := bS h
                             obtain ⟨s42, hs42, h⟩ := bS h
                             refine Rq followsP [.a, .a, (.c (vS r38)), (.v (vS s39)), (.v (vS s40)), .a, .a, (.c (vS r41)), (.v (vS s42)), .a] (sl 87 [(2, vS s42)] []) (aC (r01_Text_ok hr38) <| aC (cat_b hs39) <| aC (congrArg (fun z => V.c (.str z)) (cat_x hs39).symm) <| aC (cat_b hs40) <| aC (congrArg (fun z => V.c (.str z)) (cat_x hs40).symm) <| aC (r01_Text_ok hr41) <| aC (cat_b hs42) <| aC (congrArg (fun z => V.c (.str z)) (cat_x hs42).symm) <| aN) ?_
                             refine Holds.ret ?_
                             refine blockQ.ret ?_
                             refine Tr ?_
                             exact bQ (vS s42) (congrArg vS (sI h))
                           · refine Holds.skip ?_
                             refine blockQ.normal ?_
                             refine Tn ?_
                             refine Rg [.a] (sl 87 [(2, vS str_pt_switch)] []) (aN) ?_
                             refine Holds.ret ?_
                             exact bQ (vS str_pt_switch) (congrArg vS (sI h))
/-- cardgame/cardgameref19.moves -/
def r19_moves (a0 : SReplace) : Option (Bool) :=
 (gd ((a0.Who != (0 : Int)) == false) (r19_field a0.Filter)).bind fun r1 =>
 (some (if (a0.Who != (0 : Int)) = true then true else !r1)).bind fun b2 =>
 (if b2 = true then
  some false
 else
  (if (a0.Do == (5 : Int)) = true then
   (some (if (a0.N == (0 : Int)) = true then a0.Counter == (0 : Int) else false)).bind fun b5 =>
   (some (if (a0.Zone == (1 : Int)) = true then true else a0.Zone == (2 : Int))).bind fun b6 =>
   (some (if b6 = true then true else a0.Zone == (4 : Int))).bind fun b7 =>
   (some (if b5 = true then b7 else false)).bind fun b8 =>
   some b8
  else
   (if (a0.Do == (6 : Int)) = true then
    (some (if (a0.N == (0 : Int)) = true then a0.Counter == (0 : Int) else false)).bind fun b10 =>
    (some (if b10 = true then a0.Zone == (0 : Int) else false)).bind fun b11 =>
    some b11
   else
    (if (a0.Do == (7 : Int)) = true then
     (some (if (a0.Zone == (0 : Int)) = true then decide ((1 : Int) ≤ a0.N) else false)).bind fun b13 =>
     (some (if b13 = true then decide (a0.N ≤ (99 : Int)) else false)).bind fun b14 =>
     (some (if b14 = true then decide ((0 : Int) ≤ a0.Counter) else false)).bind fun b15 =>
     (some (if b15 = true then decide (a0.Counter < (3 : Int)) else false)).bind fun b16 =>
     some b16
    else
     some false))))
def r19_moves_C (a0 : SReplace) (r : Bool) : Prop := PCall Tryz.prog I0 102 [vA encSReplace a0] (· = vB r)
theorem r19_moves_ok {a0 : SReplace} {r : Bool} (h : r19_moves a0 = some r) : r19_moves_C a0 r := by
 refine PCall.body I0_stable (by kernel_rfl) Tryz.func102 rfl Tryz.ntmps102 (rs := [.tmp 2]) rfl rfl ?_
 intro w0 av old gv
 unfold r19_moves at h
 refine Rg [.a, .a] (sl 79 [(1, vP [1] (0))] [bx [1] (encSReplace a0)]) (aN) ?_
 refine Holds.seq ?_
 obtain ⟨r1, hr1, h⟩ := bS h
 obtain ⟨b2, hb2, h⟩ := bS h
 refine Rg [.a, .a, .a, .a, .a, .a, (.c (vB r1)), .a, (.v (vB b2))] (sl 79 [(1, vP [1] (0)), (11, vB b2)] [bx [1] (encSReplace a0)]) (aG ((a0.Who != (0 : Int)) == false) <| aC (c1 hr1 r19_field_ok) <| aG ((a0.Who != (0 : Int)) == false) <| aF (a0.Who != (0 : Int)) <| aB hb2 <| aN) ?_
 refine iB h (fun b3 h => ?_) (fun b3 h => ?_)
 · refine Rg [.a] (sl 79 [(2, vB false)] []) (aN) ?_
   refine Holds.ret ?_
   refine Tr ?_
   exact bQ (vB false) (congrArg vB (sI h))
 · refine Holds.skip ?_
   refine Tn ?_
   refine Holds.seq ?_
   refine Rg [.a, .a] (sl 79 [(1, vP [1] (0)), (13, vI a0.Do)] [bx [1] (encSReplace a0)]) (aN) ?_
   refine Holds.block ?_
   refine Rg [.a, .a] (sl 79 [(1, vP [1] (0)), (13, vI a0.Do), (14, vB (a0.Do == (5 : Int)))] [bx [1] (encSReplace a0)]) (aN) ?_
   refine iB h (fun b4 h => ?_) (fun b4 h => ?_)
   · obtain ⟨b5, hb5, h⟩ := bS h
     obtain ⟨b6, hb6, h⟩ := bS h
     obtain ⟨b7, hb7, h⟩ := bS h
     obtain ⟨b8, hb8, h⟩ := bS h
     refine Rg [.a, .a, .a, .a, .a, .a, .a, (.v (vB b5)), .a, .a, .a, .a, .a, .a, .a, .a, (.v (vB b6)), .a, .a, .a, .a, (.v (vB b7)), (.v (vB b8)), .a] (sl 79 [(2, vB b8)] []) (aG ((a0.N == (0 : Int)) == true) <| aG ((a0.N == (0 : Int)) == true) <| aT (a0.N == (0 : Int)) <| aB hb5 <| aG (b5 == true) <| aG (b5 == true) <| aG (b5 == true) <| aG ((b5 == true) && ((a0.Zone == (1 : Int)) == false)) <| aG ((b5 == true) && ((a0.Zone == (1 : Int)) == false)) <| aC (fun hg : (b5 == true) = true => aC (gi (b5 == true)) <| aC (fun q : (a0.Zone == (1 : Int)) = false => (gA hg (gF q))) <| aB hb6 <| aN) <| aG (b5 == true) <| aG ((b5 == true) && (b6 == false)) <| aG ((b5 == true) && (b6 == false)) <| aC (fun hg : (b5 == true) = true => aC (gi (b5 == true)) <| aC (fun q : b6 = false => (gA hg (gF q))) <| aB hb7 <| aN) <| aT b5 <| aB hb8 <| aN) ?_
     refine Holds.ret ?_
     refine blockQ.ret ?_
     refine Tr ?_
     exact bQ (vB b8) (congrArg vB (sI h))
   · refine Rg [.a, .a] (sl 79 [(1, vP [1] (0)), (13, vI a0.Do), (39, vB (a0.Do == (6 : Int)))] [bx [1] (encSReplace a0)]) (aN) ?_
     refine iB h (fun b9 h => ?_) (fun b9 h => ?_)
     · obtain ⟨b10, hb10, h⟩ := bS h
       obtain ⟨b11, hb11, h⟩ := bS h
       refine Rg [.a, .a, .a, .a, .a, .a, .a, (.v (vB b10)), .a, .a, .a, .a, (.v (vB b11)), .a] (sl 79 [(2, vB b11)] []) (aG ((a0.N == (0 : Int)) == true) <| aG ((a0.N == (0 : Int)) == true) <| aT (a0.N == (0 : Int)) <| aB hb10 <| aG (b10 == true) <| aG (b10 == true) <| aT b10 <| aB hb11 <| aN) ?_
       refine Holds.ret ?_
       refine blockQ.ret ?_
       refine Tr ?_
       exact bQ (vB b11) (congrArg vB (sI h))
     · refine Rg [.a, .a] (sl 79 [(1, vP [1] (0)), (54, vB (a0.Do == (7 : Int)))] [bx [1] (encSReplace a0)]) (aN) ?_
       refine iB h (fun b12 h => ?_) (fun b12 h => ?_)
       · obtain ⟨b13, hb13, h⟩ := bS h
         obtain ⟨b14, hb14, h⟩ := bS h
         obtain ⟨b15, hb15, h⟩ := bS h
         obtain ⟨b16, hb16, h⟩ := bS h
         refine Rg [.a, .a, .a, .a, .a, .a, .a, (.v (vB b13)), .a, .a, .a, .a, (.v (vB b14)), .a, .a, .a, .a, (.v (vB b15)), .a, .a, .a, .a, (.v (vB b16)), .a] (sl 79 [(2, vB b16)] []) (aG ((a0.Zone == (0 : Int)) == true) <| aG ((a0.Zone == (0 : Int)) == true) <| aT (a0.Zone == (0 : Int)) <| aB hb13 <| aG (b13 == true) <| aG (b13 == true) <| aT b13 <| aB hb14 <| aG (b14 == true) <| aG (b14 == true) <| aT b14 <| aB hb15 <| aG (b15 == true) <| aG (b15 == true) <| aT b15 <| aB hb16 <| aN) ?_
         refine Holds.ret ?_
         refine blockQ.ret ?_
         refine Tr ?_
         exact bQ (vB b16) (congrArg vB (sI h))
       · refine Holds.skip ?_
         refine blockQ.normal ?_
         refine Tn ?_
         refine Rg [.a] (sl 79 [(2, vB false)] []) (aN) ?_
         refine Holds.ret ?_
         exact bQ (vB false) (congrArg vB (sI h))
def r20_specs_J1 (a0 : List (SSpec)) : Option (Bool) :=
 some (decide ((a0.length : Int) ≤ (4 : Int)))
def r20_specs_B4 (a0 : List (SSpec)) (i_t3_3 : Int) : Option ((Int) ⊕ (Unit ⊕ Unit)) :=
 (if (decide (i_t3_3 < (a0.length : Int))) = true then
  (idx a0 i_t3_3).bind fun e6 =>
  (r20_spec e6).bind fun r7 =>
  (if (!r7) = true then
   some (.inr (.inl ()))
  else
   some (.inl (wrap64 (i_t3_3 + (1 : Int)))))
 else
  some (.inr (.inr ())))
/-- cardgame/cardgameref20.specs -/
def r20_specs (a0 : List (SSpec)) : Option (Bool) :=
 (iter (fun (v : Int) => r20_specs_B4 a0 v) FU (0 : Int)).bind (Sum.elim (fun o0 => some false) (fun o1 => r20_specs_J1 a0))
def r20_specs_C (a0 : List (SSpec)) (r : Bool) : Prop := PCall Tryz.prog I0 81 [vL encSSpec a0] (· = vB r)
theorem r20_specs_ok {a0 : List (SSpec)} {r : Bool} (h : r20_specs a0 = some r) : r20_specs_C a0 r := by
 refine PCall.body I0_stable (by kernel_rfl) Tryz.func81 rfl Tryz.ntmps81 (rs := [.tmp 2]) rfl rfl ?_
 intro w0 av old gv
 unfold r20_specs at h
 refine Rg [.a] (sl 19 [(0, vL encSSpec a0)] []) (aN) ?_
 refine Sj (X := Unit) (fun v => (sl 19 [(0, vL encSSpec a0)] [])) (fun v => r20_specs_J1 a0 = some r) ?_ ?_
 · refine Rg [.a] (sl 19 [(0, vL encSSpec a0), (3, vI (0 : Int))] []) (aN) ?_
   refine Holds.block ?_
   obtain ⟨oB4, hiB4, h⟩ := bS h
   refine It (fun (v : Int) => (sl 19 [(0, vL encSSpec a0), (3, vI v)] [])) hiB4 (wT) ?_
   rintro i_t3_3 zB4 hzB4 hoB4
   replace hzB4 : r20_specs_B4 a0 i_t3_3 = some zB4 := hzB4
   unfold r20_specs_B4 at hzB4
   refine Holds.seq ?_
   refine Rg [.a, .a, .a, .a] (sl 19 [(0, vL encSSpec a0), (3, vI i_t3_3), (7, vB (decide (i_t3_3 < (a0.length : Int))))] []) (aN) ?_
   refine iB hzB4 (fun b5 hzB4 => ?_) (fun b5 hzB4 => ?_)
   · refine Holds.skip ?_
     refine Tn ?_
     refine Holds.seq ?_
     refine Holds.block ?_
     obtain ⟨e6, he6, hzB4⟩ := bS hzB4
     obtain ⟨r7, hr7, hzB4⟩ := bS hzB4
     refine Rg [.a, .a, .a, (.v (vA encSSpec e6)), (.c (vB r7)), .a] (sl 19 [(0, vL encSSpec a0), (3, vI i_t3_3), (15, vB (!r7))] []) (aC (idx_b he6) <| aC (eld he6 lenSSpec 0 18 true (vA encSSpec e6)) <| aC (Eq.refl (vA encSSpec e6)) <| aC (r20_spec_ok hr7) <| aN) ?_
     refine iB hzB4 (fun b8 hzB4 => ?_) (fun b8 hzB4 => ?_)
     · refine Rg [.a] (sl 19 [(2, vB false)] []) (aN) ?_
       refine Holds.ret ?_
       refine blockQ.ret ?_
       refine Tr ?_
       have hoB4_ := hoB4 _ (sI hzB4).symm
       subst hoB4_
       replace h := sumL h
       refine Tr ?_
       refine blockQ.ret ?_
       refine Tr ?_
       exact bQ (vB false) (congrArg vB (sI h))
     · refine Holds.skip ?_
       refine blockQ.normal ?_
       refine Tn ?_
       refine Re [.a, .a, .a] (sl 19 [(0, vL encSSpec a0), (3, vI (wrap64 (i_t3_3 + (1 : Int)))), (8, vI i_t3_3), (9, vI (wrap64 (i_t3_3 + (1 : Int)))), (15, vB (!r7))] []) (aN) ?_
       refine Tn ⟨(wrap64 (i_t3_3 + (1 : Int))), (sI hzB4).symm, wT⟩
   · refine Holds.exit ?_
     refine thenQ.exit ?_
     have hoB4_ := hoB4 _ (sI hzB4).symm
     subst hoB4_
     replace h := sumR h
     refine thenQ.exit ?_
     refine blockQ.out ?_
     refine Tn ⟨(), h, wT⟩
 · rintro _ hJ1
   replace hJ1 : r20_specs_J1 a0 = some r := hJ1
   unfold r20_specs_J1 at hJ1
   refine Rg [.a, .a, .a, .a] (sl 19 [(2, vB (decide ((a0.length : Int) ≤ (4 : Int))))] []) (aN) ?_
   refine Holds.ret ?_
   exact bQ (vB (decide ((a0.length : Int) ≤ (4 : Int)))) (congrArg vB (sI hJ1))
end Go.PL
