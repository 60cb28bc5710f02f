/- Functions of the program, as partial functions in Lean, with proofs. -/
import Derived.Test.YtlinpadogiggaaaGreatDoorPlEvB
import Derived.Test.YtlinpadogiggaaaGreatDoorPlEvF1
import Derived.Test.YtlinpadogiggaaaGreatDoorPlEvF2
import Derived.Test.YtlinpadogiggaaaGreatDoorPlEvF3
import Derived.Test.YtlinpadogiggaaaGreatDoorPlEvF5
import Derived.Test.YtlinpadogiggaaaGreatDoorPlEvF6
namespace Go.PL
open Go Go.RowKit Go.Proofs
set_option maxRecDepth 100000
set_option linter.all false
set_option maxHeartbeats 1000000
attribute [local irreducible] Holds thenQ blockQ
/-- cardgame/cardgameref15.Text -/
def r15_Text (a0 : SMod) : Option ((List UInt8)) :=
 (r15_Is a0).bind fun r1 =>
 (if (!r1) = true then
  some ([] : List UInt8)
 else
  (if (a0.Kind == (1 : Int)) = true then
   some str_control
  else
   (if (a0.Kind == (2 : Int)) = true then
    (r10_TypesText a0.N).bind fun r5 =>
    (cat str_types_ r5).bind fun s6 =>
    some s6
   else
    (if (a0.Kind == (3 : Int)) = true then
     (r10_TypesText a0.N).bind fun r8 =>
     (cat str_types__ r8).bind fun s9 =>
     some s9
    else
     (if (a0.Kind == (4 : Int)) = true then
      (cat str_sub_ a0.Sub).bind fun s11 =>
      some s11
     else
      (if (a0.Kind == (5 : Int)) = true then
       (cat str_sub__ a0.Sub).bind fun s13 =>
       some s13
      else
       (if (a0.Kind == (6 : Int)) = true then
        (r09_Text a0.N).bind fun r15 =>
        (cat str_colors_ r15).bind fun s16 =>
        some s16
       else
        (if (a0.Kind == (7 : Int)) = true then
         (r09_Text a0.N).bind fun r18 =>
         (cat str_colors__ r18).bind fun s19 =>
         some s19
        else
         (if (a0.Kind == (8 : Int)) = true then
          (r11_Text a0.N).bind fun r21 =>
          (cat str_keys__ r21).bind fun s22 =>
          some s22
         else
          (if (a0.Kind == (9 : Int)) = true then
           (r11_Text a0.N).bind fun r24 =>
           (cat str_x6b6579732d3d r24).bind fun s25 =>
           some s25
          else
           (if (a0.Kind == (10 : Int)) = true then
            some str_blank
           else
            (if (a0.Kind == (11 : Int)) = true then
             (r13_Text a0.Filter).bind fun r28 =>
             (cat str_pt_count_ r28).bind fun s29 =>
             (cat s29 str_x29).bind fun s30 =>
             some s30
            else
             (if (a0.Kind == (12 : Int)) = true then
              (r01_Text a0.N).bind fun r32 =>
              (cat str_pt_ r32).bind fun s33 =>
              (cat s33 str_x2f).bind fun s34 =>
              (r01_Text a0.M).bind fun r35 =>
              (cat s34 r35).bind fun s36 =>
              some s36
             else
              (if (a0.Kind == (13 : Int)) = true then
               (r01_Text a0.N).bind fun r38 =>
               (cat str_pt__ r38).bind fun s39 =>
               (cat s39 str_x2f).bind fun s40 =>
               (r01_Text a0.M).bind fun r41 =>
               (cat s40 r41).bind fun s42 =>
               some s42
              else
               some str_pt_switch))))))))))))))
def r15_Text_C (a0 : SMod) (r : (List UInt8)) : Prop := PCall Tryz.prog I0 105 [vA encSMod a0] (· = vS r)
theorem r15_Text_ok {a0 : SMod} {r : (List UInt8)} (h : r15_Text a0 = some r) : r15_Text_C a0 r := by
 refine PCall.body I0_stable (by kernel_rfl) Tryz.func105 rfl Tryz.ntmps105 (rs := [.tmp 2]) rfl rfl ?_
 intro w0 av old gv
 unfold r15_Text at h
 refine Rg [.a, .a] (sl 87 [(1, vP [1] (0))] [bx [1] (encSMod a0)]) (aN) ?_
 refine Holds.seq ?_
 obtain ⟨r1, hr1, h⟩ := bS h
 refine Rg [.a, (.c (vB r1)), .a] (sl 87 [(1, vP [1] (0)), (5, vB (!r1))] [bx [1] (encSMod a0)]) (aC (r15_Is_ok hr1) <| aN) ?_
 refine iB h (fun b2 h => ?_) (fun b2 h => ?_)
 · refine Rg [.a] (sl 87 [(2, vS ([] : List UInt8))] []) (aN) ?_
   refine Holds.ret ?_
   refine Tr ?_
   exact bQ (vS ([] : List UInt8)) (congrArg vS (sI h))
 · refine Holds.skip ?_
   refine Tn ?_
   refine Holds.seq ?_
   refine Rg [.a, .a] (sl 87 [(1, vP [1] (0)), (7, vI a0.Kind)] [bx [1] (encSMod a0)]) (aN) ?_
   refine Holds.block ?_
   refine Rg [.a, .a] (sl 87 [(1, vP [1] (0)), (7, vI a0.Kind), (8, vB (a0.Kind == (1 : Int)))] [bx [1] (encSMod a0)]) (aN) ?_
   refine iB h (fun b3 h => ?_) (fun b3 h => ?_)
   · refine Rg [.a] (sl 87 [(2, vS str_control)] []) (aN) ?_
     refine Holds.ret ?_
     refine blockQ.ret ?_
     refine Tr ?_
     exact bQ (vS str_control) (congrArg vS (sI h))
   · refine Rg [.a, .a] (sl 87 [(1, vP [1] (0)), (7, vI a0.Kind), (10, vB (a0.Kind == (2 : Int)))] [bx [1] (encSMod a0)]) (aN) ?_
     refine iB h (fun b4 h => ?_) (fun b4 h => ?_)
     · obtain ⟨r5, hr5, h⟩ := bS h
       obtain ⟨s6, hs6, h⟩ := bS h
       refine Rg [.a, .a, (.c (vS r5)), (.v (vS s6)), .a] (sl 87 [(2, vS s6)] []) (aC (r10_TypesText_ok hr5) <| aC (cat_b hs6) <| aC (congrArg (fun z => V.c (.str z)) (cat_x hs6).symm) <| aN) ?_
       refine Holds.ret ?_
       refine blockQ.ret ?_
       refine Tr ?_
       exact bQ (vS s6) (congrArg vS (sI h))
     · refine Rg [.a, .a] (sl 87 [(1, vP [1] (0)), (7, vI a0.Kind), (16, vB (a0.Kind == (3 : Int)))] [bx [1] (encSMod a0)]) (aN) ?_
       refine iB h (fun b7 h => ?_) (fun b7 h => ?_)
       · obtain ⟨r8, hr8, h⟩ := bS h
         obtain ⟨s9, hs9, h⟩ := bS h
         refine Rg [.a, .a, (.c (vS r8)), (.v (vS s9)), .a] (sl 87 [(2, vS s9)] []) (aC (r10_TypesText_ok hr8) <| aC (cat_b hs9) <| aC (congrArg (fun z => V.c (.str z)) (cat_x hs9).symm) <| aN) ?_
         refine Holds.ret ?_
         refine blockQ.ret ?_
         refine Tr ?_
         exact bQ (vS s9) (congrArg vS (sI h))
       · refine Rg [.a, .a] (sl 87 [(1, vP [1] (0)), (7, vI a0.Kind), (22, vB (a0.Kind == (4 : Int)))] [bx [1] (encSMod a0)]) (aN) ?_
         refine iB h (fun b10 h => ?_) (fun b10 h => ?_)
         · obtain ⟨s11, hs11, h⟩ := bS h
           refine Rg [.a, .a, (.v (vS s11)), .a] (sl 87 [(2, vS s11)] []) (aC (cat_b hs11) <| aC (congrArg (fun z => V.c (.str z)) (cat_x hs11).symm) <| aN) ?_
           refine Holds.ret ?_
           refine blockQ.ret ?_
           refine Tr ?_
           exact bQ (vS s11) (congrArg vS (sI h))
         · refine Rg [.a, .a] (sl 87 [(1, vP [1] (0)), (7, vI a0.Kind), (27, vB (a0.Kind == (5 : Int)))] [bx [1] (encSMod a0)]) (aN) ?_
           refine iB h (fun b12 h => ?_) (fun b12 h => ?_)
           · obtain ⟨s13, hs13, h⟩ := bS h
             refine Rg [.a, .a, (.v (vS s13)), .a] (sl 87 [(2, vS s13)] []) (aC (cat_b hs13) <| aC (congrArg (fun z => V.c (.str z)) (cat_x hs13).symm) <| aN) ?_
             refine Holds.ret ?_
             refine blockQ.ret ?_
             refine Tr ?_
             exact bQ (vS s13) (congrArg vS (sI h))
           · refine Rg [.a, .a] (sl 87 [(1, vP [1] (0)), (7, vI a0.Kind), (32, vB (a0.Kind == (6 : Int)))] [bx [1] (encSMod a0)]) (aN) ?_
             refine iB h (fun b14 h => ?_) (fun b14 h => ?_)
             · obtain ⟨r15, hr15, h⟩ := bS h
               obtain ⟨s16, hs16, h⟩ := bS h
               refine Rg [.a, .a, (.c (vS r15)), (.v (vS s16)), .a] (sl 87 [(2, vS s16)] []) (aC (r09_Text_ok hr15) <| aC (cat_b hs16) <| aC (congrArg (fun z => V.c (.str z)) (cat_x hs16).symm) <| aN) ?_
               refine Holds.ret ?_
               refine blockQ.ret ?_
               refine Tr ?_
               exact bQ (vS s16) (congrArg vS (sI h))
             · refine Rg [.a, .a] (sl 87 [(1, vP [1] (0)), (7, vI a0.Kind), (38, vB (a0.Kind == (7 : Int)))] [bx [1] (encSMod a0)]) (aN) ?_
               refine iB h (fun b17 h => ?_) (fun b17 h => ?_)
               · obtain ⟨r18, hr18, h⟩ := bS h
                 obtain ⟨s19, hs19, h⟩ := bS h
                 refine Rg [.a, .a, (.c (vS r18)), (.v (vS s19)), .a] (sl 87 [(2, vS s19)] []) (aC (r09_Text_ok hr18) <| aC (cat_b hs19) <| aC (congrArg (fun z => V.c (.str z)) (cat_x hs19).symm) <| aN) ?_
                 refine Holds.ret ?_
                 refine blockQ.ret ?_
                 refine Tr ?_
                 exact bQ (vS s19) (congrArg vS (sI h))
               · refine Rg [.a, .a] (sl 87 [(1, vP [1] (0)), (7, vI a0.Kind), (44, vB (a0.Kind == (8 : Int)))] [bx [1] (encSMod a0)]) (aN) ?_
                 refine iB h (fun b20 h => ?_) (fun b20 h => ?_)
                 · obtain ⟨r21, hr21, h⟩ := bS h
                   obtain ⟨s22, hs22, h⟩ := bS h
                   refine Rg [.a, .a, (.c (vS r21)), (.v (vS s22)), .a] (sl 87 [(2, vS s22)] []) (aC (r11_Text_ok hr21) <| aC (cat_b hs22) <| aC (congrArg (fun z => V.c (.str z)) (cat_x hs22).symm) <| aN) ?_
                   refine Holds.ret ?_
                   refine blockQ.ret ?_
                   refine Tr ?_
                   exact bQ (vS s22) (congrArg vS (sI h))
                 · refine Rg [.a, .a] (sl 87 [(1, vP [1] (0)), (7, vI a0.Kind), (50, vB (a0.Kind == (9 : Int)))] [bx [1] (encSMod a0)]) (aN) ?_
                   refine iB h (fun b23 h => ?_) (fun b23 h => ?_)
                   · obtain ⟨r24, hr24, h⟩ := bS h
                     obtain ⟨s25, hs25, h⟩ := bS h
                     refine Rg [.a, .a, (.c (vS r24)), (.v (vS s25)), .a] (sl 87 [(2, vS s25)] []) (aC (r11_Text_ok hr24) <| aC (cat_b hs25) <| aC (congrArg (fun z => V.c (.str z)) (cat_x hs25).symm) <| aN) ?_
                     refine Holds.ret ?_
                     refine blockQ.ret ?_
                     refine Tr ?_
                     exact bQ (vS s25) (congrArg vS (sI h))
                   · refine Rg [.a, .a] (sl 87 [(1, vP [1] (0)), (7, vI a0.Kind), (56, vB (a0.Kind == (10 : Int)))] [bx [1] (encSMod a0)]) (aN) ?_
                     refine iB h (fun b26 h => ?_) (fun b26 h => ?_)
                     · refine Rg [.a] (sl 87 [(2, vS str_blank)] []) (aN) ?_
                       refine Holds.ret ?_
                       refine blockQ.ret ?_
                       refine Tr ?_
                       exact bQ (vS str_blank) (congrArg vS (sI h))
                     · refine Rg [.a, .a] (sl 87 [(1, vP [1] (0)), (7, vI a0.Kind), (58, vB (a0.Kind == (11 : Int)))] [bx [1] (encSMod a0)]) (aN) ?_
                       refine iB h (fun b27 h => ?_) (fun b27 h => ?_)
                       · obtain ⟨r28, hr28, h⟩ := bS h
                         obtain ⟨s29, hs29, h⟩ := bS h
                         obtain ⟨s30, hs30, h⟩ := bS h
                         refine Rg [.a, .a, (.c (vS r28)), (.v (vS s29)), (.v (vS s30)), .a] (sl 87 [(2, vS s30)] []) (aC (r13_Text_ok hr28) <| aC (cat_b hs29) <| aC (congrArg (fun z => V.c (.str z)) (cat_x hs29).symm) <| aC (cat_b hs30) <| aC (congrArg (fun z => V.c (.str z)) (cat_x hs30).symm) <| aN) ?_
                         refine Holds.ret ?_
                         refine blockQ.ret ?_
                         refine Tr ?_
                         exact bQ (vS s30) (congrArg vS (sI h))
                       · refine Rg [.a, .a] (sl 87 [(1, vP [1] (0)), (7, vI a0.Kind), (65, vB (a0.Kind == (12 : Int)))] [bx [1] (encSMod a0)]) (aN) ?_
                         refine iB h (fun b31 h => ?_) (fun b31 h => ?_)
                         · obtain ⟨r32, hr32, h⟩ := bS h
                           obtain ⟨s33, hs33, h⟩ := bS h
                           obtain ⟨s34, hs34, h⟩ := bS h
                           obtain ⟨r35, hr35, h⟩ := bS h
                           obtain ⟨s36, hs36, h⟩ := bS h
                           refine Rq followsP [.a, .a, (.c (vS r32)), (.v (vS s33)), (.v (vS s34)), .a, .a, (.c (vS r35)), (.v (vS s36)), .a] (sl 87 [(2, vS s36)] []) (aC (r01_Text_ok hr32) <| aC (cat_b hs33) <| aC (congrArg (fun z => V.c (.str z)) (cat_x hs33).symm) <| aC (cat_b hs34) <| aC (congrArg (fun z => V.c (.str z)) (cat_x hs34).symm) <| aC (r01_Text_ok hr35) <| aC (cat_b hs36) <| aC (congrArg (fun z => V.c (.str z)) (cat_x hs36).symm) <| aN) ?_
                           refine Holds.ret ?_
                           refine blockQ.ret ?_
                           refine Tr ?_
                           exact bQ (vS s36) (congrArg vS (sI h))
                         · refine Rg [.a, .a] (sl 87 [(1, vP [1] (0)), (76, vB (a0.Kind == (13 : Int)))] [bx [1] (encSMod a0)]) (aN) ?_
                           refine iB h (fun b37 h => ?_) (fun b37 h => ?_)
                           · obtain ⟨r38, hr38, h⟩ := bS h
                             obtain ⟨s39, hs39, h⟩ := bS h
                             obtain ⟨s40, hs40, h⟩ := bS h
                             obtain ⟨r41, hr41, h⟩ := bS h
                             obtain ⟨s42, hs42, h⟩ := bS h
                             refine Rq followsP [.a, .a, (.c (vS r38)), (.v (vS s39)), (.v (vS s40)), .a, .a, (.c (vS r41)), (.v (vS s42)), .a] (sl 87 [(2, vS s42)] []) (aC (r01_Text_ok hr38) <| aC (cat_b hs39) <| aC (congrArg (fun z => V.c (.str z)) (cat_x hs39).symm) <| aC (cat_b hs40) <| aC (congrArg (fun z => V.c (.str z)) (cat_x hs40).symm) <| aC (r01_Text_ok hr41) <| aC (cat_b hs42) <| aC (congrArg (fun z => V.c (.str z)) (cat_x hs42).symm) <| aN) ?_
                             refine Holds.ret ?_
                             refine blockQ.ret ?_
                             refine Tr ?_
                             exact bQ (vS s42) (congrArg vS (sI h))
                           · refine Holds.skip ?_
                             refine blockQ.normal ?_
                             refine Tn ?_
                             refine Rg [.a] (sl 87 [(2, vS str_pt_switch)] []) (aN) ?_
                             refine Holds.ret ?_
                             exact bQ (vS str_pt_switch) (congrArg vS (sI h))
/-- cardgame/cardgameref19.moves -/
def r19_moves (a0 : SReplace) : Option (Bool) :=
 (gd ((a0.Who != (0 : Int)) == false) (r19_field a0.Filter)).bind fun r1 =>
 (some (if (a0.Who != (0 : Int)) = true then true else !r1)).bind fun b2 =>
 (if b2 = true then
  some false
 else
  (if (a0.Do == (5 : Int)) = true then
   (some (if (a0.N == (0 : Int)) = true then a0.Counter == (0 : Int) else false)).bind fun b5 =>
   (some (if (a0.Zone == (1 : Int)) = true then true else a0.Zone == (2 : Int))).bind fun b6 =>
   (some (if b6 = true then true else a0.Zone == (4 : Int))).bind fun b7 =>
   (some (if b5 = true then b7 else false)).bind fun b8 =>
   some b8
  else
   (if (a0.Do == (6 : Int)) = true then
    (some (if (a0.N == (0 : Int)) = true then a0.Counter == (0 : Int) else false)).bind fun b10 =>
    (some (if b10 = true then a0.Zone == (0 : Int) else false)).bind fun b11 =>
    some b11
   else
    (if (a0.Do == (7 : Int)) = true then
     (some (if (a0.Zone == (0 : Int)) = true then decide ((1 : Int) ≤ a0.N) else false)).bind fun b13 =>
     (some (if b13 = true then decide (a0.N ≤ (99 : Int)) else false)).bind fun b14 =>
     (some (if b14 = true then decide ((0 : Int) ≤ a0.Counter) else false)).bind fun b15 =>
     (some (if b15 = true then decide (a0.Counter < (3 : Int)) else false)).bind fun b16 =>
     some b16
    else
     some false))))
def r19_moves_C (a0 : SReplace) (r : Bool) : Prop := PCall Tryz.prog I0 129 [vA encSReplace a0] (· = vB r)
theorem r19_moves_ok {a0 : SReplace} {r : Bool} (h : r19_moves a0 = some r) : r19_moves_C a0 r := by
 refine PCall.body I0_stable (by kernel_rfl) Tryz.func129 rfl Tryz.ntmps129 (rs := [.tmp 2]) rfl rfl ?_
 intro w0 av old gv
 unfold r19_moves at h
 refine Rg [.a, .a] (sl 79 [(1, vP [1] (0))] [bx [1] (encSReplace a0)]) (aN) ?_
 refine Holds.seq ?_
 obtain ⟨r1, hr1, h⟩ := bS h
 obtain ⟨b2, hb2, h⟩ := bS h
 refine Rg [.a, .a, .a, .a, .a, .a, (.c (vB r1)), .a, (.v (vB b2))] (sl 79 [(1, vP [1] (0)), (11, vB b2)] [bx [1] (encSReplace a0)]) (aG ((a0.Who != (0 : Int)) == false) <| aC (c1 hr1 r19_field_ok) <| aG ((a0.Who != (0 : Int)) == false) <| aF (a0.Who != (0 : Int)) <| aB hb2 <| aN) ?_
 refine iB h (fun b3 h => ?_) (fun b3 h => ?_)
 · refine Rg [.a] (sl 79 [(2, vB false)] []) (aN) ?_
   refine Holds.ret ?_
   refine Tr ?_
   exact bQ (vB false) (congrArg vB (sI h))
 · refine Holds.skip ?_
   refine Tn ?_
   refine Holds.seq ?_
   refine Rg [.a, .a] (sl 79 [(1, vP [1] (0)), (13, vI a0.Do)] [bx [1] (encSReplace a0)]) (aN) ?_
   refine Holds.block ?_
   refine Rg [.a, .a] (sl 79 [(1, vP [1] (0)), (13, vI a0.Do), (14, vB (a0.Do == (5 : Int)))] [bx [1] (encSReplace a0)]) (aN) ?_
   refine iB h (fun b4 h => ?_) (fun b4 h => ?_)
   · obtain ⟨b5, hb5, h⟩ := bS h
     obtain ⟨b6, hb6, h⟩ := bS h
     obtain ⟨b7, hb7, h⟩ := bS h
     obtain ⟨b8, hb8, h⟩ := bS h
     refine Rg [.a, .a, .a, .a, .a, .a, .a, (.v (vB b5)), .a, .a, .a, .a, .a, .a, .a, .a, (.v (vB b6)), .a, .a, .a, .a, (.v (vB b7)), (.v (vB b8)), .a] (sl 79 [(2, vB b8)] []) (aG ((a0.N == (0 : Int)) == true) <| aG ((a0.N == (0 : Int)) == true) <| aT (a0.N == (0 : Int)) <| aB hb5 <| aG (b5 == true) <| aG (b5 == true) <| aG (b5 == true) <| aG ((b5 == true) && ((a0.Zone == (1 : Int)) == false)) <| aG ((b5 == true) && ((a0.Zone == (1 : Int)) == false)) <| aC (fun hg : (b5 == true) = true => aC (gi (b5 == true)) <| aC (fun q : (a0.Zone == (1 : Int)) = false => (gA hg (gF q))) <| aB hb6 <| aN) <| aG (b5 == true) <| aG ((b5 == true) && (b6 == false)) <| aG ((b5 == true) && (b6 == false)) <| aC (fun hg : (b5 == true) = true => aC (gi (b5 == true)) <| aC (fun q : b6 = false => (gA hg (gF q))) <| aB hb7 <| aN) <| aT b5 <| aB hb8 <| aN) ?_
     refine Holds.ret ?_
     refine blockQ.ret ?_
     refine Tr ?_
     exact bQ (vB b8) (congrArg vB (sI h))
   · refine Rg [.a, .a] (sl 79 [(1, vP [1] (0)), (13, vI a0.Do), (39, vB (a0.Do == (6 : Int)))] [bx [1] (encSReplace a0)]) (aN) ?_
     refine iB h (fun b9 h => ?_) (fun b9 h => ?_)
     · obtain ⟨b10, hb10, h⟩ := bS h
       obtain ⟨b11, hb11, h⟩ := bS h
       refine Rg [.a, .a, .a, .a, .a, .a, .a, (.v (vB b10)), .a, .a, .a, .a, (.v (vB b11)), .a] (sl 79 [(2, vB b11)] []) (aG ((a0.N == (0 : Int)) == true) <| aG ((a0.N == (0 : Int)) == true) <| aT (a0.N == (0 : Int)) <| aB hb10 <| aG (b10 == true) <| aG (b10 == true) <| aT b10 <| aB hb11 <| aN) ?_
       refine Holds.ret ?_
       refine blockQ.ret ?_
       refine Tr ?_
       exact bQ (vB b11) (congrArg vB (sI h))
     · refine Rg [.a, .a] (sl 79 [(1, vP [1] (0)), (54, vB (a0.Do == (7 : Int)))] [bx [1] (encSReplace a0)]) (aN) ?_
       refine iB h (fun b12 h => ?_) (fun b12 h => ?_)
       · obtain ⟨b13, hb13, h⟩ := bS h
         obtain ⟨b14, hb14, h⟩ := bS h
         obtain ⟨b15, hb15, h⟩ := bS h
         obtain ⟨b16, hb16, h⟩ := bS h
         refine Rg [.a, .a, .a, .a, .a, .a, .a, (.v (vB b13)), .a, .a, .a, .a, (.v (vB b14)), .a, .a, .a, .a, (.v (vB b15)), .a, .a, .a, .a, (.v (vB b16)), .a] (sl 79 [(2, vB b16)] []) (aG ((a0.Zone == (0 : Int)) == true) <| aG ((a0.Zone == (0 : Int)) == true) <| aT (a0.Zone == (0 : Int)) <| aB hb13 <| aG (b13 == true) <| aG (b13 == true) <| aT b13 <| aB hb14 <| aG (b14 == true) <| aG (b14 == true) <| aT b14 <| aB hb15 <| aG (b15 == true) <| aG (b15 == true) <| aT b15 <| aB hb16 <| aN) ?_
         refine Holds.ret ?_
         refine blockQ.ret ?_
         refine Tr ?_
         exact bQ (vB b16) (congrArg vB (sI h))
       · refine Holds.skip ?_
         refine blockQ.normal ?_
         refine Tn ?_
         refine Rg [.a] (sl 79 [(2, vB false)] []) (aN) ?_
         refine Holds.ret ?_
         exact bQ (vB false) (congrArg vB (sI h))
def r20_specs_J1 (a0 : List (SSpec)) : Option (Bool) :=
 some (decide ((a0.length : Int) ≤ (4 : Int)))
def r20_specs_B4 (a0 : List (SSpec)) (i_t3_3 : Int) : Option ((Int) ⊕ (Unit ⊕ Unit)) :=
 (if (decide (i_t3_3 < (a0.length : Int))) = true then
  (idx a0 i_t3_3).bind fun e6 =>
  (r20_spec e6).bind fun r7 =>
  (if (!r7) = true then
   some (.inr (.inl ()))
  else
   some (.inl (wrap64 (i_t3_3 + (1 : Int)))))
 else
  some (.inr (.inr ())))
/-- cardgame/cardgameref20.specs -/
def r20_specs (a0 : List (SSpec)) : Option (Bool) :=
 (iter (fun (v : Int) => r20_specs_B4 a0 v) FU (0 : Int)).bind (Sum.elim (fun o0 => some false) (fun o1 => r20_specs_J1 a0))
def r20_specs_C (a0 : List (SSpec)) (r : Bool) : Prop := PCall Tryz.prog I0 94 [vL encSSpec a0] (· = vB r)
theorem r20_specs_ok {a0 : List (SSpec)} {r : Bool} (h : r20_specs a0 = some r) : r20_specs_C a0 r := by
 refine PCall.body I0_stable (by kernel_rfl) Tryz.func94 rfl Tryz.ntmps94 (rs := [.tmp 2]) rfl rfl ?_
 intro w0 av old gv
 unfold r20_specs at h
 refine Rg [.a] (sl 19 [(0, vL encSSpec a0)] []) (aN) ?_
 refine Holds.seqJ (X := Unit) (fun v => (sl 19 [(0, vL encSSpec a0)] [])) (fun v => r20_specs_J1 a0 = some r) ?_ ?_
 · refine Rg [.a] (sl 19 [(0, vL encSSpec a0), (3, vI (0 : Int))] []) (aN) ?_
   refine Holds.block ?_
   obtain ⟨oB4, hiB4, h⟩ := bS h
   refine Holds.iter (fun (v : Int) => (sl 19 [(0, vL encSSpec a0), (3, vI v)] [])) hiB4 (lT) ?_
   rintro i_t3_3 zB4 hzB4 hoB4
   replace hzB4 : r20_specs_B4 a0 i_t3_3 = some zB4 := hzB4
   unfold r20_specs_B4 at hzB4
   refine Holds.seq ?_
   refine Rg [.a, .a, .a, .a] (sl 19 [(0, vL encSSpec a0), (3, vI i_t3_3), (7, vB (decide (i_t3_3 < (a0.length : Int))))] []) (aN) ?_
   refine iB hzB4 (fun b5 hzB4 => ?_) (fun b5 hzB4 => ?_)
   · refine Holds.skip ?_
     refine Tn ?_
     refine Holds.seq ?_
     refine Holds.block ?_
     obtain ⟨e6, he6, hzB4⟩ := bS hzB4
     obtain ⟨r7, hr7, hzB4⟩ := bS hzB4
     refine Rg [.a, .a, .a, (.v (vA encSSpec e6)), (.c (vB r7)), .a] (sl 19 [(0, vL encSSpec a0), (3, vI i_t3_3), (15, vB (!r7))] []) (aC (idx_b he6) <| aC (eld he6 lenSSpec 0 18 true (vA encSSpec e6)) <| aC (Eq.refl (vA encSSpec e6)) <| aC (r20_spec_ok hr7) <| aN) ?_
     refine iB hzB4 (fun b8 hzB4 => ?_) (fun b8 hzB4 => ?_)
     · refine Rg [.a] (sl 19 [(2, vB false)] []) (aN) ?_
       refine Holds.ret ?_
       refine blockQ.ret ?_
       refine Tr ?_
       have hoB4_ := hoB4 _ (sI hzB4).symm
       subst hoB4_
       replace h := sumL h
       refine Tr ?_
       refine blockQ.ret ?_
       refine Tr ?_
       exact bQ (vB false) (congrArg vB (sI h))
     · refine Holds.skip ?_
       refine blockQ.normal ?_
       refine Tn ?_
       refine Re [.a, .a, .a] (sl 19 [(0, vL encSSpec a0), (3, vI (wrap64 (i_t3_3 + (1 : Int)))), (8, vI i_t3_3), (9, vI (wrap64 (i_t3_3 + (1 : Int)))), (15, vB (!r7))] []) (aN) ?_
       refine Tn ⟨(wrap64 (i_t3_3 + (1 : Int))), (sI hzB4).symm, lT⟩
   · refine Holds.exit ?_
     refine thenQ.exit ?_
     have hoB4_ := hoB4 _ (sI hzB4).symm
     subst hoB4_
     replace h := sumR h
     refine thenQ.exit ?_
     refine blockQ.out ?_
     refine Tn ⟨(), h, lT⟩
 · rintro _ hJ1
   replace hJ1 : r20_specs_J1 a0 = some r := hJ1
   unfold r20_specs_J1 at hJ1
   refine Rg [.a, .a, .a, .a] (sl 19 [(2, vB (decide ((a0.length : Int) ≤ (4 : Int))))] []) (aN) ?_
   refine Holds.ret ?_
   exact bQ (vB (decide ((a0.length : Int) ≤ (4 : Int)))) (congrArg vB (sI hJ1))
def law32_alive_J2  (l1000_8_4_1 : List (SPlayer)) : Option (Bool) :=
 (idx l1000_8_4_1 (1 : Int)).bind fun e3 =>
 (some (l1000_8_4_1.set ((1 : Int)).toNat ({ e3 with Lost := true }))).bind fun l4 =>
 (event_Text (⟨(4 : Int), (0 : Int), (0 : Int), (1 : Int), (3 : Int), (0 : Int), (0 : Int), (0 : Int), (0 : Int), (0 : Int), false, false, (⟨(0 : Int), (0 : Int), (0 : Int)⟩ : A3 (Int))⟩ : SEvent)).bind fun r5 =>
 (gd ((r5 == str_gain_0_0_1_3_0_0_0_0_0) == true) (event_Text (⟨(0 : Int), (-2 : Int), (0 : Int), (0 : Int), (0 : Int), (0 : Int), (0 : Int), (0 : Int), (0 : Int), (0 : Int), false, false, (⟨(0 : Int), (0 : Int), (0 : Int)⟩ : A3 (Int))⟩ : SEvent))).bind fun r6 =>
 (some (if (r5 == str_gain_0_0_1_3_0_0_0_0_0) = true then r6 == str____2_0_0_0_0_0_0_0_0 else false)).bind fun b7 =>
 (gd (b7 == true) (event_Name (17 : Int))).bind fun r8 =>
 (some (if b7 = true then r8 == str_shuffle else false)).bind fun b9 =>
 (gd (b9 == true) (event_Name (18 : Int))).bind fun r10 =>
 (some (if b9 = true then r10 == ([] : List UInt8) else false)).bind fun b11 =>
 (gd (b11 == true) (event_Is ([] : List (SCard)) (⟨l4, ([] : List (SObject)), ([] : List (Int)), ([] : List (Int)), ([] : List (SItem)), ([] : List (SWaiting)), ([] : List (SCont)), (0 : Int), (0 : Int), (0 : Int), false, (0 : Int), (0 : Int), (1 : Int), (1 : Int), (1 : Int), ([] : List (Int)), (0 : Int), (-1 : Int)⟩ : SState) (⟨(4 : Int), (0 : Int), (0 : Int), (0 : Int), (3 : Int), (0 : Int), (0 : Int), (0 : Int), (0 : Int), (0 : Int), false, false, (⟨(0 : Int), (0 : Int), (0 : Int)⟩ : A3 (Int))⟩ : SEvent))).bind fun r12 =>
 (some (if b11 = true then r12 else false)).bind fun b13 =>
 (gd (b13 == true) (event_Is ([] : List (SCard)) (⟨l4, ([] : List (SObject)), ([] : List (Int)), ([] : List (Int)), ([] : List (SItem)), ([] : List (SWaiting)), ([] : List (SCont)), (0 : Int), (0 : Int), (0 : Int), false, (0 : Int), (0 : Int), (1 : Int), (1 : Int), (1 : Int), ([] : List (Int)), (0 : Int), (-1 : Int)⟩ : SState) (⟨(4 : Int), (0 : Int), (0 : Int), (1 : Int), (3 : Int), (0 : Int), (0 : Int), (0 : Int), (0 : Int), (0 : Int), false, false, (⟨(0 : Int), (0 : Int), (0 : Int)⟩ : A3 (Int))⟩ : SEvent))).bind fun r14 =>
 (some (if b13 = true then !r14 else false)).bind fun b15 =>
 (gd (b15 == true) (event_Decider (⟨l4, ([] : List (SObject)), ([] : List (Int)), ([] : List (Int)), ([] : List (SItem)), ([] : List (SWaiting)), ([] : List (SCont)), (0 : Int), (0 : Int), (0 : Int), false, (0 : Int), (0 : Int), (1 : Int), (1 : Int), (1 : Int), ([] : List (Int)), (0 : Int), (-1 : Int)⟩ : SState) ([] : List (STraits)) (⟨(4 : Int), (0 : Int), (0 : Int), (1 : Int), (3 : Int), (0 : Int), (0 : Int), (0 : Int), (0 : Int), (0 : Int), false, false, (⟨(0 : Int), (0 : Int), (0 : Int)⟩ : A3 (Int))⟩ : SEvent))).bind fun r16 =>
 (some (if b15 = true then r16 == (1 : Int) else false)).bind fun b17 =>
 some b17
def law32_alive_J20 (l1000_8_4_18 : List (SPlayer)) : Option (Bool) :=
 law32_alive_J2 l1000_8_4_18
def law32_alive_J19  (l1000_8_4_18 : List (SPlayer)) : Option (Bool) :=
 (some (if (decide ((0 : Int) ≤ (0 : Int))) = true then decide ((0 : Int) < (if (4 : Int) < (if (2 : Int) < (2 : Int) then (2 : Int) else (2 : Int)) then (4 : Int) else (if (2 : Int) < (2 : Int) then (2 : Int) else (2 : Int)))) else false)).bind fun b21 =>
 (if b21 = true then
  law32_alive_J20 l1000_8_4_18
 else
  law32_alive_J20 l1000_8_4_18)
def law32_alive_B28  (vt9_25 : Int) (l1000_8_4_26 : List (SPlayer)) : Option ((Int × (List (SPlayer))) ⊕ ((List (SPlayer)))) :=
 (if (decide (vt9_25 < (if (4 : Int) < (if (2 : Int) < (2 : Int) then (2 : Int) else (2 : Int)) then (4 : Int) else (if (2 : Int) < (2 : Int) then (2 : Int) else (2 : Int))))) = true then
  (app 152 l1000_8_4_26 ([(⟨(20 : Int), (0 : Int), (0 : Int), (⟨(0 : Int), (0 : Int), (0 : Int), (0 : Int), (0 : Int), (0 : Int)⟩ : A6 (Int)), false, false, ([] : List (Int)), ([] : List (Int)), ([] : List (Int))⟩ : SPlayer)] : List (SPlayer))).bind fun l30 =>
  some (.inl ((wrap64 (vt9_25 + (1 : Int))), l30))
 else
  some (.inr l1000_8_4_26))
/-- cardgame/cardgamelaw32.alive -/
def law32_alive : Option (Bool) :=
 (iter (fun (v : Int × (List (SPlayer))) => law32_alive_B28 v.1 v.2) FU ((0 : Int), ([] : List (SPlayer)))).bind (fun o0 => law32_alive_J19 o0)
def law32_alive_C (r : Bool) : Prop := PCall Tryz.prog I0 8 [] (· = vB r)
theorem law32_alive_ok {r : Bool} (h : law32_alive  = some r) : law32_alive_C r := by
 refine PCall.body I0_stable (by kernel_rfl) Tryz.func8 rfl Tryz.ntmps8 (rs := [.tmp 0]) rfl rfl ?_
 intro w0 av old gv
 unfold law32_alive at h
 refine Rg [.a] (sl 44 [] []) (aN) ?_
 refine Holds.seq ?_
 refine Holds.region ?_
 refine Rp 0 [] (sl 44 [] []) (aN) ?_
 refine Run.inlJ (X := (List (SPlayer))) (fun v => (sl 44 [(4, .agg [.osl [1000, 8, 4], .nils, .nils, .nils, .nils, .nils, .nils, .int .i64 (0 : Int), .int .i64 (0 : Int), .int .i64 (0 : Int), .bool false, .int .i64 (0 : Int), .int .i64 (0 : Int), .int .i64 (1 : Int), .int .i64 (1 : Int), .int .u64 (1 : Int), .nils, .int .i64 (0 : Int), .int .i64 (-1 : Int)])] [rw_ [1000, 8, 4] 51 14 encSPlayer v])) (fun v => law32_alive_J2 v = some r) rfl rfl (Esc.inline (s := True ∧ (True ∧ (True ∧ True))) (vs := [vI (2 : Int), vI (0 : Int), .c (.int .u64 (1 : Int))]) (cs := []) 4 rfl rfl rfl (by kernel_rfl) ⟨trivial, ⟨trivial, ⟨trivial, trivial⟩⟩⟩ (by kernel_rfl) (by kernel_rfl) Tryz.func17 rfl Tryz.ntmps17 (rs := [.cell 6 31]) rfl ?_) ?_
 · intro w00 av0 old0 gv0
   refine At (sg 38 [(0, vI (2 : Int)), (1, vI (0 : Int)), (2, .c (.int .u64 (1 : Int)))] [] 44 [] [4]) ?_
   refine Rg [.a] (sg 38 [(0, vI (2 : Int)), (1, vI (0 : Int)), (2, .c (.int .u64 (1 : Int))), (6, vP [6, 4] (0))] [bx [6, 4] [.nils, .nils, .nils, .nils, .nils, .nils, .nils, .int .i64 (0 : Int), .int .i64 (0 : Int), .int .i64 (0 : Int), .bool false, .int .i64 (0 : Int), .int .i64 (0 : Int), .int .i64 (0 : Int), .int .i64 (0 : Int), .int .u64 (0 : Int), .nils, .int .i64 (0 : Int), .int .i64 (0 : Int)]] 44 [] [4]) (aN) ?_
   refine Rg [.a, .a, .a, .a] (sg 38 [(1, vI (0 : Int)), (2, .c (.int .u64 (1 : Int))), (6, vP [6, 4] (0)), (7, vI (if (4 : Int) < (if (2 : Int) < (2 : Int) then (2 : Int) else (2 : Int)) then (4 : Int) else (if (2 : Int) < (2 : Int) then (2 : Int) else (2 : Int))))] [bx [6, 4] [.nils, .nils, .nils, .nils, .nils, .nils, .nils, .int .i64 (0 : Int), .int .i64 (0 : Int), .int .i64 (0 : Int), .bool false, .int .i64 (0 : Int), .int .i64 (0 : Int), .int .i64 (0 : Int), .int .i64 (0 : Int), .int .u64 (0 : Int), .nils, .int .i64 (0 : Int), .int .i64 (0 : Int)]] 44 [] [4]) (aC (show (True ∧ (True ∧ True)) ∧ True from ⟨⟨trivial, ⟨trivial, trivial⟩⟩, trivial⟩) <| aC (show (True ∧ (True ∧ True)) ∧ True from ⟨⟨trivial, ⟨trivial, trivial⟩⟩, trivial⟩) <| aN) ?_
   refine Rg [.a, .a, .a, .a] (sg 38 [(1, vI (0 : Int)), (6, vP [6, 4] (0)), (7, vI (if (4 : Int) < (if (2 : Int) < (2 : Int) then (2 : Int) else (2 : Int)) then (4 : Int) else (if (2 : Int) < (2 : Int) then (2 : Int) else (2 : Int)))), (8, vP [8, 4] (0))] [bx [8, 4] [.nils, .nils, .nils, .nils, .nils, .nils, .nils, .int .i64 (0 : Int), .int .i64 (0 : Int), .int .i64 (0 : Int), .bool false, .int .i64 (0 : Int), .int .i64 (0 : Int), .int .i64 (1 : Int), .int .i64 (1 : Int), .int .u64 (1 : Int), .nils, .int .i64 (0 : Int), .int .i64 (-1 : Int)], bx [6, 4] [.nils, .nils, .nils, .nils, .nils, .nils, .nils, .int .i64 (0 : Int), .int .i64 (0 : Int), .int .i64 (0 : Int), .bool false, .int .i64 (0 : Int), .int .i64 (0 : Int), .int .i64 (0 : Int), .int .i64 (0 : Int), .int .u64 (0 : Int), .nils, .int .i64 (0 : Int), .int .i64 (0 : Int)]] 44 [] [4]) (aC (And.intro (show True ∧ (True ∧ (True ∧ (True ∧ True))) from ⟨trivial, ⟨trivial, ⟨trivial, ⟨trivial, trivial⟩⟩⟩⟩) okp31) <| aN) ?_
   refine Ow [8, 4] 0 [1000, 8, 4] 51 14 (sg 38 [(1, vI (0 : Int)), (6, vP [6, 4] (0)), (7, vI (if (4 : Int) < (if (2 : Int) < (2 : Int) then (2 : Int) else (2 : Int)) then (4 : Int) else (if (2 : Int) < (2 : Int) then (2 : Int) else (2 : Int)))), (8, vP [8, 4] (0))] [rw_ [1000, 8, 4] 51 14 encSPlayer ([] : List (SPlayer)), bx [8, 4] [.osl [1000, 8, 4], .nils, .nils, .nils, .nils, .nils, .nils, .int .i64 (0 : Int), .int .i64 (0 : Int), .int .i64 (0 : Int), .bool false, .int .i64 (0 : Int), .int .i64 (0 : Int), .int .i64 (1 : Int), .int .i64 (1 : Int), .int .u64 (1 : Int), .nils, .int .i64 (0 : Int), .int .i64 (-1 : Int)], bx [6, 4] [.nils, .nils, .nils, .nils, .nils, .nils, .nils, .int .i64 (0 : Int), .int .i64 (0 : Int), .int .i64 (0 : Int), .bool false, .int .i64 (0 : Int), .int .i64 (0 : Int), .int .i64 (0 : Int), .int .i64 (0 : Int), .int .u64 (0 : Int), .nils, .int .i64 (0 : Int), .int .i64 (0 : Int)]] 44 [] [4]) ?_
   refine Holds.seqJ (X := (List (SPlayer))) (fun v => (sg 38 [(1, vI (0 : Int)), (6, vP [6, 4] (0)), (7, vI (if (4 : Int) < (if (2 : Int) < (2 : Int) then (2 : Int) else (2 : Int)) then (4 : Int) else (if (2 : Int) < (2 : Int) then (2 : Int) else (2 : Int)))), (8, vP [8, 4] (0))] [rw_ [1000, 8, 4] 51 14 encSPlayer v, bx [8, 4] [.osl [1000, 8, 4], .nils, .nils, .nils, .nils, .nils, .nils, .int .i64 (0 : Int), .int .i64 (0 : Int), .int .i64 (0 : Int), .bool false, .int .i64 (0 : Int), .int .i64 (0 : Int), .int .i64 (1 : Int), .int .i64 (1 : Int), .int .u64 (1 : Int), .nils, .int .i64 (0 : Int), .int .i64 (-1 : Int)], bx [6, 4] [.nils, .nils, .nils, .nils, .nils, .nils, .nils, .int .i64 (0 : Int), .int .i64 (0 : Int), .int .i64 (0 : Int), .bool false, .int .i64 (0 : Int), .int .i64 (0 : Int), .int .i64 (0 : Int), .int .i64 (0 : Int), .int .u64 (0 : Int), .nils, .int .i64 (0 : Int), .int .i64 (0 : Int)]] 44 [] [4])) (fun v => law32_alive_J19 v = some r) ?_ ?_
   · refine Rg [.a] (sg 38 [(1, vI (0 : Int)), (6, vP [6, 4] (0)), (7, vI (if (4 : Int) < (if (2 : Int) < (2 : Int) then (2 : Int) else (2 : Int)) then (4 : Int) else (if (2 : Int) < (2 : Int) then (2 : Int) else (2 : Int)))), (8, vP [8, 4] (0)), (9, vI (0 : Int))] [rw_ [1000, 8, 4] 51 14 encSPlayer ([] : List (SPlayer)), bx [8, 4] [.osl [1000, 8, 4], .nils, .nils, .nils, .nils, .nils, .nils, .int .i64 (0 : Int), .int .i64 (0 : Int), .int .i64 (0 : Int), .bool false, .int .i64 (0 : Int), .int .i64 (0 : Int), .int .i64 (1 : Int), .int .i64 (1 : Int), .int .u64 (1 : Int), .nils, .int .i64 (0 : Int), .int .i64 (-1 : Int)], bx [6, 4] [.nils, .nils, .nils, .nils, .nils, .nils, .nils, .int .i64 (0 : Int), .int .i64 (0 : Int), .int .i64 (0 : Int), .bool false, .int .i64 (0 : Int), .int .i64 (0 : Int), .int .i64 (0 : Int), .int .i64 (0 : Int), .int .u64 (0 : Int), .nils, .int .i64 (0 : Int), .int .i64 (0 : Int)]] 44 [] [4]) (aN) ?_
     refine Holds.block ?_
     obtain ⟨oB28, hiB28, h⟩ := bS h
     refine Holds.iter (fun (v : Int × (List (SPlayer))) => (sg 38 [(1, vI (0 : Int)), (6, vP [6, 4] (0)), (7, vI (if (4 : Int) < (if (2 : Int) < (2 : Int) then (2 : Int) else (2 : Int)) then (4 : Int) else (if (2 : Int) < (2 : Int) then (2 : Int) else (2 : Int)))), (8, vP [8, 4] (0)), (9, vI v.1)] [rw_ [1000, 8, 4] 51 14 encSPlayer v.2, bx [8, 4] [.osl [1000, 8, 4], .nils, .nils, .nils, .nils, .nils, .nils, .int .i64 (0 : Int), .int .i64 (0 : Int), .int .i64 (0 : Int), .bool false, .int .i64 (0 : Int), .int .i64 (0 : Int), .int .i64 (1 : Int), .int .i64 (1 : Int), .int .u64 (1 : Int), .nils, .int .i64 (0 : Int), .int .i64 (-1 : Int)], bx [6, 4] [.nils, .nils, .nils, .nils, .nils, .nils, .nils, .int .i64 (0 : Int), .int .i64 (0 : Int), .int .i64 (0 : Int), .bool false, .int .i64 (0 : Int), .int .i64 (0 : Int), .int .i64 (0 : Int), .int .i64 (0 : Int), .int .u64 (0 : Int), .nils, .int .i64 (0 : Int), .int .i64 (0 : Int)]] 44 [] [4])) hiB28 (lT) ?_
     rintro ⟨vt9_25, l1000_8_4_26⟩ zB28 hzB28 hoB28
     replace hzB28 : law32_alive_B28 vt9_25 l1000_8_4_26 = some zB28 := hzB28
     unfold law32_alive_B28 at hzB28
     refine Holds.seq ?_
     refine Rg [.a, .a, .a] (sg 38 [(1, vI (0 : Int)), (6, vP [6, 4] (0)), (7, vI (if (4 : Int) < (if (2 : Int) < (2 : Int) then (2 : Int) else (2 : Int)) then (4 : Int) else (if (2 : Int) < (2 : Int) then (2 : Int) else (2 : Int)))), (8, vP [8, 4] (0)), (9, vI vt9_25), (17, vB (decide (vt9_25 < (if (4 : Int) < (if (2 : Int) < (2 : Int) then (2 : Int) else (2 : Int)) then (4 : Int) else (if (2 : Int) < (2 : Int) then (2 : Int) else (2 : Int))))))] [rw_ [1000, 8, 4] 51 14 encSPlayer l1000_8_4_26, bx [8, 4] [.osl [1000, 8, 4], .nils, .nils, .nils, .nils, .nils, .nils, .int .i64 (0 : Int), .int .i64 (0 : Int), .int .i64 (0 : Int), .bool false, .int .i64 (0 : Int), .int .i64 (0 : Int), .int .i64 (1 : Int), .int .i64 (1 : Int), .int .u64 (1 : Int), .nils, .int .i64 (0 : Int), .int .i64 (-1 : Int)], bx [6, 4] [.nils, .nils, .nils, .nils, .nils, .nils, .nils, .int .i64 (0 : Int), .int .i64 (0 : Int), .int .i64 (0 : Int), .bool false, .int .i64 (0 : Int), .int .i64 (0 : Int), .int .i64 (0 : Int), .int .i64 (0 : Int), .int .u64 (0 : Int), .nils, .int .i64 (0 : Int), .int .i64 (0 : Int)]] 44 [] [4]) (aN) ?_
     refine iB hzB28 (fun b29 hzB28 => ?_) (fun b29 hzB28 => ?_)
     · refine Holds.skip ?_
       refine Tn ?_
       refine Holds.seq ?_
       refine Holds.block ?_
       obtain ⟨l30, hl30, hzB28⟩ := bS hzB28
       refine Re [.a, .a, .a, .a, (.e l30.length (l30.flatMap (encSPlayer))), .a, .a] (sg 38 [(1, vI (0 : Int)), (6, vP [6, 4] (0)), (7, vI (if (4 : Int) < (if (2 : Int) < (2 : Int) then (2 : Int) else (2 : Int)) then (4 : Int) else (if (2 : Int) < (2 : Int) then (2 : Int) else (2 : Int)))), (8, vP [8, 4] (0)), (9, vI vt9_25), (17, vB (decide (vt9_25 < (if (4 : Int) < (if (2 : Int) < (2 : Int) then (2 : Int) else (2 : Int)) then (4 : Int) else (if (2 : Int) < (2 : Int) then (2 : Int) else (2 : Int)))))), (20, vP [8, 4] (0)), (22, .agg [.int .i64 (20 : Int), .int .i64 (0 : Int), .int .i64 (0 : Int), .int .i64 (((⟨(0 : Int), (0 : Int), (0 : Int), (0 : Int), (0 : Int), (0 : Int)⟩ : A6 (Int))).x0), .int .i64 (((⟨(0 : Int), (0 : Int), (0 : Int), (0 : Int), (0 : Int), (0 : Int)⟩ : A6 (Int))).x1), .int .i64 (((⟨(0 : Int), (0 : Int), (0 : Int), (0 : Int), (0 : Int), (0 : Int)⟩ : A6 (Int))).x2), .int .i64 (((⟨(0 : Int), (0 : Int), (0 : Int), (0 : Int), (0 : Int), (0 : Int)⟩ : A6 (Int))).x3), .int .i64 (((⟨(0 : Int), (0 : Int), (0 : Int), (0 : Int), (0 : Int), (0 : Int)⟩ : A6 (Int))).x4), .int .i64 (((⟨(0 : Int), (0 : Int), (0 : Int), (0 : Int), (0 : Int), (0 : Int)⟩ : A6 (Int))).x5), .bool false, .bool false, .nils, .nils, .nils]), (23, vO [23, 4]), (24, vO [1000, 8, 4]), (25, vP [8, 4] (0))] [rw_ [1000, 8, 4] 51 14 encSPlayer l30, rw_ [23, 4] 51 14 encSPlayer ([(⟨(20 : Int), (0 : Int), (0 : Int), (⟨(0 : Int), (0 : Int), (0 : Int), (0 : Int), (0 : Int), (0 : Int)⟩ : A6 (Int)), false, false, ([] : List (Int)), ([] : List (Int)), ([] : List (Int))⟩ : SPlayer)] : List (SPlayer)), bx [8, 4] [.osl [1000, 8, 4], .nils, .nils, .nils, .nils, .nils, .nils, .int .i64 (0 : Int), .int .i64 (0 : Int), .int .i64 (0 : Int), .bool false, .int .i64 (0 : Int), .int .i64 (0 : Int), .int .i64 (1 : Int), .int .i64 (1 : Int), .int .u64 (1 : Int), .nils, .int .i64 (0 : Int), .int .i64 (-1 : Int)], bx [6, 4] [.nils, .nils, .nils, .nils, .nils, .nils, .nils, .int .i64 (0 : Int), .int .i64 (0 : Int), .int .i64 (0 : Int), .bool false, .int .i64 (0 : Int), .int .i64 (0 : Int), .int .i64 (0 : Int), .int .i64 (0 : Int), .int .u64 (0 : Int), .nils, .int .i64 (0 : Int), .int .i64 (0 : Int)]] 44 [] [4]) (aC (And.intro (show True ∧ True from ⟨trivial, trivial⟩) okp51) <| aC (ap1 hl30 encSPlayer) <| aC (app_b hl30) <| aN) ?_
       refine blockQ.normal ?_
       refine Tn ?_
       refine Re [.a, .a, .a] (sg 38 [(1, vI (0 : Int)), (6, vP [6, 4] (0)), (7, vI (if (4 : Int) < (if (2 : Int) < (2 : Int) then (2 : Int) else (2 : Int)) then (4 : Int) else (if (2 : Int) < (2 : Int) then (2 : Int) else (2 : Int)))), (8, vP [8, 4] (0)), (9, vI (wrap64 (vt9_25 + (1 : Int)))), (17, vB (decide (vt9_25 < (if (4 : Int) < (if (2 : Int) < (2 : Int) then (2 : Int) else (2 : Int)) then (4 : Int) else (if (2 : Int) < (2 : Int) then (2 : Int) else (2 : Int)))))), (18, vI vt9_25), (19, vI (wrap64 (vt9_25 + (1 : Int)))), (20, vP [8, 4] (0)), (22, .agg [.int .i64 (20 : Int), .int .i64 (0 : Int), .int .i64 (0 : Int), .int .i64 (((⟨(0 : Int), (0 : Int), (0 : Int), (0 : Int), (0 : Int), (0 : Int)⟩ : A6 (Int))).x0), .int .i64 (((⟨(0 : Int), (0 : Int), (0 : Int), (0 : Int), (0 : Int), (0 : Int)⟩ : A6 (Int))).x1), .int .i64 (((⟨(0 : Int), (0 : Int), (0 : Int), (0 : Int), (0 : Int), (0 : Int)⟩ : A6 (Int))).x2), .int .i64 (((⟨(0 : Int), (0 : Int), (0 : Int), (0 : Int), (0 : Int), (0 : Int)⟩ : A6 (Int))).x3), .int .i64 (((⟨(0 : Int), (0 : Int), (0 : Int), (0 : Int), (0 : Int), (0 : Int)⟩ : A6 (Int))).x4), .int .i64 (((⟨(0 : Int), (0 : Int), (0 : Int), (0 : Int), (0 : Int), (0 : Int)⟩ : A6 (Int))).x5), .bool false, .bool false, .nils, .nils, .nils]), (23, vO [23, 4]), (24, vO [1000, 8, 4]), (25, vP [8, 4] (0))] [rw_ [1000, 8, 4] 51 14 encSPlayer l30, rw_ [23, 4] 51 14 encSPlayer ([(⟨(20 : Int), (0 : Int), (0 : Int), (⟨(0 : Int), (0 : Int), (0 : Int), (0 : Int), (0 : Int), (0 : Int)⟩ : A6 (Int)), false, false, ([] : List (Int)), ([] : List (Int)), ([] : List (Int))⟩ : SPlayer)] : List (SPlayer)), bx [8, 4] [.osl [1000, 8, 4], .nils, .nils, .nils, .nils, .nils, .nils, .int .i64 (0 : Int), .int .i64 (0 : Int), .int .i64 (0 : Int), .bool false, .int .i64 (0 : Int), .int .i64 (0 : Int), .int .i64 (1 : Int), .int .i64 (1 : Int), .int .u64 (1 : Int), .nils, .int .i64 (0 : Int), .int .i64 (-1 : Int)], bx [6, 4] [.nils, .nils, .nils, .nils, .nils, .nils, .nils, .int .i64 (0 : Int), .int .i64 (0 : Int), .int .i64 (0 : Int), .bool false, .int .i64 (0 : Int), .int .i64 (0 : Int), .int .i64 (0 : Int), .int .i64 (0 : Int), .int .u64 (0 : Int), .nils, .int .i64 (0 : Int), .int .i64 (0 : Int)]] 44 [] [4]) (aN) ?_
       refine Tn ⟨((wrap64 (vt9_25 + (1 : Int))), l30), (sI hzB28).symm, lT⟩
     · refine Holds.exit ?_
       refine thenQ.exit ?_
       have hoB28_ := hoB28 _ (sI hzB28).symm
       subst hoB28_
       refine thenQ.exit ?_
       refine blockQ.out ?_
       refine Tn ⟨l1000_8_4_26, h, lT⟩
   · rintro l1000_8_4_18 hJ19
     replace hJ19 : law32_alive_J19 l1000_8_4_18 = some r := hJ19
     unfold law32_alive_J19 at hJ19
     refine Holds.seqJ (X := Unit) (fun v => (sg 38 [(6, vP [6, 4] (0)), (8, vP [8, 4] (0))] [rw_ [1000, 8, 4] 51 14 encSPlayer l1000_8_4_18, bx [8, 4] [.osl [1000, 8, 4], .nils, .nils, .nils, .nils, .nils, .nils, .int .i64 (0 : Int), .int .i64 (0 : Int), .int .i64 (0 : Int), .bool false, .int .i64 (0 : Int), .int .i64 (0 : Int), .int .i64 (1 : Int), .int .i64 (1 : Int), .int .u64 (1 : Int), .nils, .int .i64 (0 : Int), .int .i64 (-1 : Int)], bx [6, 4] [.nils, .nils, .nils, .nils, .nils, .nils, .nils, .int .i64 (0 : Int), .int .i64 (0 : Int), .int .i64 (0 : Int), .bool false, .int .i64 (0 : Int), .int .i64 (0 : Int), .int .i64 (0 : Int), .int .i64 (0 : Int), .int .u64 (0 : Int), .nils, .int .i64 (0 : Int), .int .i64 (0 : Int)]] 44 [] [4])) (fun v => law32_alive_J20 l1000_8_4_18 = some r) ?_ ?_
     · obtain ⟨b21, hb21, hJ19⟩ := bS hJ19
       refine Rg [.a, .a, .a, .a, .a, .a, (.v (vB b21))] (sg 38 [(1, vI (0 : Int)), (6, vP [6, 4] (0)), (8, vP [8, 4] (0)), (32, vB b21)] [rw_ [1000, 8, 4] 51 14 encSPlayer l1000_8_4_18, bx [8, 4] [.osl [1000, 8, 4], .nils, .nils, .nils, .nils, .nils, .nils, .int .i64 (0 : Int), .int .i64 (0 : Int), .int .i64 (0 : Int), .bool false, .int .i64 (0 : Int), .int .i64 (0 : Int), .int .i64 (1 : Int), .int .i64 (1 : Int), .int .u64 (1 : Int), .nils, .int .i64 (0 : Int), .int .i64 (-1 : Int)], bx [6, 4] [.nils, .nils, .nils, .nils, .nils, .nils, .nils, .int .i64 (0 : Int), .int .i64 (0 : Int), .int .i64 (0 : Int), .bool false, .int .i64 (0 : Int), .int .i64 (0 : Int), .int .i64 (0 : Int), .int .i64 (0 : Int), .int .u64 (0 : Int), .nils, .int .i64 (0 : Int), .int .i64 (0 : Int)]] 44 [] [4]) (aH ((decide ((0 : Int) ≤ (0 : Int))) == true) <| aT (decide ((0 : Int) ≤ (0 : Int))) <| aB hb21 <| aN) ?_
       refine iB hJ19 (fun b22 hJ19 => ?_) (fun b22 hJ19 => ?_)
       · refine Rg [.a, .a, .a] (sg 38 [(1, vI (0 : Int)), (6, vP [6, 4] (0)), (8, vP [8, 4] (0))] [rw_ [1000, 8, 4] 51 14 encSPlayer l1000_8_4_18, bx [8, 4] [.osl [1000, 8, 4], .nils, .nils, .nils, .nils, .nils, .nils, .int .i64 (0 : Int), .int .i64 (0 : Int), .int .i64 (0 : Int), .bool false, .int .i64 (0 : Int), .int .i64 (0 : Int), .int .i64 (1 : Int), .int .i64 (1 : Int), .int .u64 (1 : Int), .nils, .int .i64 (0 : Int), .int .i64 (-1 : Int)], bx [6, 4] [.nils, .nils, .nils, .nils, .nils, .nils, .nils, .int .i64 (0 : Int), .int .i64 (0 : Int), .int .i64 (0 : Int), .bool false, .int .i64 (0 : Int), .int .i64 (0 : Int), .int .i64 (0 : Int), .int .i64 (0 : Int), .int .u64 (0 : Int), .nils, .int .i64 (0 : Int), .int .i64 (0 : Int)]] 44 [] [4]) (aN) ?_
         refine Re [.a, .a, .a] (sg 38 [(1, vI (0 : Int)), (6, vP [6, 4] (0)), (8, vP [8, 4] (0)), (35, vI (0 : Int)), (36, vP [8, 4] (11))] [rw_ [1000, 8, 4] 51 14 encSPlayer l1000_8_4_18, bx [8, 4] [.osl [1000, 8, 4], .nils, .nils, .nils, .nils, .nils, .nils, .int .i64 (0 : Int), .int .i64 (0 : Int), .int .i64 (0 : Int), .bool false, .int .i64 (0 : Int), .int .i64 (0 : Int), .int .i64 (1 : Int), .int .i64 (1 : Int), .int .u64 (1 : Int), .nils, .int .i64 (0 : Int), .int .i64 (-1 : Int)], bx [6, 4] [.nils, .nils, .nils, .nils, .nils, .nils, .nils, .int .i64 (0 : Int), .int .i64 (0 : Int), .int .i64 (0 : Int), .bool false, .int .i64 (0 : Int), .int .i64 (0 : Int), .int .i64 (0 : Int), .int .i64 (0 : Int), .int .u64 (0 : Int), .nils, .int .i64 (0 : Int), .int .i64 (0 : Int)]] 44 [] [4]) (aN) ?_
         refine Tn ⟨(), hJ19, lT⟩
       · refine Holds.skip ?_
         refine Tn ⟨(), hJ19, lT⟩
     · rintro _ hJ20
       replace hJ20 : law32_alive_J20 l1000_8_4_18 = some r := hJ20
       unfold law32_alive_J20 at hJ20
       refine Rg [.a, .a] (sg 38 [(6, vP [6, 4] (0))] [rw_ [1000, 8, 4] 51 14 encSPlayer l1000_8_4_18, bx [6, 4] [.osl [1000, 8, 4], .nils, .nils, .nils, .nils, .nils, .nils, .int .i64 (0 : Int), .int .i64 (0 : Int), .int .i64 (0 : Int), .bool false, .int .i64 (0 : Int), .int .i64 (0 : Int), .int .i64 (1 : Int), .int .i64 (1 : Int), .int .u64 (1 : Int), .nils, .int .i64 (0 : Int), .int .i64 (-1 : Int)]] 44 [] [4]) (aN) ?_
       refine Holds.ret ?_
       refine inQ.ret (v := .agg [.osl [1000, 8, 4], .nils, .nils, .nils, .nils, .nils, .nils, .int .i64 (0 : Int), .int .i64 (0 : Int), .int .i64 (0 : Int), .bool false, .int .i64 (0 : Int), .int .i64 (0 : Int), .int .i64 (1 : Int), .int .i64 (1 : Int), .int .u64 (1 : Int), .nils, .int .i64 (0 : Int), .int .i64 (-1 : Int)]) (by kernel_rfl) ⟨l1000_8_4_18, hJ20, lT⟩
 · rintro l1000_8_4_1 hJ2
   replace hJ2 : law32_alive_J2 l1000_8_4_1 = some r := hJ2
   unfold law32_alive_J2 at hJ2
   refine Rw [.a, .a] (sl 44 [(1, vP [1] (0)), (4, .agg [.osl [1000, 8, 4], .nils, .nils, .nils, .nils, .nils, .nils, .int .i64 (0 : Int), .int .i64 (0 : Int), .int .i64 (0 : Int), .bool false, .int .i64 (0 : Int), .int .i64 (0 : Int), .int .i64 (1 : Int), .int .i64 (1 : Int), .int .u64 (1 : Int), .nils, .int .i64 (0 : Int), .int .i64 (-1 : Int)])] [bx [1] [.osl [1000, 8, 4], .nils, .nils, .nils, .nils, .nils, .nils, .int .i64 (0 : Int), .int .i64 (0 : Int), .int .i64 (0 : Int), .bool false, .int .i64 (0 : Int), .int .i64 (0 : Int), .int .i64 (1 : Int), .int .i64 (1 : Int), .int .u64 (1 : Int), .nils, .int .i64 (0 : Int), .int .i64 (-1 : Int)], rw_ [1000, 8, 4] 51 14 encSPlayer l1000_8_4_1]) (aN) ?_
   refine Tn ?_
   obtain ⟨e3, he3, hJ2⟩ := bS hJ2
   obtain ⟨l4, hl4, hJ2⟩ := bS hJ2
   refine Rg [.a, .a, .a, .a, (.e l4.length (l4.flatMap (encSPlayer)))] (sl 44 [(1, vP [1] (0))] [bx [1] [.osl [1000, 8, 4], .nils, .nils, .nils, .nils, .nils, .nils, .int .i64 (0 : Int), .int .i64 (0 : Int), .int .i64 (0 : Int), .bool false, .int .i64 (0 : Int), .int .i64 (0 : Int), .int .i64 (1 : Int), .int .i64 (1 : Int), .int .u64 (1 : Int), .nils, .int .i64 (0 : Int), .int .i64 (-1 : Int)], rw_ [1000, 8, 4] 51 14 encSPlayer l4]) (aC (idx_b he3) <| aC (show ((1 : Int)).toNat * 14 + 10 + 1 ≤ (l1000_8_4_1.flatMap (encSPlayer)).length ∧ (l1000_8_4_1.flatMap (encSPlayer)).take (((1 : Int)).toNat * 14 + 10) ++ ([.bool true] : List C) ++ (l1000_8_4_1.flatMap (encSPlayer)).drop (((1 : Int)).toNat * 14 + 10 + ([.bool true] : List C).length) = l4.flatMap (encSPlayer) from (by rw [← sI hl4]; exact arr_st (e := encSPlayer) (N := 14) (l := l1000_8_4_1) (i := (1 : Int)) (x' := ({ e3 with Lost := true })) (o := 10) (base := 0) (cs := ([.bool true] : List C)) (pre := []) (post := []) (by simp) rfl (by simp) rfl he3 lenSPlayer (by omega) (Nat.le_of_ble_eq_true (by kernel_rfl)) (by kernel_rfl))) <| aC (show ((some (51, 14, l4.length) : Option (TypeId × Nat × Nat)) = some (51, 14, l1000_8_4_1.length)) ∧ True from ⟨by rw [← sI hl4, List.length_set], trivial⟩) <| aN) ?_
   refine Rg [.a, .a, .a] (sl 44 [(1, vP [1] (0)), (2, vP [2] (0))] [bx [2] [.int .i64 (4 : Int), .int .i64 (0 : Int), .int .i64 (0 : Int), .int .i64 (0 : Int), .int .i64 (3 : Int), .int .i64 (0 : Int), .int .i64 (0 : Int), .int .i64 (0 : Int), .int .i64 (0 : Int), .int .i64 (0 : Int), .bool false, .bool false, .int .i64 (((⟨(0 : Int), (0 : Int), (0 : Int)⟩ : A3 (Int))).x0), .int .i64 (((⟨(0 : Int), (0 : Int), (0 : Int)⟩ : A3 (Int))).x1), .int .i64 (((⟨(0 : Int), (0 : Int), (0 : Int)⟩ : A3 (Int))).x2)], bx [1] [.osl [1000, 8, 4], .nils, .nils, .nils, .nils, .nils, .nils, .int .i64 (0 : Int), .int .i64 (0 : Int), .int .i64 (0 : Int), .bool false, .int .i64 (0 : Int), .int .i64 (0 : Int), .int .i64 (1 : Int), .int .i64 (1 : Int), .int .u64 (1 : Int), .nils, .int .i64 (0 : Int), .int .i64 (-1 : Int)], rw_ [1000, 8, 4] 51 14 encSPlayer l4]) (aC (And.intro (show True ∧ (True ∧ (True ∧ True)) from ⟨trivial, ⟨trivial, ⟨trivial, trivial⟩⟩⟩) okp34) <| aN) ?_
   refine Rg [.a, .a, .a] (sl 44 [(1, vP [1] (0)), (2, vP [2] (0)), (3, vP [3] (0))] [bx [3] [.int .i64 (4 : Int), .int .i64 (0 : Int), .int .i64 (0 : Int), .int .i64 (1 : Int), .int .i64 (3 : Int), .int .i64 (0 : Int), .int .i64 (0 : Int), .int .i64 (0 : Int), .int .i64 (0 : Int), .int .i64 (0 : Int), .bool false, .bool false, .int .i64 (((⟨(0 : Int), (0 : Int), (0 : Int)⟩ : A3 (Int))).x0), .int .i64 (((⟨(0 : Int), (0 : Int), (0 : Int)⟩ : A3 (Int))).x1), .int .i64 (((⟨(0 : Int), (0 : Int), (0 : Int)⟩ : A3 (Int))).x2)], bx [2] [.int .i64 (4 : Int), .int .i64 (0 : Int), .int .i64 (0 : Int), .int .i64 (0 : Int), .int .i64 (3 : Int), .int .i64 (0 : Int), .int .i64 (0 : Int), .int .i64 (0 : Int), .int .i64 (0 : Int), .int .i64 (0 : Int), .bool false, .bool false, .int .i64 (((⟨(0 : Int), (0 : Int), (0 : Int)⟩ : A3 (Int))).x0), .int .i64 (((⟨(0 : Int), (0 : Int), (0 : Int)⟩ : A3 (Int))).x1), .int .i64 (((⟨(0 : Int), (0 : Int), (0 : Int)⟩ : A3 (Int))).x2)], bx [1] [.osl [1000, 8, 4], .nils, .nils, .nils, .nils, .nils, .nils, .int .i64 (0 : Int), .int .i64 (0 : Int), .int .i64 (0 : Int), .bool false, .int .i64 (0 : Int), .int .i64 (0 : Int), .int .i64 (1 : Int), .int .i64 (1 : Int), .int .u64 (1 : Int), .nils, .int .i64 (0 : Int), .int .i64 (-1 : Int)], rw_ [1000, 8, 4] 51 14 encSPlayer l4]) (aC (And.intro (show True ∧ (True ∧ (True ∧ True)) from ⟨trivial, ⟨trivial, ⟨trivial, trivial⟩⟩⟩) okp34) <| aN) ?_
   obtain ⟨r5, hr5, hJ2⟩ := bS hJ2
   obtain ⟨r6, hr6, hJ2⟩ := bS hJ2
   obtain ⟨b7, hb7, hJ2⟩ := bS hJ2
   obtain ⟨r8, hr8, hJ2⟩ := bS hJ2
   obtain ⟨b9, hb9, hJ2⟩ := bS hJ2
   obtain ⟨r10, hr10, hJ2⟩ := bS hJ2
   obtain ⟨b11, hb11, hJ2⟩ := bS hJ2
   obtain ⟨r12, hr12, hJ2⟩ := bS hJ2
   obtain ⟨b13, hb13, hJ2⟩ := bS hJ2
   obtain ⟨r14, hr14, hJ2⟩ := bS hJ2
   obtain ⟨b15, hb15, hJ2⟩ := bS hJ2
   obtain ⟨r16, hr16, hJ2⟩ := bS hJ2
   obtain ⟨b17, hb17, hJ2⟩ := bS hJ2
   refine Rg [.a, (.c (vS r5)), .a, .a, .a, (.c (vS r6)), .a, (.v (vB b7)), .a, (.c (vS r8)), .a, (.v (vB b9)), .a, (.c (vS r10)), .a, (.v (vB b11)), .a, .a, .a, (.c (vB r12)), (.v (vB b13)), .a, .a, .a, (.c (vB r14)), .a, (.v (vB b15)), .a, .a, .a, (.c (vI r16)), .a, (.v (vB b17)), .a] (sl 44 [(0, vB b17)] []) (aC (And.intro (show True ∧ (True ∧ (True ∧ True)) from ⟨trivial, ⟨trivial, ⟨trivial, trivial⟩⟩⟩) okp34) <| aC (event_Text_ok hr5) <| aC (fun hg : ((r5 == str_gain_0_0_1_3_0_0_0_0_0) == true) = true => aC (And.intro (show True ∧ True from ⟨trivial, trivial⟩) okp34) <| aN) <| aC (c1 hr6 event_Text_ok) <| aG ((r5 == str_gain_0_0_1_3_0_0_0_0_0) == true) <| aT (r5 == str_gain_0_0_1_3_0_0_0_0_0) <| aB hb7 <| aC (c0 hr8 event_Name_ok) <| aG (b7 == true) <| aT b7 <| aB hb9 <| aC (c0 hr10 event_Name_ok) <| aG (b9 == true) <| aT b9 <| aB hb11 <| aC (c2 hr12 event_Is_ok) <| aT b11 <| aB hb13 <| aC (c2 hr14 event_Is_ok) <| aG (b13 == true) <| aT b13 <| aB hb15 <| aC (c2 hr16 event_Decider_ok) <| aG (b15 == true) <| aT b15 <| aB hb17 <| aN) ?_
   refine Holds.ret ?_
   exact bQ (vB b17) (congrArg vB (sI hJ2))
end Go.PL
