/- Functions of the program, as partial functions in Lean, with proofs. -/
import Derived.Test.YtedobbmpljbccaaGreatDoorPlDkB
import Derived.Test.YtedobbmpljbccaaGreatDoorPlDkF1
import Derived.Test.YtedobbmpljbccaaGreatDoorPlDkF16
import Derived.Test.YtedobbmpljbccaaGreatDoorPlDkF2
import Derived.Test.YtedobbmpljbccaaGreatDoorPlDkF3
import Derived.Test.YtedobbmpljbccaaGreatDoorPlDkF4
import Derived.Test.YtedobbmpljbccaaGreatDoorPlDkF6
namespace Go.PL
open Go Go.RowKit Go.Proofs
set_option maxRecDepth 100000
set_option linter.all false
set_option maxHeartbeats 1000000
attribute [local irreducible] Holds thenQ blockQ
def law23_DeckWhole_J14  : Option (Bool) :=
 (law23_alive).bind fun r15 =>
 some r15
def law23_DeckWhole_J20 (vt63_17 : Int) : Option ((Int) ⊕ (Unit ⊕ Unit)) :=
 some (.inl (wrap64 (vt63_17 + (1 : Int))))
def law23_DeckWhole_J23 (a0 : SAsk) (vt63_17 : Int) (e21 : Int) (n_t6_22 : Int) : Option ((Int) ⊕ (Unit ⊕ Unit)) :=
 (idx a0.Deck.Counts vt63_17).bind fun e24 =>
 (gd ((n_t6_22 != e24) == false) (idx a0.Cards e21)).bind fun e25 =>
 (some (if ((bAnd .i64 e25.Line.Super (1 : Int)) == (0 : Int)) = true then decide (a0.Format.Copies < n_t6_22) else false)).bind fun b26 =>
 (some (if (n_t6_22 != e24) = true then true else b26)).bind fun b27 =>
 (if b27 = true then
  some (.inr (.inl ()))
 else
  law23_DeckWhole_J20 vt63_17)
def law23_DeckWhole_J37 (vt70_32 : Int) (n_t6_36 : Int) : Option ((Int × Int) ⊕ (Int)) :=
 some (.inl (n_t6_36, (wrap64 (vt70_32 + (1 : Int)))))
def law23_DeckWhole_B34 (r8 : (List (Int))) (e21 : Int) (n_t6_31 : Int) (vt70_32 : Int) : Option ((Int × Int) ⊕ (Int)) :=
 (if (decide (vt70_32 < (r8.length : Int))) = true then
  (idx r8 vt70_32).bind fun e38 =>
  (if (e38 == e21) = true then
   law23_DeckWhole_J37 vt70_32 (wrap64 (n_t6_31 + (1 : Int)))
  else
   law23_DeckWhole_J37 vt70_32 n_t6_31)
 else
  some (.inr n_t6_31))
def law23_DeckWhole_B18 (a0 : SAsk) (r8 : (List (Int))) (vt63_17 : Int) : Option ((Int) ⊕ (Unit ⊕ Unit)) :=
 (if (decide (vt63_17 < (a0.Deck.Cards.length : Int))) = true then
  (idx a0.Deck.Cards vt63_17).bind fun e21 =>
  (iter (fun (v : Int × Int) => law23_DeckWhole_B34 r8 e21 v.1 v.2) FU ((0 : Int), (0 : Int))).bind (fun o0 => law23_DeckWhole_J23 a0 vt63_17 e21 o0)
 else
  some (.inr (.inr ())))
/-- cardgame/cardgamelaw23.DeckWhole -/
def law23_DeckWhole (a0 : SAsk) : Option (Bool) :=
 (law23_small a0).bind fun r1 =>
 (gd ((!r1) == false) (deck_Check a0.Cards a0.Deck a0.Format)).bind fun r2 =>
 (some (if (!r1) = true then true else r2 != (0 : Int))).bind fun b3 =>
 (if b3 = true then
  (law23_alive).bind fun r5 =>
  some r5
 else
  (r23_Formed a0.Cards a0.Deck).bind fun r6 =>
  (if (!r6) = true then
   some false
  else
   (deck_List a0.Deck).bind fun r8 =>
   (deck_Size a0.Deck).bind fun r9 =>
   (some (if ((r8.length : Int) != r9) = true then true else decide ((r8.length : Int) < a0.Format.Least))).bind fun b10 =>
   (some (if b10 = true then true else decide (a0.Format.Most < (r8.length : Int)))).bind fun b11 =>
   (some (if b11 = true then true else decide ((250 : Int) < (r8.length : Int)))).bind fun b12 =>
   (if b12 = true then
    some false
   else
    (iter (fun (v : Int) => law23_DeckWhole_B18 a0 r8 v) FU (0 : Int)).bind (Sum.elim (fun o0 => some false) (fun o1 => law23_DeckWhole_J14)))))
def law23_DeckWhole_C (a0 : SAsk) (r : Bool) : Prop := PCall Tryz.prog I0 6 [vA encSAsk a0] (· = vB r)
theorem law23_DeckWhole_ok {a0 : SAsk} {r : Bool} (h : law23_DeckWhole a0 = some r) : law23_DeckWhole_C a0 r := by
 refine PCall.body I0_stable (by kernel_rfl) Tryz.func6 rfl Tryz.ntmps6 (rs := [.tmp 2]) rfl rfl ?_
 intro w0 av old gv
 unfold law23_DeckWhole at h
 refine Rg [.a, .a] (sl 108 [(1, vP [1] (0))] [bx [1] (encSAsk a0)]) (aN) ?_
 refine Holds.seq ?_
 obtain ⟨r1, hr1, h⟩ := bS h
 obtain ⟨r2, hr2, h⟩ := bS h
 obtain ⟨b3, hb3, h⟩ := bS h
 refine Rg [.a, (.c (vB r1)), .a, .a, .a, .a, .a, .a, .a, .a, (.c (vI r2)), .a, (.v (vB b3))] (sl 108 [(1, vP [1] (0)), (21, vB b3)] [bx [1] (encSAsk a0)]) (aC (law23_small_ok hr1) <| aG ((!r1) == false) <| aG ((!r1) == false) <| aG ((!r1) == false) <| aC (c3 hr2 deck_Check_ok) <| aG ((!r1) == false) <| aF (!r1) <| aB hb3 <| aN) ?_
 refine iB h (fun b4 h => ?_) (fun b4 h => ?_)
 · obtain ⟨r5, hr5, h⟩ := bS h
   refine Rg [(.c (vB r5)), .a] (sl 108 [(2, vB r5)] []) (aC (law23_alive_ok hr5) <| aN) ?_
   refine Holds.ret ?_
   refine Tr ?_
   exact bQ (vB r5) (congrArg vB (sI h))
 · refine Holds.skip ?_
   refine Tn ?_
   refine Holds.seq ?_
   obtain ⟨r6, hr6, h⟩ := bS h
   refine Rg [.a, .a, .a, .a, (.c (vB r6)), .a] (sl 108 [(1, vP [1] (0)), (28, vB (!r6))] [bx [1] (encSAsk a0)]) (aC (r23_Formed_ok hr6) <| aN) ?_
   refine iB h (fun b7 h => ?_) (fun b7 h => ?_)
   · refine Rg [.a] (sl 108 [(2, vB false)] []) (aN) ?_
     refine Holds.ret ?_
     refine Tr ?_
     exact bQ (vB false) (congrArg vB (sI h))
   · refine Holds.skip ?_
     refine Tn ?_
     obtain ⟨r8, hr8, h⟩ := bS h
     refine Rg [.a, .a, (.c (vL (eI .i64) r8)), .a] (sl 108 [(1, vP [1] (0)), (3, vL (eI .i64) r8)] [bx [1] (encSAsk a0)]) (aC (deck_List_ok hr8) <| aN) ?_
     refine Holds.seq ?_
     obtain ⟨r9, hr9, h⟩ := bS h
     obtain ⟨b10, hb10, h⟩ := bS h
     obtain ⟨b11, hb11, h⟩ := bS h
     obtain ⟨b12, hb12, h⟩ := bS h
     refine Rg [.a, .a, .a, .a, (.c (vI r9)), .a, .a, .a, .a, .a, .a, .a, .a, (.v (vB b10)), .a, .a, .a, .a, .a, .a, .a, (.v (vB b11)), .a, .a, .a, .a, (.v (vB b12))] (sl 108 [(1, vP [1] (0)), (3, vL (eI .i64) r8), (58, vB b12)] [bx [1] (encSAsk a0)]) (aC (deck_Size_ok hr9) <| aG (((r8.length : Int) != r9) == false) <| aG (((r8.length : Int) != r9) == false) <| aG (((r8.length : Int) != r9) == false) <| aH (((r8.length : Int) != r9) == false) <| aF ((r8.length : Int) != r9) <| aB hb10 <| aG (b10 == false) <| aG (b10 == false) <| aG (b10 == false) <| aH (b10 == false) <| aF b10 <| aB hb11 <| aG (b11 == false) <| aG (b11 == false) <| aF b11 <| aB hb12 <| aN) ?_
     refine iB h (fun b13 h => ?_) (fun b13 h => ?_)
     · refine Rg [.a] (sl 108 [(2, vB false)] []) (aN) ?_
       refine Holds.ret ?_
       refine Tr ?_
       exact bQ (vB false) (congrArg vB (sI h))
     · refine Holds.skip ?_
       refine Tn ?_
       refine Sj (X := Unit) (fun v => (sl 108 [] [])) (fun v => law23_DeckWhole_J14 = some r) ?_ ?_
       · refine Rg [.a, .a, .a, .a, .a] (sl 108 [(1, vP [1] (0)), (3, vL (eI .i64) r8), (61, vL (eI .i64) a0.Deck.Cards), (62, vI (a0.Deck.Cards.length : Int)), (63, vI (0 : Int))] [bx [1] (encSAsk a0)]) (aN) ?_
         refine Holds.block ?_
         obtain ⟨oB18, hiB18, h⟩ := bS h
         refine It (fun (v : Int) => (sl 108 [(1, vP [1] (0)), (3, vL (eI .i64) r8), (61, vL (eI .i64) a0.Deck.Cards), (62, vI (a0.Deck.Cards.length : Int)), (63, vI v)] [bx [1] (encSAsk a0)])) hiB18 (wT) ?_
         rintro vt63_17 zB18 hzB18 hoB18
         replace hzB18 : law23_DeckWhole_B18 a0 r8 vt63_17 = some zB18 := hzB18
         unfold law23_DeckWhole_B18 at hzB18
         refine Rg [.a] (sl 108 [(1, vP [1] (0)), (3, vL (eI .i64) r8), (61, vL (eI .i64) a0.Deck.Cards), (62, vI (a0.Deck.Cards.length : Int)), (63, vI vt63_17), (64, vB (decide (vt63_17 < (a0.Deck.Cards.length : Int))))] [bx [1] (encSAsk a0)]) (aN) ?_
         refine Holds.seq ?_
         refine iB hzB18 (fun b19 hzB18 => ?_) (fun b19 hzB18 => ?_)
         · refine Holds.skip ?_
           refine Tn ?_
           refine Sj (X := Unit) (fun v => (sl 108 [(1, vP [1] (0)), (3, vL (eI .i64) r8), (61, vL (eI .i64) a0.Deck.Cards), (62, vI (a0.Deck.Cards.length : Int)), (63, vI vt63_17)] [bx [1] (encSAsk a0)])) (fun v => law23_DeckWhole_J20 vt63_17 = some zB18) ?_ ?_
           · refine Holds.block ?_
             obtain ⟨e21, he21, hzB18⟩ := bS hzB18
             refine Rg [.a, .a, (.v (vI e21)), .a, .a] (sl 108 [(1, vP [1] (0)), (3, vL (eI .i64) r8), (4, vI vt63_17), (5, vI e21), (61, vL (eI .i64) a0.Deck.Cards), (62, vI (a0.Deck.Cards.length : Int)), (63, vI vt63_17)] [bx [1] (encSAsk a0)]) (aC (idx_b he21) <| aC (eld he21 (lenI .i64) 0 1 false (vI e21)) <| aC (Eq.refl (vI e21)) <| aN) ?_
             refine Rg [.a] (sl 108 [(1, vP [1] (0)), (3, vL (eI .i64) r8), (4, vI vt63_17), (5, vI e21), (6, vI (0 : Int)), (61, vL (eI .i64) a0.Deck.Cards), (62, vI (a0.Deck.Cards.length : Int)), (63, vI vt63_17)] [bx [1] (encSAsk a0)]) (aN) ?_
             refine Sj (X := Int) (fun v => (sl 108 [(1, vP [1] (0)), (3, vL (eI .i64) r8), (4, vI vt63_17), (5, vI e21), (6, vI v), (61, vL (eI .i64) a0.Deck.Cards), (62, vI (a0.Deck.Cards.length : Int)), (63, vI vt63_17)] [bx [1] (encSAsk a0)])) (fun v => law23_DeckWhole_J23 a0 vt63_17 e21 v = some zB18) ?_ ?_
             · refine Rg [.a, .a, .a] (sl 108 [(1, vP [1] (0)), (3, vL (eI .i64) r8), (4, vI vt63_17), (5, vI e21), (6, vI (0 : Int)), (61, vL (eI .i64) a0.Deck.Cards), (62, vI (a0.Deck.Cards.length : Int)), (63, vI vt63_17), (68, vL (eI .i64) r8), (69, vI (r8.length : Int)), (70, vI (0 : Int))] [bx [1] (encSAsk a0)]) (aN) ?_
               refine Holds.block ?_
               obtain ⟨oB34, hiB34, hzB18⟩ := bS hzB18
               refine It (fun (v : Int × Int) => (sl 108 [(1, vP [1] (0)), (3, vL (eI .i64) r8), (4, vI vt63_17), (5, vI e21), (6, vI v.1), (61, vL (eI .i64) a0.Deck.Cards), (62, vI (a0.Deck.Cards.length : Int)), (63, vI vt63_17), (68, vL (eI .i64) r8), (69, vI (r8.length : Int)), (70, vI v.2)] [bx [1] (encSAsk a0)])) hiB34 (wT) ?_
               rintro ⟨n_t6_31, vt70_32⟩ zB34 hzB34 hoB34
               replace hzB34 : law23_DeckWhole_B34 r8 e21 n_t6_31 vt70_32 = some zB34 := hzB34
               unfold law23_DeckWhole_B34 at hzB34
               refine Rg [.a] (sl 108 [(1, vP [1] (0)), (3, vL (eI .i64) r8), (4, vI vt63_17), (5, vI e21), (6, vI n_t6_31), (61, vL (eI .i64) a0.Deck.Cards), (62, vI (a0.Deck.Cards.length : Int)), (63, vI vt63_17), (68, vL (eI .i64) r8), (69, vI (r8.length : Int)), (70, vI vt70_32), (71, vB (decide (vt70_32 < (r8.length : Int))))] [bx [1] (encSAsk a0)]) (aN) ?_
               refine Holds.seq ?_
               refine iB hzB34 (fun b35 hzB34 => ?_) (fun b35 hzB34 => ?_)
               · refine Holds.skip ?_
                 refine Tn ?_
                 refine Sj (X := Int) (fun v => (sl 108 [(1, vP [1] (0)), (3, vL (eI .i64) r8), (4, vI vt63_17), (5, vI e21), (6, vI v), (61, vL (eI .i64) a0.Deck.Cards), (62, vI (a0.Deck.Cards.length : Int)), (63, vI vt63_17), (68, vL (eI .i64) r8), (69, vI (r8.length : Int)), (70, vI vt70_32)] [bx [1] (encSAsk a0)])) (fun v => law23_DeckWhole_J37 vt70_32 v = some zB34) ?_ ?_
                 · refine Holds.block ?_
                   obtain ⟨e38, he38, hzB34⟩ := bS hzB34
                   refine Rg [.a, (.v (vI e38)), .a] (sl 108 [(1, vP [1] (0)), (3, vL (eI .i64) r8), (4, vI vt63_17), (5, vI e21), (6, vI n_t6_31), (8, vI e38), (61, vL (eI .i64) a0.Deck.Cards), (62, vI (a0.Deck.Cards.length : Int)), (63, vI vt63_17), (68, vL (eI .i64) r8), (69, vI (r8.length : Int)), (70, vI vt70_32)] [bx [1] (encSAsk a0)]) (aC (idx_b he38) <| aC (eld he38 (lenI .i64) 0 1 false (vI e38)) <| aC (Eq.refl (vI e38)) <| aN) ?_
                   refine Rg [.a, .a, .a] (sl 108 [(1, vP [1] (0)), (3, vL (eI .i64) r8), (4, vI vt63_17), (5, vI e21), (6, vI n_t6_31), (61, vL (eI .i64) a0.Deck.Cards), (62, vI (a0.Deck.Cards.length : Int)), (63, vI vt63_17), (68, vL (eI .i64) r8), (69, vI (r8.length : Int)), (70, vI vt70_32), (76, vB (e38 == e21))] [bx [1] (encSAsk a0)]) (aN) ?_
                   refine iB hzB34 (fun b39 hzB34 => ?_) (fun b39 hzB34 => ?_)
                   · refine Re [.a, .a, .a] (sl 108 [(1, vP [1] (0)), (3, vL (eI .i64) r8), (4, vI vt63_17), (5, vI e21), (6, vI (wrap64 (n_t6_31 + (1 : Int)))), (61, vL (eI .i64) a0.Deck.Cards), (62, vI (a0.Deck.Cards.length : Int)), (63, vI vt63_17), (68, vL (eI .i64) r8), (69, vI (r8.length : Int)), (70, vI vt70_32), (76, vB (e38 == e21)), (77, vI n_t6_31), (78, vI (wrap64 (n_t6_31 + (1 : Int))))] [bx [1] (encSAsk a0)]) (aN) ?_
                     refine blockQ.normal ?_
                     refine Tn ⟨(wrap64 (n_t6_31 + (1 : Int))), hzB34, wT⟩
                   · refine Holds.skip ?_
                     refine blockQ.normal ?_
                     refine Tn ⟨n_t6_31, hzB34, wT⟩
                 · rintro n_t6_36 hJ37
                   replace hJ37 : law23_DeckWhole_J37 vt70_32 n_t6_36 = some zB34 := hJ37
                   unfold law23_DeckWhole_J37 at hJ37
                   refine Re [.a, .a] (sl 108 [(1, vP [1] (0)), (3, vL (eI .i64) r8), (4, vI vt63_17), (5, vI e21), (6, vI n_t6_36), (61, vL (eI .i64) a0.Deck.Cards), (62, vI (a0.Deck.Cards.length : Int)), (63, vI vt63_17), (68, vL (eI .i64) r8), (69, vI (r8.length : Int)), (70, vI (wrap64 (vt70_32 + (1 : Int)))), (79, vI (wrap64 (vt70_32 + (1 : Int))))] [bx [1] (encSAsk a0)]) (aN) ?_
                   refine Tn ⟨(n_t6_36, (wrap64 (vt70_32 + (1 : Int)))), (sI hJ37).symm, wT⟩
               · refine Holds.exit ?_
                 refine thenQ.exit ?_
                 have hoB34_ := hoB34 _ (sI hzB34).symm
                 subst hoB34_
                 refine thenQ.exit ?_
                 refine blockQ.out ?_
                 refine Tn ⟨n_t6_31, hzB18, wT⟩
             · rintro n_t6_22 hJ23
               replace hJ23 : law23_DeckWhole_J23 a0 vt63_17 e21 n_t6_22 = some zB18 := hJ23
               unfold law23_DeckWhole_J23 at hJ23
               obtain ⟨e24, he24, hJ23⟩ := bS hJ23
               obtain ⟨e25, he25, hJ23⟩ := bS hJ23
               obtain ⟨b26, hb26, hJ23⟩ := bS hJ23
               obtain ⟨b27, hb27, hJ23⟩ := bS hJ23
               refine Rg [.a, .a, .a, .a, .a, .a, (.v (vI e24)), .a, .a, .a, .a, .a, .a, .a, .a, (.v (vI e25.Line.Super)), .a, .a, .a, .a, .a, .a, .a, .a, (.v (vB b26)), (.v (vB b27))] (sl 108 [(1, vP [1] (0)), (3, vL (eI .i64) r8), (61, vL (eI .i64) a0.Deck.Cards), (62, vI (a0.Deck.Cards.length : Int)), (63, vI vt63_17), (105, vB b27)] [bx [1] (encSAsk a0)]) (aC (idx_b he24) <| aC (eld he24 (lenI .i64) 0 1 false (vI e24)) <| aC (Eq.refl (vI e24)) <| aG ((n_t6_22 != e24) == false) <| aC (fun hg : ((n_t6_22 != e24) == false) = true => aC (gi ((n_t6_22 != e24) == false)) <| aC (gi ((n_t6_22 != e24) == false)) <| aC (gidx_b he25 hg).1 <| aN) <| aG ((n_t6_22 != e24) == false) <| aG ((n_t6_22 != e24) == false) <| aC (fun hg : ((n_t6_22 != e24) == false) = true => aC (gi ((n_t6_22 != e24) == false)) <| aC (eld (gd_t he25 hg) lenSCard 10 1 false (vI e25.Line.Super)) <| aC (Eq.refl (vI e25.Line.Super)) <| aN) <| aG ((n_t6_22 != e24) == false) <| aG ((n_t6_22 != e24) == false) <| aG ((n_t6_22 != e24) == false) <| aG (((n_t6_22 != e24) == false) && (((bAnd .i64 e25.Line.Super (1 : Int)) == (0 : Int)) == true)) <| aG (((n_t6_22 != e24) == false) && (((bAnd .i64 e25.Line.Super (1 : Int)) == (0 : Int)) == true)) <| aH (((n_t6_22 != e24) == false) && (((bAnd .i64 e25.Line.Super (1 : Int)) == (0 : Int)) == true)) <| aC (fun hg : ((n_t6_22 != e24) == false) = true => aC (gi ((n_t6_22 != e24) == false)) <| aC (fun q : ((bAnd .i64 e25.Line.Super (1 : Int)) == (0 : Int)) = true => (gA hg (gT q))) <| aB hb26 <| aN) <| aF (n_t6_22 != e24) <| aB hb27 <| aN) ?_
               refine iB hJ23 (fun b28 hJ23 => ?_) (fun b28 hJ23 => ?_)
               · refine Rg [.a] (sl 108 [(2, vB false)] []) (aN) ?_
                 refine Holds.ret ?_
                 refine blockQ.ret ?_
                 refine Tr ?_
                 have hoB18_ := hoB18 _ (sI hJ23).symm
                 subst hoB18_
                 replace h := sumL h
                 refine Tr ?_
                 refine blockQ.ret ?_
                 refine Tr ?_
                 exact bQ (vB false) (congrArg vB (sI h))
               · refine Holds.skip ?_
                 refine blockQ.normal ?_
                 refine Tn ⟨(), hJ23, wT⟩
           · rintro _ hJ20
             replace hJ20 : law23_DeckWhole_J20 vt63_17 = some zB18 := hJ20
             unfold law23_DeckWhole_J20 at hJ20
             refine Re [.a, .a] (sl 108 [(1, vP [1] (0)), (3, vL (eI .i64) r8), (61, vL (eI .i64) a0.Deck.Cards), (62, vI (a0.Deck.Cards.length : Int)), (63, vI (wrap64 (vt63_17 + (1 : Int)))), (106, vI (wrap64 (vt63_17 + (1 : Int))))] [bx [1] (encSAsk a0)]) (aN) ?_
             refine Tn ⟨(wrap64 (vt63_17 + (1 : Int))), (sI hJ20).symm, wT⟩
         · refine Holds.exit ?_
           refine thenQ.exit ?_
           have hoB18_ := hoB18 _ (sI hzB18).symm
           subst hoB18_
           replace h := sumR h
           refine thenQ.exit ?_
           refine blockQ.out ?_
           refine Tn ⟨(), h, wT⟩
       · rintro _ hJ14
         replace hJ14 : law23_DeckWhole_J14 = some r := hJ14
         unfold law23_DeckWhole_J14 at hJ14
         obtain ⟨r15, hr15, hJ14⟩ := bS hJ14
         refine Rg [(.c (vB r15)), .a] (sl 108 [(2, vB r15)] []) (aC (law23_alive_ok hr15) <| aN) ?_
         refine Holds.ret ?_
         exact bQ (vB r15) (congrArg vB (sI hJ14))
end Go.PL
