/- Functions of the program, as partial functions in Lean, with proofs. -/
import Derived.Test.YtipchejgnmnffaaGreatDoorPlStB
import Derived.Test.YtipchejgnmnffaaGreatDoorPlStF1
import Derived.Test.YtipchejgnmnffaaGreatDoorPlStF3
import Derived.Test.YtipchejgnmnffaaGreatDoorPlStF4
import Derived.Test.YtipchejgnmnffaaGreatDoorPlStF7
import Derived.Test.YtipchejgnmnffaaGreatDoorPlStF8
namespace Go.PL
open Go Go.RowKit Go.Proofs
set_option maxRecDepth 100000
set_option linter.all false
set_option maxHeartbeats 1000000
attribute [local irreducible] Holds thenQ blockQ
/-- cardgame/state.each[cardgame/api.Effect] -/
def state_each_api_Effect_state_sameEffect (a0 : List (SEffect)) (a1 : List (SEffect)) : Option (Bool) :=
 (slices_EqualFunc_api_Effect_api_Effect_api_Effect_api_Effect_state_sameEffect a0 a1).bind fun r1 =>
 some r1
def state_each_api_Effect_state_sameEffect_C (a0 : List (SEffect)) (a1 : List (SEffect)) (r : Bool) : Prop := PCall Tryz.prog I0 108 [vL encSEffect a0, vL encSEffect a1, .c (.fn 109)] (· = vB r)
theorem state_each_api_Effect_state_sameEffect_ok {a0 : List (SEffect)} {a1 : List (SEffect)} {r : Bool} (h : state_each_api_Effect_state_sameEffect a0 a1 = some r) : state_each_api_Effect_state_sameEffect_C a0 a1 r := by
 refine PCall.body I0_stable (by kernel_rfl) Tryz.func108 rfl Tryz.ntmps108 (rs := [.tmp 6]) rfl rfl ?_
 intro w0 av old gv
 unfold state_each_api_Effect_state_sameEffect at h
 refine Rg [.a] (sl 11 [(0, vL encSEffect a0), (1, vL encSEffect a1), (2, .c (.fn 109))] []) (aN) ?_
 obtain ⟨r1, hr1, h⟩ := bS h
 refine Rg [.a, .a, .a, (.c (vB r1)), .a] (sl 11 [(6, vB r1)] []) (aC (slices_EqualFunc_api_Effect_api_Effect_api_Effect_api_Effect_state_sameEffect_ok hr1) <| aN) ?_
 refine Holds.ret ?_
 exact bQ (vB r1) (congrArg vB (sI h))
/-- cardgame/state.each[cardgame/api.Cont] -/
def state_each_api_Cont_state_sameCont (a0 : List (SCont)) (a1 : List (SCont)) : Option (Bool) :=
 (slices_EqualFunc_api_Cont_api_Cont_api_Cont_api_Cont_state_sameCont a0 a1).bind fun r1 =>
 some r1
def state_each_api_Cont_state_sameCont_C (a0 : List (SCont)) (a1 : List (SCont)) (r : Bool) : Prop := PCall Tryz.prog I0 49 [vL encSCont a0, vL encSCont a1, .c (.fn 50)] (· = vB r)
theorem state_each_api_Cont_state_sameCont_ok {a0 : List (SCont)} {a1 : List (SCont)} {r : Bool} (h : state_each_api_Cont_state_sameCont a0 a1 = some r) : state_each_api_Cont_state_sameCont_C a0 a1 r := by
 refine PCall.body I0_stable (by kernel_rfl) Tryz.func49 rfl Tryz.ntmps49 (rs := [.tmp 6]) rfl rfl ?_
 intro w0 av old gv
 unfold state_each_api_Cont_state_sameCont at h
 refine Rg [.a] (sl 11 [(0, vL encSCont a0), (1, vL encSCont a1), (2, .c (.fn 50))] []) (aN) ?_
 obtain ⟨r1, hr1, h⟩ := bS h
 refine Rg [.a, .a, .a, (.c (vB r1)), .a] (sl 11 [(6, vB r1)] []) (aC (slices_EqualFunc_api_Cont_api_Cont_api_Cont_api_Cont_state_sameCont_ok hr1) <| aN) ?_
 refine Holds.ret ?_
 exact bQ (vB r1) (congrArg vB (sI h))
/-- cardgame/state.After -/
def state_After (a0 : SState) (a1 : Int) : Option (Int) :=
 (state_Others a0 a1).bind fun r1 =>
 (if (decide ((0 : Int) < (r1.length : Int))) = true then
  (idx r1 (0 : Int)).bind fun e3 =>
  some e3
 else
  (some (if (decide ((0 : Int) ≤ a1)) = true then decide (a1 < (a0.Players.length : Int)) else false)).bind fun b4 =>
  (gd (b4 == true) (idx a0.Players a1)).bind fun e5 =>
  (some (if b4 = true then !e5.Lost else false)).bind fun b6 =>
  (if b6 = true then
   some a1
  else
   some (-1 : Int)))
def state_After_C (a0 : SState) (a1 : Int) (r : Int) : Prop := PCall Tryz.prog I0 19 [vA encSState a0, vI a1] (· = vI r)
theorem state_After_ok {a0 : SState} {a1 : Int} {r : Int} (h : state_After a0 a1 = some r) : state_After_C a0 a1 r := by
 refine PCall.body I0_stable (by kernel_rfl) Tryz.func19 rfl Tryz.ntmps19 (rs := [.tmp 4]) rfl rfl ?_
 intro w0 av old gv
 unfold state_After at h
 refine Rg [.a, .a] (sl 34 [(1, vI a1), (2, vP [2] (0))] [bx [2] (encSState a0)]) (aN) ?_
 refine Holds.seq ?_
 obtain ⟨r1, hr1, h⟩ := bS h
 refine Rg [.a, .a, (.c (vL (eI .i64) r1)), .a] (sl 34 [(1, vI a1), (2, vP [2] (0)), (5, vL (eI .i64) r1)] [bx [2] (encSState a0)]) (aC (state_Others_ok hr1) <| aN) ?_
 refine Rg [.a, .a, .a] (sl 34 [(1, vI a1), (2, vP [2] (0)), (5, vL (eI .i64) r1), (11, vB (decide ((0 : Int) < (r1.length : Int))))] [bx [2] (encSState a0)]) (aN) ?_
 refine iB h (fun b2 h => ?_) (fun b2 h => ?_)
 · obtain ⟨e3, he3, h⟩ := bS h
   refine Rg [.a, .a, (.v (vI e3)), .a] (sl 34 [(4, vI e3)] []) (aC (idx_b he3) <| aC (eld he3 (lenI .i64) 0 1 false (vI e3)) <| aC (Eq.refl (vI e3)) <| aN) ?_
   refine Holds.ret ?_
   refine Tr ?_
   exact bQ (vI e3) (congrArg vI (sI h))
 · refine Holds.skip ?_
   refine Tn ?_
   refine Holds.seq ?_
   obtain ⟨b4, hb4, h⟩ := bS h
   obtain ⟨e5, he5, h⟩ := bS h
   obtain ⟨b6, hb6, h⟩ := bS h
   refine Rg [.a, .a, .a, .a, .a, .a, .a, .a, (.v (vB b4)), .a, .a, .a, .a, .a, .a, (.v (vB e5.Lost)), .a, (.v (vB b6))] (sl 34 [(1, vI a1), (32, vB b6)] []) (aG ((decide ((0 : Int) ≤ a1)) == true) <| aG ((decide ((0 : Int) ≤ a1)) == true) <| aH ((decide ((0 : Int) ≤ a1)) == true) <| aT (decide ((0 : Int) ≤ a1)) <| aB hb4 <| aG (b4 == true) <| aC (fun hg : (b4 == true) = true => aC (gi (b4 == true)) <| aC (gi (b4 == true)) <| aC (gidx_b he5 hg).1 <| aN) <| aG (b4 == true) <| aC (fun hg : (b4 == true) = true => aC (gi (b4 == true)) <| aC (eld (gd_t he5 hg) lenSPlayer 10 1 false (vB e5.Lost)) <| aC (Eq.refl (vB e5.Lost)) <| aN) <| aG (b4 == true) <| aT b4 <| aB hb6 <| aN) ?_
   refine iB h (fun b7 h => ?_) (fun b7 h => ?_)
   · refine Rg [.a, .a] (sl 34 [(4, vI a1)] []) (aN) ?_
     refine Holds.ret ?_
     refine Tr ?_
     exact bQ (vI a1) (congrArg vI (sI h))
   · refine Holds.skip ?_
     refine Tn ?_
     refine Rg [.a] (sl 34 [(4, vI (-1 : Int))] []) (aN) ?_
     refine Holds.ret ?_
     exact bQ (vI (-1 : Int)) (congrArg vI (sI h))
def state_Wins_J3  (b5_2 : SState) : Option (SState) :=
 some b5_2
/-- cardgame/state.Wins -/
def state_Wins (a0 : SState) (a1 : Int) : Option (SState) :=
 (zone_Copy a0).bind fun r1 =>
 (some (if (r1.Over == (0 : Int)) = true then decide ((0 : Int) ≤ a1) else false)).bind fun b4 =>
 (some (if b4 = true then decide (a1 < (r1.Players.length : Int)) else false)).bind fun b5 =>
 (if b5 = true then
  state_Wins_J3 ({ { r1 with Over := (1 : Int) } with Winner := a1 })
 else
  state_Wins_J3 r1)
def state_Wins_C (a0 : SState) (a1 : Int) (r : SState) : Prop := PCall Tryz.prog I0 23 [vA encSState a0, vI a1] (· = vA encSState r)
theorem state_Wins_ok {a0 : SState} {a1 : Int} {r : SState} (h : state_Wins a0 a1 = some r) : state_Wins_C a0 a1 r := by
 refine PCall.body I0_stable (by kernel_rfl) Tryz.func23 rfl Tryz.ntmps23 (rs := [.cell 4 33]) rfl rfl ?_
 intro w0 av old gv
 unfold state_Wins at h
 refine Rg [.a, .a] (sl 26 [(1, vI a1), (2, vP [2] (0)), (4, vP [4] (0))] [bx [4] [.nils, .nils, .nils, .nils, .nils, .nils, .nils, .int .i64 (0 : Int), .int .i64 (0 : Int), .int .i64 (0 : Int), .bool false, .int .i64 (0 : Int), .int .i64 (0 : Int), .int .i64 (0 : Int), .int .i64 (0 : Int), .int .u64 (0 : Int), .nils, .int .i64 (0 : Int), .int .i64 (0 : Int)], bx [2] (encSState a0)]) (aN) ?_
 obtain ⟨r1, hr1, h⟩ := bS h
 refine Rg [.a, (.c (vA encSState r1)), .a, .a] (sl 26 [(1, vI a1), (4, vP [4] (0)), (5, vP [5] (0))] [bx [5] (encSState r1), bx [4] [.nils, .nils, .nils, .nils, .nils, .nils, .nils, .int .i64 (0 : Int), .int .i64 (0 : Int), .int .i64 (0 : Int), .bool false, .int .i64 (0 : Int), .int .i64 (0 : Int), .int .i64 (0 : Int), .int .i64 (0 : Int), .int .u64 (0 : Int), .nils, .int .i64 (0 : Int), .int .i64 (0 : Int)]]) (aC (zone_Copy_ok hr1) <| aN) ?_
 refine Sj (X := SState) (fun v => (sl 26 [(4, vP [4] (0)), (5, vP [5] (0))] [bx [5] (encSState v), bx [4] [.nils, .nils, .nils, .nils, .nils, .nils, .nils, .int .i64 (0 : Int), .int .i64 (0 : Int), .int .i64 (0 : Int), .bool false, .int .i64 (0 : Int), .int .i64 (0 : Int), .int .i64 (0 : Int), .int .i64 (0 : Int), .int .u64 (0 : Int), .nils, .int .i64 (0 : Int), .int .i64 (0 : Int)]])) (fun v => state_Wins_J3 v = some r) ?_ ?_
 · obtain ⟨b4, hb4, h⟩ := bS h
   obtain ⟨b5, hb5, h⟩ := bS h
   refine Rg [.a, .a, .a, .a, .a, .a, (.v (vB b4)), .a, .a, .a, .a, .a, .a, (.v (vB b5))] (sl 26 [(1, vI a1), (4, vP [4] (0)), (5, vP [5] (0)), (21, vB b5)] [bx [5] (encSState r1), bx [4] [.nils, .nils, .nils, .nils, .nils, .nils, .nils, .int .i64 (0 : Int), .int .i64 (0 : Int), .int .i64 (0 : Int), .bool false, .int .i64 (0 : Int), .int .i64 (0 : Int), .int .i64 (0 : Int), .int .i64 (0 : Int), .int .u64 (0 : Int), .nils, .int .i64 (0 : Int), .int .i64 (0 : Int)]]) (aG ((r1.Over == (0 : Int)) == true) <| aT (r1.Over == (0 : Int)) <| aB hb4 <| aG (b4 == true) <| aG (b4 == true) <| aH (b4 == true) <| aT b4 <| aB hb5 <| aN) ?_
   refine iB h (fun b6 h => ?_) (fun b6 h => ?_)
   · refine Re [.a, .a, .a, .a, .a] (sl 26 [(1, vI a1), (4, vP [4] (0)), (5, vP [5] (0)), (21, vB b5), (22, vI a1), (23, vP [5] (17)), (24, vP [5] (18))] [bx [5] (encSState ({ { r1 with Over := (1 : Int) } with Winner := a1 })), bx [4] [.nils, .nils, .nils, .nils, .nils, .nils, .nils, .int .i64 (0 : Int), .int .i64 (0 : Int), .int .i64 (0 : Int), .bool false, .int .i64 (0 : Int), .int .i64 (0 : Int), .int .i64 (0 : Int), .int .i64 (0 : Int), .int .u64 (0 : Int), .nils, .int .i64 (0 : Int), .int .i64 (0 : Int)]]) (aN) ?_
     refine Tn ⟨({ { r1 with Over := (1 : Int) } with Winner := a1 }), h, wT⟩
   · refine Holds.skip ?_
     refine Tn ⟨r1, h, wT⟩
 · rintro b5_2 hJ3
   replace hJ3 : state_Wins_J3 b5_2 = some r := hJ3
   unfold state_Wins_J3 at hJ3
   refine Rg [.a, .a] (sl 26 [(4, vP [4] (0))] [bx [4] (encSState b5_2)]) (aN) ?_
   refine Holds.ret ?_
   exact bE (vA encSState b5_2) (.agg (encSState b5_2)) (congrArg (vA encSState) (sI hJ3))
def r20_Same_J2 (a0 : SAbility) (a1 : SAbility) : Option (Bool) :=
 (some (if (a0.Kind == a1.Kind) = true then a0.Filter == a1.Filter else false)).bind fun b3 =>
 (gd (b3 == true) (r17_SameMods a0.Mods a1.Mods)).bind fun r4 =>
 (some (if b3 = true then r4 else false)).bind fun b5 =>
 (some (if b5 = true then a0.Price == a1.Price else false)).bind fun b6 =>
 (some (if b6 = true then a0.Slow == a1.Slow else false)).bind fun b7 =>
 (some (if b7 = true then a0.Trigger == a1.Trigger else false)).bind fun b8 =>
 (some (if b8 = true then a0.May == a1.May else false)).bind fun b9 =>
 (gd (b9 == true) (r17_SameList a0.Effects a1.Effects)).bind fun r10 =>
 (some (if b9 = true then r10 else false)).bind fun b11 =>
 (some (if b11 = true then a0.Replace == a1.Replace else false)).bind fun b12 =>
 some b12
def r20_Same_B15 (a0 : SAbility) (a1 : SAbility) (i_t5_14 : Int) : Option ((Int) ⊕ (Unit ⊕ Unit)) :=
 (if (decide (i_t5_14 < (a0.Specs.length : Int))) = true then
  (idx a0.Specs i_t5_14).bind fun e17 =>
  (idx a1.Specs i_t5_14).bind fun e18 =>
  (if (!(e17 == e18)) = true then
   some (.inr (.inl ()))
  else
   some (.inl (wrap64 (i_t5_14 + (1 : Int)))))
 else
  some (.inr (.inr ())))
/-- cardgame/cardgameref20.Same -/
def r20_Same (a0 : SAbility) (a1 : SAbility) : Option (Bool) :=
 (if ((a0.Specs.length : Int) != (a1.Specs.length : Int)) = true then
  some false
 else
  (iter (fun (v : Int) => r20_Same_B15 a0 a1 v) FU (0 : Int)).bind (Sum.elim (fun o0 => some false) (fun o1 => r20_Same_J2 a0 a1)))
def r20_Same_C (a0 : SAbility) (a1 : SAbility) (r : Bool) : Prop := PCall Tryz.prog I0 98 [vA encSAbility a0, vA encSAbility a1] (· = vB r)
theorem r20_Same_ok {a0 : SAbility} {a1 : SAbility} {r : Bool} (h : r20_Same a0 a1 = some r) : r20_Same_C a0 a1 r := by
 refine PCall.body I0_stable (by kernel_rfl) Tryz.func98 rfl Tryz.ntmps98 (rs := [.tmp 4]) rfl rfl ?_
 intro w0 av old gv
 unfold r20_Same at h
 refine Rg [.a, .a, .a] (sl 92 [(2, vP [2] (0)), (3, vP [3] (0))] [bx [3] (encSAbility a1), bx [2] (encSAbility a0)]) (aN) ?_
 refine Holds.seq ?_
 refine Rg [.a, .a, .a, .a, .a, .a, .a] (sl 92 [(2, vP [2] (0)), (3, vP [3] (0)), (12, vB ((a0.Specs.length : Int) != (a1.Specs.length : Int)))] [bx [3] (encSAbility a1), bx [2] (encSAbility a0)]) (aN) ?_
 refine iB h (fun b1 h => ?_) (fun b1 h => ?_)
 · refine Rg [.a] (sl 92 [(4, vB false)] []) (aN) ?_
   refine Holds.ret ?_
   refine Tr ?_
   exact bQ (vB false) (congrArg vB (sI h))
 · refine Holds.skip ?_
   refine Tn ?_
   refine Sj (X := Unit) (fun v => (sl 92 [(2, vP [2] (0)), (3, vP [3] (0))] [bx [3] (encSAbility a1), bx [2] (encSAbility a0)])) (fun v => r20_Same_J2 a0 a1 = some r) ?_ ?_
   · refine Rg [.a] (sl 92 [(2, vP [2] (0)), (3, vP [3] (0)), (5, vI (0 : Int))] [bx [3] (encSAbility a1), bx [2] (encSAbility a0)]) (aN) ?_
     refine Holds.block ?_
     obtain ⟨oB15, hiB15, h⟩ := bS h
     refine It (fun (v : Int) => (sl 92 [(2, vP [2] (0)), (3, vP [3] (0)), (5, vI v)] [bx [3] (encSAbility a1), bx [2] (encSAbility a0)])) hiB15 (wT) ?_
     rintro i_t5_14 zB15 hzB15 hoB15
     replace hzB15 : r20_Same_B15 a0 a1 i_t5_14 = some zB15 := hzB15
     unfold r20_Same_B15 at hzB15
     refine Holds.seq ?_
     refine Rg [.a, .a, .a, .a, .a] (sl 92 [(2, vP [2] (0)), (3, vP [3] (0)), (5, vI i_t5_14), (17, vB (decide (i_t5_14 < (a0.Specs.length : Int))))] [bx [3] (encSAbility a1), bx [2] (encSAbility a0)]) (aN) ?_
     refine iB hzB15 (fun b16 hzB15 => ?_) (fun b16 hzB15 => ?_)
     · refine Holds.skip ?_
       refine Tn ?_
       refine Holds.seq ?_
       refine Holds.block ?_
       obtain ⟨e17, he17, hzB15⟩ := bS hzB15
       obtain ⟨e18, he18, hzB15⟩ := bS hzB15
       refine Rq followsP [.a, .a, .a, .a, (.v (vA encSSpec e17)), .a, .a, .a, .a, (.v (vA encSSpec e18)), (.v (vB (!(e17 == e18))))] (sl 92 [(2, vP [2] (0)), (3, vP [3] (0)), (5, vI i_t5_14), (30, vB (!(e17 == e18)))] [bx [3] (encSAbility a1), bx [2] (encSAbility a0)]) (aC (idx_b he17) <| aC (eld he17 lenSSpec 0 18 true (vA encSSpec e17)) <| aC (Eq.refl (vA encSSpec e17)) <| aC (idx_b he18) <| aC (eld he18 lenSSpec 0 18 true (vA encSSpec e18)) <| aC (Eq.refl (vA encSSpec e18)) <| aC (congrArg (fun z => V.c (.bool (!z))) (eqT132 e17 e18)) <| aN) ?_
       refine iB hzB15 (fun b19 hzB15 => ?_) (fun b19 hzB15 => ?_)
       · refine Rg [.a] (sl 92 [(4, vB false)] []) (aN) ?_
         refine Holds.ret ?_
         refine blockQ.ret ?_
         refine Tr ?_
         have hoB15_ := hoB15 _ (sI hzB15).symm
         subst hoB15_
         replace h := sumL h
         refine Tr ?_
         refine blockQ.ret ?_
         refine Tr ?_
         exact bQ (vB false) (congrArg vB (sI h))
       · refine Holds.skip ?_
         refine blockQ.normal ?_
         refine Tn ?_
         refine Re [.a, .a, .a] (sl 92 [(2, vP [2] (0)), (3, vP [3] (0)), (5, vI (wrap64 (i_t5_14 + (1 : Int)))), (18, vI i_t5_14), (19, vI (wrap64 (i_t5_14 + (1 : Int)))), (30, vB (!(e17 == e18)))] [bx [3] (encSAbility a1), bx [2] (encSAbility a0)]) (aN) ?_
         refine Tn ⟨(wrap64 (i_t5_14 + (1 : Int))), (sI hzB15).symm, wT⟩
     · refine Holds.exit ?_
       refine thenQ.exit ?_
       have hoB15_ := hoB15 _ (sI hzB15).symm
       subst hoB15_
       replace h := sumR h
       refine thenQ.exit ?_
       refine blockQ.out ?_
       refine Tn ⟨(), h, wT⟩
   · rintro _ hJ2
     replace hJ2 : r20_Same_J2 a0 a1 = some r := hJ2
     unfold r20_Same_J2 at hJ2
     obtain ⟨b3, hb3, hJ2⟩ := bS hJ2
     obtain ⟨r4, hr4, hJ2⟩ := bS hJ2
     obtain ⟨b5, hb5, hJ2⟩ := bS hJ2
     obtain ⟨b6, hb6, hJ2⟩ := bS hJ2
     obtain ⟨b7, hb7, hJ2⟩ := bS hJ2
     obtain ⟨b8, hb8, hJ2⟩ := bS hJ2
     obtain ⟨b9, hb9, hJ2⟩ := bS hJ2
     obtain ⟨r10, hr10, hJ2⟩ := bS hJ2
     obtain ⟨b11, hb11, hJ2⟩ := bS hJ2
     obtain ⟨b12, hb12, hJ2⟩ := bS hJ2
     refine Rg [.a, .a, .a, .a, .a, .a, .a, .a, .a, .a, (.v (vB (a0.Filter == a1.Filter))), (.v (vB b3)), .a, .a, .a, .a, .a, (.c (vB r4)), (.v (vB b5)), .a, .a, .a, .a, .a, (.v (vB (a0.Price == a1.Price))), (.v (vB b6)), .a, .a, .a, .a, .a, .a, (.v (vB b7)), .a, .a, .a, .a, .a, (.v (vB (a0.Trigger == a1.Trigger))), (.v (vB b8)), .a, .a, .a, .a, .a, .a, (.v (vB b9)), .a, .a, .a, .a, .a, (.c (vB r10)), (.v (vB b11)), .a, .a, .a, .a, .a, (.v (vB (a0.Replace == a1.Replace))), (.v (vB b12)), .a] (sl 92 [(4, vB b12)] []) (aG ((a0.Kind == a1.Kind) == true) <| aG ((a0.Kind == a1.Kind) == true) <| aC (fun hg : ((a0.Kind == a1.Kind) == true) = true => aC (gi ((a0.Kind == a1.Kind) == true)) <| aC (gi ((a0.Kind == a1.Kind) == true)) <| aC (congrArg (fun z => V.c (.bool (z))) (eqT62 a0.Filter a1.Filter)) <| aN) <| aT (a0.Kind == a1.Kind) <| aB hb3 <| aG (b3 == true) <| aG (b3 == true) <| aC (c2 hr4 r17_SameMods_ok) <| aT b3 <| aB hb5 <| aG (b5 == true) <| aG (b5 == true) <| aC (fun hg : (b5 == true) = true => aC (gi (b5 == true)) <| aC (gi (b5 == true)) <| aC (congrArg (fun z => V.c (.bool (z))) (eqT68 a0.Price a1.Price)) <| aN) <| aT b5 <| aB hb6 <| aG (b6 == true) <| aG (b6 == true) <| aC (fun hg : (b6 == true) = true => aC (gi (b6 == true)) <| aC (gi (b6 == true)) <| aC isb4 <| aN) <| aT b6 <| aB hb7 <| aG (b7 == true) <| aG (b7 == true) <| aC (fun hg : (b7 == true) = true => aC (gi (b7 == true)) <| aC (gi (b7 == true)) <| aC (congrArg (fun z => V.c (.bool (z))) (eqT70 a0.Trigger a1.Trigger)) <| aN) <| aT b7 <| aB hb8 <| aG (b8 == true) <| aG (b8 == true) <| aC (fun hg : (b8 == true) = true => aC (gi (b8 == true)) <| aC (gi (b8 == true)) <| aC isb4 <| aN) <| aT b8 <| aB hb9 <| aG (b9 == true) <| aG (b9 == true) <| aC (c2 hr10 r17_SameList_ok) <| aT b9 <| aB hb11 <| aG (b11 == true) <| aG (b11 == true) <| aC (fun hg : (b11 == true) = true => aC (gi (b11 == true)) <| aC (gi (b11 == true)) <| aC (congrArg (fun z => V.c (.bool (z))) (eqT74 a0.Replace a1.Replace)) <| aN) <| aT b11 <| aB hb12 <| aN) ?_
     refine Holds.ret ?_
     exact bQ (vB b12) (congrArg vB (sI hJ2))
def r26_list_J1  : Option (Bool) :=
 some true
def r26_list_B4 (a0 : SState) (a1 : List (Int)) (a2 : Int) (a3 : Int) (i_t9_3 : Int) : Option ((Int) ⊕ (Unit ⊕ Unit)) :=
 (if (decide (i_t9_3 < (a1.length : Int))) = true then
  (idx a1 i_t9_3).bind fun e6 =>
  (r26_object a0 e6).bind fun r7 =>
  (some (if (!r7.2) = true then true else r7.1.Zone != a2)).bind fun b8 =>
  (some (if (decide ((0 : Int) ≤ a3)) = true then r7.1.Owner != a3 else false)).bind fun b9 =>
  (gd ((if b8 = true then true else b9) == false) (idx a1 i_t9_3)).bind fun e10 =>
  (gd ((if b8 = true then true else b9) == false) (r26_times a1 e10)).bind fun r11 =>
  (some (if (if b8 = true then true else b9) = true then true else r11 != (1 : Int))).bind fun b12 =>
  (if b12 = true then
   some (.inr (.inl ()))
  else
   some (.inl (wrap64 (i_t9_3 + (1 : Int)))))
 else
  some (.inr (.inr ())))
/-- cardgame/cardgameref26.list -/
def r26_list (a0 : SState) (a1 : List (Int)) (a2 : Int) (a3 : Int) : Option (Bool) :=
 (iter (fun (v : Int) => r26_list_B4 a0 a1 a2 a3 v) FU (0 : Int)).bind (Sum.elim (fun o0 => some false) (fun o1 => r26_list_J1))
def r26_list_C (a0 : SState) (a1 : List (Int)) (a2 : Int) (a3 : Int) (r : Bool) : Prop := PCall Tryz.prog I0 68 [vA encSState a0, vL (eI .i64) a1, vI a2, vI a3] (· = vB r)
theorem r26_list_ok {a0 : SState} {a1 : List (Int)} {a2 : Int} {a3 : Int} {r : Bool} (h : r26_list a0 a1 a2 a3 = some r) : r26_list_C a0 a1 a2 a3 r := by
 refine PCall.body I0_stable (by kernel_rfl) Tryz.func68 rfl Tryz.ntmps68 (rs := [.tmp 8]) rfl rfl ?_
 intro w0 av old gv
 unfold r26_list at h
 refine Rg [.a, .a] (sl 54 [(1, vL (eI .i64) a1), (2, vI a2), (3, vI a3), (4, vP [4] (0))] [bx [4] (encSState a0)]) (aN) ?_
 refine Sj (X := Unit) (fun v => (sl 54 [] [])) (fun v => r26_list_J1 = some r) ?_ ?_
 · refine Rg [.a] (sl 54 [(1, vL (eI .i64) a1), (2, vI a2), (3, vI a3), (4, vP [4] (0)), (9, vI (0 : Int))] [bx [4] (encSState a0)]) (aN) ?_
   refine Holds.block ?_
   obtain ⟨oB4, hiB4, h⟩ := bS h
   refine It (fun (v : Int) => (sl 54 [(1, vL (eI .i64) a1), (2, vI a2), (3, vI a3), (4, vP [4] (0)), (9, vI v)] [bx [4] (encSState a0)])) hiB4 (wT) ?_
   rintro i_t9_3 zB4 hzB4 hoB4
   replace hzB4 : r26_list_B4 a0 a1 a2 a3 i_t9_3 = some zB4 := hzB4
   unfold r26_list_B4 at hzB4
   refine Holds.seq ?_
   refine Rg [.a, .a, .a, .a] (sl 54 [(1, vL (eI .i64) a1), (2, vI a2), (3, vI a3), (4, vP [4] (0)), (9, vI i_t9_3), (15, vB (decide (i_t9_3 < (a1.length : Int))))] [bx [4] (encSState a0)]) (aN) ?_
   refine iB hzB4 (fun b5 hzB4 => ?_) (fun b5 hzB4 => ?_)
   · refine Holds.skip ?_
     refine Tn ?_
     refine Holds.seq ?_
     refine Holds.block ?_
     refine Holds.seq ?_
     obtain ⟨e6, he6, hzB4⟩ := bS hzB4
     obtain ⟨r7, hr7, hzB4⟩ := bS hzB4
     refine Holds.regN [0, 1, 2, 4, 512, 513, 514, 516, 517, 518, 519, 526, 527, 542, 543, 575, 639, 767, 895, 1023, 2047, 4095, 1791, 515, 5, 6, 7, 14, 15, 30, 31, 63, 127, 255, 383, 511, 3] 4095 [.a, .a, .a, .a, (.v (vI e6)), (.c (.tup [vA encSObject r7.1, vB r7.2])), .a, .a, .a, .a, .a, .a] [[10], [4]] (fun n => ⟨[.undef, vL (eI .i64) a1, vI a2, vI a3, vP [4] (0), .undef, .undef, .undef, .undef, vI i_t9_3, cond (Nat.testBit n 9) (vP [10] (0)) (.undef), cond (Nat.testBit n 11) (vB r7.2) (.undef), .undef, .undef, .undef, vB (decide (i_t9_3 < (a1.length : Int))), .undef, .undef, cond (Nat.testBit n 6) (.tup [vA encSObject r7.1, vB r7.2]) (.undef), cond (Nat.testBit n 0) (vA encSState a0) (.undef), cond (Nat.testBit n 1) (vL (eI .i64) a1) (.undef), cond (Nat.testBit n 2) (vI i_t9_3) (.undef), cond (Nat.testBit n 3) (vX (eI .i64) a1 ((i_t9_3).toNat * 1)) (.undef), cond (Nat.testBit n 4) (vI e6) (.undef), cond (Nat.testBit n 5) (.tup [vA encSObject r7.1, vB r7.2]) (.undef), cond (Nat.testBit n 7) (vA encSObject r7.1) (.undef), cond (Nat.testBit n 8) (vB r7.2) (.undef), .undef, .undef, .undef, .undef, .undef, .undef, .undef, .undef, .undef, .undef, .undef, .undef, .undef, .undef, .undef, .undef, .undef, .undef, .undef, .undef, .undef, .undef, .undef, .undef, .undef, .undef, .undef], List.filterMap id [cond (Nat.testBit n 10) (some (bx [10] (encSObject r7.1))) (cond (Nat.testBit n 9) (some (bx [10] [.int .i64 (0 : Int), .int .i64 (0 : Int), .int .i64 (0 : Int), .int .i64 (0 : Int), .int .i64 (0 : Int), .bool false, .bool false, .bool false, .bool false, .int .i64 (0 : Int), .int .i64 (((⟨(0 : Int), (0 : Int), (0 : Int)⟩ : A3 (Int))).x0), .int .i64 (((⟨(0 : Int), (0 : Int), (0 : Int)⟩ : A3 (Int))).x1), .int .i64 (((⟨(0 : Int), (0 : Int), (0 : Int)⟩ : A3 (Int))).x2), .int .i64 (0 : Int), .int .i64 (0 : Int), .int .i64 (0 : Int), .bool false, .int .i64 (0 : Int), .int .i64 (0 : Int)])) ((none : Option Ent))), some (bx [4] (encSState a0))], [], []⟩) [[], [], [], [0 ≤ i_t9_3 ∧ i_t9_3 < (a1.length : Int)], [(i_t9_3).toNat * 1 + 1 ≤ (a1.flatMap (eI .i64)).length ∧ toV false ((i_t9_3).toNat * 1) 1 (a1.flatMap (eI .i64)) = vI e6, (vI e6 : V) = vI e6], [r26_object_C a0 e6 r7], [], [True ∧ 0 < [V.undef, V.undef].length], [True ∧ 1 < [V.undef, V.undef].length], [], [], []] followsP (by kernel_rfl) (by kernel_rfl) (by decide) (Less.t (by kernel_rfl)) (by kernel_rfl) ⟨trivial, trivial, trivial, ⟨(idx_b he6), trivial⟩, ⟨(eld he6 (lenI .i64) 0 1 false (vI e6)), rfl, trivial⟩, ⟨(r26_object_ok hr7), trivial⟩, trivial, ⟨⟨trivial, (by decide)⟩, trivial⟩, ⟨⟨trivial, (by decide)⟩, trivial⟩, trivial, trivial, trivial, trivial⟩ ?_
     refine Tn ?_
     refine Ls (sl 54 [(1, vL (eI .i64) a1), (2, vI a2), (3, vI a3), (4, vP [4] (0)), (9, vI i_t9_3), (10, vP [10] (0)), (11, vB r7.2)] [bx [10] (encSObject r7.1), bx [4] (encSState a0)]) ?_
     obtain ⟨b8, hb8, hzB4⟩ := bS hzB4
     obtain ⟨b9, hb9, hzB4⟩ := bS hzB4
     obtain ⟨e10, he10, hzB4⟩ := bS hzB4
     obtain ⟨r11, hr11, hzB4⟩ := bS hzB4
     obtain ⟨b12, hb12, hzB4⟩ := bS hzB4
     refine Rg [.a, .a, .a, .a, .a, .a, .a, (.v (vB b8)), .a, .a, .a, .a, .a, .a, .a, .a, (.v (vB b9)), .a, .a, .a, .a, .a, .a, (.v (vI e10)), (.c (vI r11)), .a, (.v (vB b12))] (sl 54 [(1, vL (eI .i64) a1), (2, vI a2), (3, vI a3), (4, vP [4] (0)), (9, vI i_t9_3), (53, vB b12)] [bx [4] (encSState a0)]) (aG ((!r7.2) == false) <| aH ((!r7.2) == false) <| aF (!r7.2) <| aB hb8 <| aG (b8 == false) <| aG (b8 == false) <| aG ((b8 == false) && ((decide ((0 : Int) ≤ a3)) == true)) <| aH ((b8 == false) && ((decide ((0 : Int) ≤ a3)) == true)) <| aC (fun hg : (b8 == false) = true => aC (gi (b8 == false)) <| aC (fun q : (decide ((0 : Int) ≤ a3)) = true => (gA hg (gT q))) <| aB hb9 <| aN) <| aF b8 <| aC (fun hg : ((if b8 = true then true else b9) == false) = true => aC (gi ((if b8 = true then true else b9) == false)) <| aC (gi ((if b8 = true then true else b9) == false)) <| aC (gidx_b he10 hg).1 <| aN) <| aC (fun hg : ((if b8 = true then true else b9) == false) = true => aC (gi ((if b8 = true then true else b9) == false)) <| aC (eld (gd_t he10 hg) (lenI .i64) 0 1 false (vI e10)) <| aC (Eq.refl (vI e10)) <| aN) <| aC (c2 hr11 r26_times_ok) <| aG ((if b8 = true then true else b9) == false) <| aF (if b8 = true then true else b9) <| aB hb12 <| aN) ?_
     refine iB hzB4 (fun b13 hzB4 => ?_) (fun b13 hzB4 => ?_)
     · refine Rg [.a] (sl 54 [(8, vB false)] []) (aN) ?_
       refine Holds.ret ?_
       refine blockQ.ret ?_
       refine Tr ?_
       have hoB4_ := hoB4 _ (sI hzB4).symm
       subst hoB4_
       replace h := sumL h
       refine Tr ?_
       refine blockQ.ret ?_
       refine Tr ?_
       exact bQ (vB false) (congrArg vB (sI h))
     · refine Holds.skip ?_
       refine blockQ.normal ?_
       refine Tn ?_
       refine Re [.a, .a, .a] (sl 54 [(1, vL (eI .i64) a1), (2, vI a2), (3, vI a3), (4, vP [4] (0)), (9, vI (wrap64 (i_t9_3 + (1 : Int)))), (16, vI i_t9_3), (17, vI (wrap64 (i_t9_3 + (1 : Int)))), (53, vB b12)] [bx [4] (encSState a0)]) (aN) ?_
       refine Tn ⟨(wrap64 (i_t9_3 + (1 : Int))), (sI hzB4).symm, wT⟩
   · refine Holds.exit ?_
     refine thenQ.exit ?_
     have hoB4_ := hoB4 _ (sI hzB4).symm
     subst hoB4_
     replace h := sumR h
     refine thenQ.exit ?_
     refine blockQ.out ?_
     refine Tn ⟨(), h, wT⟩
 · rintro _ hJ1
   replace hJ1 : r26_list_J1 = some r := hJ1
   unfold r26_list_J1 at hJ1
   refine Rg [.a] (sl 54 [(8, vB true)] []) (aN) ?_
   refine Holds.ret ?_
   exact bQ (vB true) (congrArg vB (sI hJ1))
end Go.PL
