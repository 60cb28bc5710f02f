/- Functions of the program, as partial functions in Lean, with proofs. -/
import Derived.Test.YtcmdlelhdimnfaaGreatDoorPlAcB
namespace Go.PL
open Go Go.RowKit Go.Proofs
set_option maxRecDepth 100000
set_option linter.all false
set_option maxHeartbeats 4000000
attribute [local irreducible] Holds thenQ blockQ
/-- cardgame/cardgameref25.ints -/
def r25_ints (a0 : List (Int)) : Option ((List (Int))) :=
 (app 8 ([] : List (Int)) a0).bind fun l1 =>
 some l1
def r25_ints_C (a0 : List (Int)) (r : (List (Int))) : Prop := PCall Tryz.prog I0 13 [vL (eI .i64) a0] (· = vL (eI .i64) r)
theorem r25_ints_ok {a0 : List (Int)} {r : (List (Int))} (h : r25_ints a0 = some r) : r25_ints_C a0 r := by
 refine PCall.bo I0_stable Tryz.func13 rfl Tryz.ntmps13 [.tmp 2] fun _ _ _ _ => ?_
 unfold r25_ints at h
 refine Gg [.a] (u [] []) (aN) ?_
 obtain ⟨l1,i0,h⟩ := bS h
 exact Rg [.a,.a,(.e l1.length (l1.flatMap (eI .i64))),.a] (sl 6 [(2,vO [3])] [rw_ [3] 3 1 (eI .i64) l1]) (aC (show (a0.flatMap (eI .i64)).length = a0.length * 1 from (flat_len (enc := eI .i64) (n := 1) (lenI .i64) _)) <| aC (ap1 i0 (eI .i64)) <| aC (app_b i0) <| aN) <| hR <| bE (vO [3]) (vL (eI .i64) l1) (congrArg (vL (eI .i64)) (sI h))
/-- cardgame/state.in -/
def state_in (a0 : Int) (a1 : Int) (a2 : Int) : Option (Bool) :=
 (some (if (decide (a1 ≤ a0)) = true then decide (a0 ≤ a2) else false)).bind fun b1 =>
 some b1
def state_in_C (a0 : Int) (a1 : Int) (a2 : Int) (r : Bool) : Prop := PCall Tryz.prog I0 56 [vI a0, vI a1, vI a2] (· = vB r)
theorem state_in_ok {a0 : Int} {a1 : Int} {a2 : Int} {r : Bool} (h : state_in a0 a1 a2 = some r) : state_in_C a0 a1 a2 r := by
 refine PCall.bo I0_stable Tryz.func56 rfl Tryz.ntmps56 [.tmp 6] fun _ _ _ _ => ?_
 unfold state_in at h
 refine Gg [.a] (u [] []) (aN) ?_
 obtain ⟨b1,i0,h⟩ := bS h
 exact Rg [.a,.a,.a,.a,.a,.a,.a,(.v (vB b1)),.a] (sl 15 [(6,vB b1)] []) (aH ((decide (a1 ≤ a0)) == true) <| aT (decide (a1 ≤ a0)) <| aB i0 <| aN) <| hR <| bQ _ (kB h)
def mana_Whole_J1  : Option (Bool) :=
 some true
def mana_Whole_B4 (a0 : A6 (Int)) (vt6_3 : Int) : Option ((Int) ⊕ (Unit ⊕ Unit)) :=
 (if (decide (vt6_3 < (6 : Int))) = true then
  (idx a0.l vt6_3).bind fun e6 =>
  (some (if (decide (e6 < (0 : Int))) = true then true else decide ((1000000 : Int) < e6))).bind fun b7 =>
  (if b7 = true then
   some (.inr (.inr ()))
  else
   some (.inl (wrap64 (vt6_3 + (1 : Int)))))
 else
  some (.inr (.inl ())))
/-- cardgame/mana.Whole -/
def mana_Whole (a0 : A6 (Int)) : Option (Bool) :=
 (iter (fun (v : Int) => mana_Whole_B4 a0 v) FU (0 : Int)).bind (Sum.elim (fun o0 => mana_Whole_J1) (fun o1 => some false))
def mana_Whole_C (a0 : A6 (Int)) (r : Bool) : Prop := PCall Tryz.prog I0 57 [vA (eA6 (eI .i64)) a0] (· = vB r)
theorem mana_Whole_ok {a0 : A6 (Int)} {r : Bool} (h : mana_Whole a0 = some r) : mana_Whole_C a0 r := by
 refine PCall.bo I0_stable Tryz.func57 rfl Tryz.ntmps57 [.tmp 2] fun _ _ _ _ => ?_
 unfold mana_Whole at h
 refine Rg [.a,.a] (sl 16 [(1,vP [1] (0))] [bx [1] (eA6 (eI .i64) a0)]) (aN) <| Sj (X := Unit) (fun v => (sl 16 [] [])) (fun v => mana_Whole_J1 = some r) ?_ ?_
 · refine Rg [.a,.a] (sl 16 [(5,vA (eA6 (eI .i64)) a0),(6,vI (0 : Int))] []) (aN) <| hB ?_
   obtain ⟨t0,o0,h⟩ := bS h
   refine Gi (fun (v : Int) => (u [] [(6,vI v)])) o0 (wT) ?_
   rintro j0 q0 i0 m0
   replace i0 : mana_Whole_B4 a0 j0 = some q0 := i0
   unfold mana_Whole_B4 at i0
   refine Gg [.a] (u [] [(7,vB (decide (j0 < (6 : Int))))]) (aN) <| hS <| iC i0 (fun i0 => ?_) (fun i0 => ?_)
   · refine hK <| Tn <| hS <| hB ?_
     obtain ⟨e6,n0,i0⟩ := bS i0
     refine Gg [(.v (vI e6)),.a] (u [7] [(4,vI e6)]) (aC (show (0 ≤ j0 ∧ j0 < ((6 : Nat) : Int)) ∧ (j0).toNat * 1 + 1 ≤ (eA6 (eI .i64) a0).length ∧ toV false ((j0).toNat * 1) 1 (eA6 (eI .i64) a0) = vI e6 from ⟨idx_b n0,arr_ld (e := eI .i64) (N := 1) (l := a0.l) (base := 0) (pre := []) (post := []) (by kernel_rfl) rfl n0 (lenI .i64) (o := 0) (by simp) (by decide) (by decide) (by kernel_rfl)⟩) <| aC (Eq.refl (vI e6)) <| aN) ?_
     obtain ⟨b7,p0,i0⟩ := bS i0
     refine Gg [.a,.a,.a,.a,.a,(.v (vB b7))] (u [4] [(14,vB b7)]) (aG ((decide (e6 < (0 : Int))) == false) <| aF (decide (e6 < (0 : Int))) <| aB p0 <| aN) <| iC i0 (fun i0 => ?_) (fun i0 => ?_)
     · refine Rg [.a] (sl 16 [(2,vB false)] []) (aN) <| hR <| qR <| Tr ?_
       obtain rfl := m0 _ (sI i0).symm
       replace h := sumR h
       exact Tr <| qR <| Tr <| bQ _ (kB h)
     refine hK <| qN <| Tn <| Ge [.a,.a] (u [] [(6,vI (wrap64 (j0 + (1 : Int)))),(15,vI (wrap64 (j0 + (1 : Int))))]) (aN) <| Tn ⟨(wrap64 (j0 + (1 : Int))),(sI i0).symm,wT⟩
   refine hE <| Te ?_
   obtain rfl := m0 _ (sI i0).symm
   replace h := sumL h
   refine Te <| qX <| Tn ⟨(),h,wT⟩
 rintro _ k0
 replace k0 : mana_Whole_J1 = some r := k0
 unfold mana_Whole_J1 at k0
 exact Rg [.a] (sl 16 [(2,vB true)] []) (aN) <| hR <| bQ _ (kB k0)
/-- cardgame/object.in -/
def object_in (a0 : Int) (a1 : Int) (a2 : Int) : Option (Bool) :=
 (some (if (decide (a1 ≤ a0)) = true then decide (a0 ≤ a2) else false)).bind fun b1 =>
 some b1
def object_in_C (a0 : Int) (a1 : Int) (a2 : Int) (r : Bool) : Prop := PCall Tryz.prog I0 82 [vI a0, vI a1, vI a2] (· = vB r)
theorem object_in_ok {a0 : Int} {a1 : Int} {a2 : Int} {r : Bool} (h : object_in a0 a1 a2 = some r) : object_in_C a0 a1 a2 r := by
 refine PCall.bo I0_stable Tryz.func82 rfl Tryz.ntmps82 [.tmp 6] fun _ _ _ _ => ?_
 unfold object_in at h
 refine Gg [.a] (u [] []) (aN) ?_
 obtain ⟨b1,i0,h⟩ := bS h
 exact Rg [.a,.a,.a,.a,.a,.a,.a,(.v (vB b1)),.a] (sl 15 [(6,vB b1)] []) (aH ((decide (a1 ≤ a0)) == true) <| aT (decide (a1 ≤ a0)) <| aB i0 <| aN) <| hR <| bQ _ (kB h)
def counter_Is_J2  (vt7_1 : Int) : Option (Bool) :=
 some (!(decide ((0 : Int) ≤ vt7_1)))
def counter_Is_J3  : Option (Bool) :=
 counter_Is_J2 (-1 : Int)
def counter_Is_B7 (a0 : A3 (Int)) (vt8_5 : Int) : Option ((Int) ⊕ (Unit ⊕ Int)) :=
 (if (decide (vt8_5 < ((3 : Nat) : Int))) = true then
  (idx a0.l vt8_5).bind fun e9 =>
  (some (if (decide (e9 < (0 : Int))) = true then true else decide ((1000000 : Int) < e9))).bind fun b10 =>
  (if b10 = true then
   some (.inr (.inr vt8_5))
  else
   some (.inl (wrap64 (vt8_5 + (1 : Int)))))
 else
  some (.inr (.inl ())))
/-- cardgame/counter.Is -/
def counter_Is (a0 : A3 (Int)) : Option (Bool) :=
 (iter (fun (v : Int) => counter_Is_B7 a0 v) FU (0 : Int)).bind (Sum.elim (fun o0 => counter_Is_J3) (fun o1 => counter_Is_J2 o1))
def counter_Is_C (a0 : A3 (Int)) (r : Bool) : Prop := PCall Tryz.prog I0 83 [vA (eA3 (eI .i64)) a0] (· = vB r)
theorem counter_Is_ok {a0 : A3 (Int)} {r : Bool} (h : counter_Is a0 = some r) : counter_Is_C a0 r := by
 refine PCall.bo I0_stable Tryz.func83 rfl Tryz.ntmps83 [.tmp 2] fun _ _ _ _ => ?_
 unfold counter_Is at h
 refine Rg [.a,.a] (sl 6 [(1,vP [1] (0))] [bx [1] (eA3 (eI .i64) a0)]) (aN) <| hS <| hO <| Gp 1 [.a] (u [] [(3,.c (.bsl [1] 0 3))]) (aC (show 0 ≤ (0 : Int) ∧ (0 : Int) < ((3 : Nat) : Int) ∧ (0 : Int) ≤ ((3 : Nat) : Int) ∧ ((3 : Nat) : Int) ≤ ((3 : Nat) : Int) from (by decide)) <| aN) <| rI rfl rfl <| Ei 4 [.c (.bsl [1] 0 3),.c (.fn 116)] [] Tryz.func115 Tryz.ntmps115 [.tmp 4] rfl rfl rfl rfl fun _ _ _ _ => Gg [.a] (u [] []) (aN) <| hS <| hO <| Gp 2 [.a,.a] (u [] [(5,.c (.bsl [1] 0 3)),(6,.c (.fn 116))]) (aN) <| Nj (X := Int) (fun v => (u [0,1,5,6] [(7,vI v)])) (fun v => counter_Is_J2 v = some r) rfl rfl ?_ ?_
 · refine Ei 7 [.c (.bsl [1] 0 3),.c (.fn 116)] [] Tryz.func158 Tryz.ntmps158 [.tmp 4] rfl rfl rfl rfl fun _ _ _ _ => Rg [.a] (sg 19 [(0,.c (.bsl [1] 0 3)),(1,.c (.fn 116))] [bx [1] (eA3 (eI .i64) a0)] 15 [(0,.c (.bsl [1] 0 3)),(1,.c (.fn 116)),(5,.c (.bsl [1] 0 3)),(6,.c (.fn 116)),(10,vP [1] (0)),(12,.c (.bsl [1] 0 3))] [7,4]) (aN) <| Gj (X := Unit) (fun v => (u [0,1] [])) (fun v => counter_Is_J3 = some r) ?_ ?_
   · refine Gg (nA 3) (u [] [(7,vI ((3 : Nat) : Int)),(8,vI (0 : Int))]) (aC (show isSlice Tryz.prog 24 = true from (by kernel_rfl)) <| aN) <| hB ?_
     obtain ⟨z0,x0,h⟩ := bS h
     refine Gi (fun (v : Int) => (u [] [(8,vI v)])) x0 (wT) ?_
     rintro i0 y0 j0 p0
     replace j0 : counter_Is_B7 a0 i0 = some y0 := j0
     unfold counter_Is_B7 at j0
     refine Gg [.a] (u [] [(9,vB (decide (i0 < ((3 : Nat) : Int))))]) (aN) <| hS <| iC j0 (fun j0 => ?_) (fun j0 => ?_)
     · refine hK <| Tn <| hS <| hB <| Gg [.a,.a] (u [9] [(5,vI i0)]) (aN) <| hS <| hO ?_
       obtain ⟨e9,q0,j0⟩ := bS j0
       refine Gp 5 [.a,.a,.a,.a,(.v (vI e9))] (u [] [(11,.c (.fn 116)),(12,.c (.bsl [1] 0 3)),(13,vI i0),(14,vP [1] (0 + (i0).toNat * 1)),(15,vI e9)]) (aC (idx_b q0) <| aC (ald q0 (lenI .i64) (eA3 (eI .i64) a0) 0 3 0 1 false (vI e9)) <| aC (Eq.refl (vI e9)) <| aN) <| rI rfl rfl <| Ei 16 [vI e9] [] Tryz.func116 Tryz.ntmps116 [.tmp 2] rfl rfl rfl rfl fun _ _ _ _ => Rg [.a] (sg 9 [(0,vI e9)] [bx [1] (eA3 (eI .i64) a0)] 34 [(0,.c (.bsl [1] 0 3)),(1,.c (.fn 116)),(5,vI i0),(7,vI ((3 : Nat) : Int)),(8,vI i0),(11,.c (.fn 116)),(12,.c (.bsl [1] 0 3)),(13,vI i0),(14,vP [1] (0 + (i0).toNat * 1)),(15,vI e9),(19,.c (.bsl [1] 0 3)),(20,.c (.fn 116)),(24,.c (.bsl [1] 0 3)),(25,.c (.fn 116)),(29,vP [1] (0)),(31,.c (.bsl [1] 0 3))] [16,7,4]) (aN) ?_
       obtain ⟨o0,t0,j0⟩ := bS j0
       refine Gg [.a,.a,.a,.a,.a,(.v (vB o0)),.a] (u [0] [(2,vB o0)]) (aG ((decide (e9 < (0 : Int))) == false) <| aF (decide (e9 < (0 : Int))) <| aB t0 <| aN) <| hR <| nR (vB o0) <| Gw [] (u [] []) (aN) <| Tn <| iC j0 (fun j0 => ?_) (fun j0 => ?_)
       · refine Gg [.a,.a] (u [0,1,5,7,8,11,12,13,14,15,16] [(4,vI i0)]) (aN) <| hR <| qR <| Tr ?_
         obtain rfl := p0 _ (sI j0).symm
         replace h := sumR h
         refine Tr <| qR <| Tr <| nR (vI i0) ⟨i0,h,lT⟩
       refine hK <| qN <| Tn <| Ge [.a,.a] (u [] [(8,vI (wrap64 (i0 + (1 : Int)))),(18,vI (wrap64 (i0 + (1 : Int))))]) (aN) <| Tn ⟨(wrap64 (i0 + (1 : Int))),(sI j0).symm,wT⟩
     refine hE <| Te ?_
     obtain rfl := p0 _ (sI j0).symm
     replace h := sumL h
     refine Te <| qX <| Tn ⟨(),h,wT⟩
   rintro _ n0
   replace n0 : counter_Is_J3 = some r := n0
   unfold counter_Is_J3 at n0
   refine Gg [.a] (u [] [(4,vI (-1 : Int))]) (aN) <| hR <| nR (vI (-1 : Int)) ⟨(-1 : Int),n0,lT⟩
 rintro k0 m0
 replace m0 : counter_Is_J2 k0 = some r := m0
 unfold counter_Is_J2 at m0
 exact Gw [.a,.a] (u [] [(4,vB (decide ((0 : Int) ≤ k0))),(8,vB (decide ((0 : Int) ≤ k0)))]) (aN) <| Tn <| hR <| nR (vB (decide ((0 : Int) ≤ k0))) <| Rw [.a,.a] (sl 6 [(1,vP [1] (0)),(2,vB (!(decide ((0 : Int) ≤ k0)))),(3,.c (.bsl [1] 0 3)),(4,vB (decide ((0 : Int) ≤ k0))),(5,vB (!(decide ((0 : Int) ≤ k0))))] [bx [1] (eA3 (eI .i64) a0)]) (aN) <| Tn <| hR <| bQ _ (kB m0)
/-- cardgame/object.Ended -/
def object_Ended (a0 : SObject) : Option (SObject) :=
 some ({ { { a0 with Damage := (0 : Int) } with Deadly := false } with Shield := (0 : Int) })
def object_Ended_C (a0 : SObject) (r : SObject) : Prop := PCall Tryz.prog I0 85 [vA encSObject a0] (· = vA encSObject r)
theorem object_Ended_ok {a0 : SObject} {r : SObject} (h : object_Ended a0 = some r) : object_Ended_C a0 r := by
 refine PCall.bo I0_stable Tryz.func85 rfl Tryz.ntmps85 [.cell 2 38] fun _ _ _ _ => ?_
 unfold object_Ended at h
 exact Rg [.a,.a] (sl 7 [(1,vP [1] (0)),(2,vP [2] (0))] [bx [2] [.int .i64 (0 : Int),.int .i64 (0 : Int),.int .i64 (0 : Int),.int .i64 (0 : Int),.int .i64 (0 : Int),.bool false,.bool false,.bool false,.bool false,.int .i64 (0 : Int),.int .i64 (((⟨(0 : Int),(0 : Int),(0 : Int)⟩ : A3 (Int))).x0),.int .i64 (((⟨(0 : Int),(0 : Int),(0 : Int)⟩ : A3 (Int))).x1),.int .i64 (((⟨(0 : Int),(0 : Int),(0 : Int)⟩ : A3 (Int))).x2),.int .i64 (0 : Int),.int .i64 (0 : Int),.int .i64 (0 : Int),.bool false,.int .i64 (0 : Int),.int .i64 (0 : Int)],bx [1] (encSObject a0)]) (aN) <| Gg (nA 6) (uo [] [] [.k 0,.e (bx [1] (encSObject ({ { { a0 with Damage := (0 : Int) } with Deadly := false } with Shield := (0 : Int) })))]) (aN) <| Gg [.a,.a] (uo [1] [] [.e (bx [2] (encSObject ({ { { a0 with Damage := (0 : Int) } with Deadly := false } with Shield := (0 : Int) })))]) (aN) <| hR <| bE (vA encSObject ({ { { a0 with Damage := (0 : Int) } with Deadly := false } with Shield := (0 : Int) })) (.agg (encSObject ({ { { a0 with Damage := (0 : Int) } with Deadly := false } with Shield := (0 : Int) }))) (congrArg (vA encSObject) (sI h))
/-- cardgame/object.Calm -/
def object_Calm (a0 : SObject) : Option (SObject) :=
 some ({ { { a0 with Attack := (-1 : Int) } with Blocked := false } with Blocks := (0 : Int) })
def object_Calm_C (a0 : SObject) (r : SObject) : Prop := PCall Tryz.prog I0 84 [vA encSObject a0] (· = vA encSObject r)
theorem object_Calm_ok {a0 : SObject} {r : SObject} (h : object_Calm a0 = some r) : object_Calm_C a0 r := by
 refine PCall.bo I0_stable Tryz.func84 rfl Tryz.ntmps84 [.cell 2 38] fun _ _ _ _ => ?_
 unfold object_Calm at h
 exact Rg [.a,.a] (sl 7 [(1,vP [1] (0)),(2,vP [2] (0))] [bx [2] [.int .i64 (0 : Int),.int .i64 (0 : Int),.int .i64 (0 : Int),.int .i64 (0 : Int),.int .i64 (0 : Int),.bool false,.bool false,.bool false,.bool false,.int .i64 (0 : Int),.int .i64 (((⟨(0 : Int),(0 : Int),(0 : Int)⟩ : A3 (Int))).x0),.int .i64 (((⟨(0 : Int),(0 : Int),(0 : Int)⟩ : A3 (Int))).x1),.int .i64 (((⟨(0 : Int),(0 : Int),(0 : Int)⟩ : A3 (Int))).x2),.int .i64 (0 : Int),.int .i64 (0 : Int),.int .i64 (0 : Int),.bool false,.int .i64 (0 : Int),.int .i64 (0 : Int)],bx [1] (encSObject a0)]) (aN) <| Gg (nA 6) (uo [] [] [.k 0,.e (bx [1] (encSObject ({ { { a0 with Attack := (-1 : Int) } with Blocked := false } with Blocks := (0 : Int) })))]) (aN) <| Gg [.a,.a] (uo [1] [] [.e (bx [2] (encSObject ({ { { a0 with Attack := (-1 : Int) } with Blocked := false } with Blocks := (0 : Int) })))]) (aN) <| hR <| bE (vA encSObject ({ { { a0 with Attack := (-1 : Int) } with Blocked := false } with Blocks := (0 : Int) })) (.agg (encSObject ({ { { a0 with Attack := (-1 : Int) } with Blocked := false } with Blocks := (0 : Int) }))) (congrArg (vA encSObject) (sI h))
/-- cmp.isNaN[int] -/
def cmp_isNaN_int (a0 : Int) : Option (Bool) :=
 some (a0 != a0)
def cmp_isNaN_int_C (a0 : Int) (r : Bool) : Prop := PCall Tryz.prog I0 81 [vI a0] (· = vB r)
theorem cmp_isNaN_int_ok {a0 : Int} {r : Bool} (h : cmp_isNaN_int a0 = some r) : cmp_isNaN_int_C a0 r := by
 refine PCall.bo I0_stable Tryz.func81 rfl Tryz.ntmps81 [.tmp 2] fun _ _ _ _ => ?_
 unfold cmp_isNaN_int at h
 exact Gg [.a] (u [] []) (aN) <| Rg (nA 4) (sl 6 [(2,vB (a0 != a0))] []) (aN) <| hR <| bQ _ (kB h)
def state_effects_J2 (a0 : SState) : Option (Bool) :=
 (some (if (decide ((a0.Waiting.length : Int) ≤ (64 : Int))) = true then decide ((a0.Conts.length : Int) ≤ (64 : Int)) else false)).bind fun b3 =>
 some b3
def state_effects_B4 (a0 : SState) : Option ((Unit) ⊕ (Unit)) :=
 (if (decide ((0 : Int) < (a0.Conts.length : Int))) = true then
  (idx a0.Conts (0 : Int)).bind fun e6 =>
  none
 else
  some (.inr ()))
def state_effects_J1 (a0 : SState) : Option (Bool) :=
 (iter (fun (v : Unit) => state_effects_B4 a0) FU ()).bind (fun o0 => state_effects_J2 a0)
def state_effects_B10 (a0 : SState) : Option ((Unit) ⊕ (Unit)) :=
 (if (decide ((0 : Int) < (a0.Waiting.length : Int))) = true then
  (idx a0.Waiting (0 : Int)).bind fun e12 =>
  none
 else
  some (.inr ()))
/-- cardgame/state.effects -/
def state_effects (a0 : SState) : Option (Bool) :=
 (iter (fun (v : Unit) => state_effects_B10 a0) FU ()).bind (fun o0 => state_effects_J1 a0)
def state_effects_C (a0 : SState) (r : Bool) : Prop := PCall Tryz.prog I0 30 [vA encSState a0] (· = vB r)
theorem state_effects_ok {a0 : SState} {r : Bool} (h : state_effects a0 = some r) : state_effects_C a0 r := by
 refine PCall.bo I0_stable Tryz.func30 rfl Tryz.ntmps30 [.tmp 2] fun _ _ _ _ => ?_
 unfold state_effects at h
 refine Rg [.a,.a] (sl 90 [(1,vP [1] (0))] [bx [1] (encSState a0)]) (aN) <| Gj (X := Unit) (fun v => (u [] [])) (fun v => state_effects_J1 a0 = some r) ?_ ?_
 · refine Gg (nA 4) (u [] [(8,vL encSWaiting a0.Waiting),(9,vI (a0.Waiting.length : Int)),(10,vI (0 : Int))]) (aN) <| hB ?_
   obtain ⟨j1,p0,h⟩ := bS h
   refine Gi (fun (v : Unit) => (u [] [])) p0 (wT) ?_
   rintro _ z0 i0 q0
   replace i0 : state_effects_B10 a0 = some z0 := i0
   unfold state_effects_B10 at i0
   refine Gg [.a] (u [] [(11,vB (decide ((0 : Int) < (a0.Waiting.length : Int))))]) (aN) <| hS <| iC i0 (fun i0 => ?_) (fun i0 => ?_)
   · refine hK <| Tn <| hS <| hB ?_
     obtain ⟨n0,o0,i0⟩ := bS i0
     refine Gg [.a,(.v (vA encSWaiting n0)),.a,.a] (uo [11] [(4,vP [4] (0))] [.e (bx [4] (encSWaiting n0)),.k 0]) (aC (idx_b o0) <| aC (eld o0 lenSWaiting 0 89 true (vA encSWaiting n0)) <| aC (Eq.refl (vA encSWaiting n0)) <| aN) ?_
     cases i0
   refine hE <| Te ?_
   obtain rfl := q0 _ (sI i0).symm
   refine Te <| qX <| Tn ⟨(),h,wT⟩
 rintro _ k0
 replace k0 : state_effects_J1 a0 = some r := k0
 unfold state_effects_J1 at k0
 refine Gj (X := Unit) (fun v => (u [] [])) (fun v => state_effects_J2 a0 = some r) ?_ ?_
 · refine Gg (nA 4) (u [] [(36,vL encSCont a0.Conts),(37,vI (a0.Conts.length : Int)),(38,vI (0 : Int))]) (aN) <| hB ?_
   obtain ⟨k1,x0,k0⟩ := bS k0
   refine Gi (fun (v : Unit) => (u [] [])) x0 (wT) ?_
   rintro _ i1 j0 y0
   replace j0 : state_effects_B4 a0 = some i1 := j0
   unfold state_effects_B4 at j0
   refine Gg [.a] (u [] [(39,vB (decide ((0 : Int) < (a0.Conts.length : Int))))]) (aN) <| hS <| iC j0 (fun j0 => ?_) (fun j0 => ?_)
   · refine hK <| Tn <| hS <| hB ?_
     obtain ⟨e6,t0,j0⟩ := bS j0
     refine Gg [.a,(.v (vA encSCont e6)),.a,.a] (uo [39] [(6,vP [6] (0))] [.e (bx [6] (encSCont e6)),.k 0]) (aC (idx_b t0) <| aC (eld t0 lenSCont 0 6 true (vA encSCont e6)) <| aC (Eq.refl (vA encSCont e6)) <| aN) ?_
     cases j0
   refine hE <| Te ?_
   obtain rfl := y0 _ (sI j0).symm
   refine Te <| qX <| Tn ⟨(),k0,wT⟩
 rintro _ m0
 replace m0 : state_effects_J2 a0 = some r := m0
 unfold state_effects_J2 at m0
 obtain ⟨b3,d1,m0⟩ := bS m0
 exact Rg [.a,.a,.a,.a,.a,.a,.a,.a,.a,(.v (vB b3)),.a] (sl 90 [(2,vB b3)] []) (aG ((decide ((a0.Waiting.length : Int) ≤ (64 : Int))) == true) <| aG ((decide ((a0.Waiting.length : Int) ≤ (64 : Int))) == true) <| aG ((decide ((a0.Waiting.length : Int) ≤ (64 : Int))) == true) <| aT (decide ((a0.Waiting.length : Int) ≤ (64 : Int))) <| aB d1 <| aN) <| hR <| bQ _ (kB m0)
/-- cardgame/audit.living -/
def audit_living (a0 : SState) (a1 : Int) : Option (Bool) :=
 (some (if (decide ((0 : Int) ≤ a1)) = true then decide (a1 < (a0.Players.length : Int)) else false)).bind fun b1 =>
 (gd (b1 == true) (idx a0.Players a1)).bind fun e2 =>
 (some (if b1 = true then !e2.Lost else false)).bind fun b3 =>
 some b3
def audit_living_C (a0 : SState) (a1 : Int) (r : Bool) : Prop := PCall Tryz.prog I0 17 [vA encSState a0, vI a1] (· = vB r)
theorem audit_living_ok {a0 : SState} {a1 : Int} {r : Bool} (h : audit_living a0 a1 = some r) : audit_living_C a0 a1 r := by
 refine PCall.bo I0_stable Tryz.func17 rfl Tryz.ntmps17 [.tmp 4] fun _ _ _ _ => ?_
 unfold audit_living at h
 refine Gg [.a,.a] (uo [0] [(2,vP [2] (0))] [.e (bx [2] (encSState a0))]) (aN) ?_
 obtain ⟨b1,j0,e2,i0,b3,k0,h⟩ := bS3 h
 exact Rg [.a,.a,.a,.a,.a,.a,.a,.a,(.v (vB b1)),.a,.a,.a,.a,.a,.a,(.v (vB e2.Lost)),.a,(.v (vB b3)),.a] (sl 23 [(4,vB b3)] []) (aG ((decide ((0 : Int) ≤ a1)) == true) <| aG ((decide ((0 : Int) ≤ a1)) == true) <| aH ((decide ((0 : Int) ≤ a1)) == true) <| aT (decide ((0 : Int) ≤ a1)) <| aB j0 <| aG (b1 == true) <| aC (fun hg : (b1 == true) = true => aC (gi (b1 == true)) <| aC (gi (b1 == true)) <| aC (gidx_b i0 hg).1 <| aN) <| aG (b1 == true) <| aC (fun hg : (b1 == true) = true => aC (gi (b1 == true)) <| aC (eld (gd_t i0 hg) lenSPlayer 10 1 false (vB e2.Lost)) <| aC (Eq.refl (vB e2.Lost)) <| aN) <| aG (b1 == true) <| aT b1 <| aB k0 <| aN) <| hR <| bQ _ (kB h)
def audit_Census_J2  (l5_1 : List (Int)) : Option ((List (Int))) :=
 (need (l5_1.length < 4611686018427387904)).bind fun u3 =>
 some (srtI l5_1)
def audit_Census_J12 (vt11_6 : Int) (l5_11 : List (Int)) : Option ((Int × (List (Int))) ⊕ ((List (Int)))) :=
 some (.inl ((wrap64 (vt11_6 + (1 : Int))), l5_11))
def audit_Census_B9 (a0 : SState) (a1 : Int) (vt11_6 : Int) (l5_7 : List (Int)) : Option ((Int × (List (Int))) ⊕ ((List (Int)))) :=
 (if (decide (vt11_6 < (a0.Objects.length : Int))) = true then
  (idx a0.Objects vt11_6).bind fun e13 =>
  (some (if (e13.Owner == a1) = true then !e13.Token else false)).bind fun b14 =>
  (if b14 = true then
   (app 8 l5_7 ([e13.Card] : List (Int))).bind fun l16 =>
   audit_Census_J12 vt11_6 l16
  else
   audit_Census_J12 vt11_6 l5_7)
 else
  some (.inr l5_7))
/-- cardgame/audit.Census -/
def audit_Census (a0 : SState) (a1 : Int) : Option ((List (Int))) :=
 (iter (fun (v : Int × (List (Int))) => audit_Census_B9 a0 a1 v.1 v.2) FU ((0 : Int), ([] : List (Int)))).bind (fun o0 => audit_Census_J2 o0)
def audit_Census_C (a0 : SState) (a1 : Int) (r : (List (Int))) : Prop := PCall Tryz.prog I0 5 [vA encSState a0, vI a1] (· = vL (eI .i64) r)
theorem audit_Census_ok {a0 : SState} {a1 : Int} {r : (List (Int))} (h : audit_Census a0 a1 = some r) : audit_Census_C a0 a1 r := by
 refine PCall.bo I0_stable Tryz.func5 rfl Tryz.ntmps5 [.tmp 4] fun _ _ _ _ => ?_
 unfold audit_Census at h
 refine Gg [.a,.a] (uo [0] [(2,vP [2] (0))] [.e (bx [2] (encSState a0))]) (aN) <| Gg [.a] (uo [] [(5,vO [5])] [.e (rw_ [5] 3 1 (eI .i64) ([] : List (Int))),.k 0]) (aN) <| Sj (X := (List (Int))) (fun v => (sl 33 [(5,vO [5])] [rw_ [5] 3 1 (eI .i64) v])) (fun v => audit_Census_J2 v = some r) ?_ ?_
 · refine Gg (nA 4) (uo [2] [(9,vL encSObject a0.Objects),(10,vI (a0.Objects.length : Int)),(11,vI (0 : Int))] [.k 0]) (aN) <| hB ?_
   obtain ⟨n1,j1,h⟩ := bS h
   refine Gi (fun (v : Int × (List (Int))) => (uo [] [(11,vI v.1)] [.e (rw_ [5] 3 1 (eI .i64) v.2)])) j1 (wT) ?_
   rintro ⟨j0,p0⟩ d1 i0 k1
   replace i0 : audit_Census_B9 a0 a1 j0 p0 = some d1 := i0
   unfold audit_Census_B9 at i0
   refine Gg [.a] (u [] [(12,vB (decide (j0 < (a0.Objects.length : Int))))]) (aN) <| hS <| iC i0 (fun i0 => ?_) (fun i0 => ?_)
   · refine hK <| Tn <| Gj (X := (List (Int))) (fun v => (uo [12] [] [.e (rw_ [5] 3 1 (eI .i64) v)])) (fun v => audit_Census_J12 j0 v = some d1) ?_ ?_
     · refine hB ?_
       obtain ⟨k0,y0,i0⟩ := bS i0
       refine Gg [.a,(.v (vA encSObject k0)),.a,.a] (uo [12] [(7,vP [7] (0))] [.e (bx [7] (encSObject k0)),.k 0]) (aC (idx_b y0) <| aC (eld y0 lenSObject 0 19 true (vA encSObject k0)) <| aC (Eq.refl (vA encSObject k0)) <| aN) ?_
       obtain ⟨x0,i1,i0⟩ := bS i0
       refine Gg [.a,.a,.a,.a,.a,.a,.a,.a,(.v (vB x0))] (u [] [(23,vB x0)]) (aG ((k0.Owner == a1) == true) <| aG ((k0.Owner == a1) == true) <| aT (k0.Owner == a1) <| aB i1 <| aN) <| iC i0 (fun i0 => ?_) (fun i0 => ?_)
       · obtain ⟨q0,z0,i0⟩ := bS i0
         refine Re [.a,.a,.a,.a,(.e q0.length (q0.flatMap (eI .i64))),.a] (sl 33 [(1,vI a1),(5,vO [5]),(7,vP [7] (0)),(9,vL encSObject a0.Objects),(10,vI (a0.Objects.length : Int)),(11,vI j0),(23,vB x0),(25,vP [7] (1)),(26,vI k0.Card),(27,vO [27]),(28,vO [5])] [rw_ [5] 3 1 (eI .i64) q0,rw_ [27] 3 1 (eI .i64) ([k0.Card] : List (Int)),bx [7] (encSObject k0)]) (aC (ap1 z0 (eI .i64)) <| aC (app_b z0) <| aN) <| qN <| Tn ⟨q0,i0,wT⟩
       refine hK <| qN <| Tn ⟨p0,i0,wT⟩
     rintro t0 n0
     replace n0 : audit_Census_J12 j0 t0 = some d1 := n0
     unfold audit_Census_J12 at n0
     refine Ge [.a,.a] (u [] [(11,vI (wrap64 (j0 + (1 : Int)))),(29,vI (wrap64 (j0 + (1 : Int))))]) (aN) <| Tn ⟨((wrap64 (j0 + (1 : Int))),t0),(sI n0).symm,wT⟩
   refine hE <| Te ?_
   obtain rfl := k1 _ (sI i0).symm
   refine Te <| qX <| Tn ⟨p0,h,wT⟩
 rintro o0 m0
 replace m0 : audit_Census_J2 o0 = some r := m0
 unfold audit_Census_J2 at m0
 refine hS <| hO <| Gp 1 [.a] (u [] [(30,vO [5])]) (aN) ?_
 obtain ⟨u3,m1,m0⟩ := bS m0
 refine Run.inl rfl rfl (Esc.sortF (r := [5]) (E := 3) (l := o0) (by kernel_rfl) sortSome sortNone (need_b m1) ?_)
 exact Gw [] (u [] []) (aN) <| Tn <| Gg [.a,.a] (u [5,30,31] [(4,vO [5])]) (aN) <| hR <| bE (vO [5]) (vL (eI .i64) (srtI o0)) (congrArg (vL (eI .i64)) (sI m0))
def slices_Equal_int_int_J2  : Option (Bool) :=
 some true
def slices_Equal_int_int_B5 (a0 : List (Int)) (a1 : List (Int)) (vt13_4 : Int) : Option ((Int) ⊕ (Unit ⊕ Unit)) :=
 (if (decide (vt13_4 < (a0.length : Int))) = true then
  (idx a0 vt13_4).bind fun e7 =>
  (idx a1 vt13_4).bind fun e8 =>
  (if (e7 != e8) = true then
   some (.inr (.inr ()))
  else
   some (.inl (wrap64 (vt13_4 + (1 : Int)))))
 else
  some (.inr (.inl ())))
/-- slices.Equal[[]int,int] -/
def slices_Equal_int_int (a0 : List (Int)) (a1 : List (Int)) : Option (Bool) :=
 (if ((a0.length : Int) != (a1.length : Int)) = true then
  some false
 else
  (iter (fun (v : Int) => slices_Equal_int_int_B5 a0 a1 v) FU (0 : Int)).bind (Sum.elim (fun o0 => slices_Equal_int_int_J2) (fun o1 => some false)))
def slices_Equal_int_int_C (a0 : List (Int)) (a1 : List (Int)) (r : Bool) : Prop := PCall Tryz.prog I0 18 [vL (eI .i64) a0, vL (eI .i64) a1] (· = vB r)
theorem slices_Equal_int_int_ok {a0 : List (Int)} {a1 : List (Int)} {r : Bool} (h : slices_Equal_int_int a0 a1 = some r) : slices_Equal_int_int_C a0 a1 r := by
 refine PCall.bo I0_stable Tryz.func18 rfl Tryz.ntmps18 [.tmp 4] fun _ _ _ _ => ?_
 unfold slices_Equal_int_int at h
 refine Gg [.a] (u [] []) (aN) <| hS <| Gg (nA 5) (u [] [(10,vB ((a0.length : Int) != (a1.length : Int)))]) (aN) <| iC h (fun h => ?_) (fun h => ?_)
 · exact Rg [.a] (sl 26 [(4,vB false)] []) (aN) <| hR <| Tr <| bQ _ (kB h)
 refine hK <| Tn <| Sj (X := Unit) (fun v => (sl 26 [] [])) (fun v => slices_Equal_int_int_J2 = some r) ?_ ?_
 · refine Gg (nA 3) (u [10] [(12,vI (a0.length : Int)),(13,vI (0 : Int))]) (aN) <| hB ?_
   obtain ⟨t0,p0,h⟩ := bS h
   refine Gi (fun (v : Int) => (u [] [(13,vI v)])) p0 (wT) ?_
   rintro j0 q0 i0 m0
   replace i0 : slices_Equal_int_int_B5 a0 a1 j0 = some q0 := i0
   unfold slices_Equal_int_int_B5 at i0
   refine Gg [.a] (u [] [(14,vB (decide (j0 < (a0.length : Int))))]) (aN) <| hS <| iC i0 (fun i0 => ?_) (fun i0 => ?_)
   · refine hK <| Tn <| hS <| hB <| Gg [.a,.a] (u [14] [(5,vI j0)]) (aN) ?_
     obtain ⟨e7,n0,e8,o0,i0⟩ := bS2 i0
     refine Gq followsP [.a,.a,.a,(.v (vI e7)),.a,.a,.a,(.v (vI e8)),.a] (u [5] [(24,vB (e7 != e8))]) (aC (idx_b n0) <| aC (eld n0 (lenI .i64) 0 1 false (vI e7)) <| aC (Eq.refl (vI e7)) <| aC (idx_b o0) <| aC (eld o0 (lenI .i64) 0 1 false (vI e8)) <| aC (Eq.refl (vI e8)) <| aN) <| iC i0 (fun i0 => ?_) (fun i0 => ?_)
     · refine Rg [.a] (sl 26 [(4,vB false)] []) (aN) <| hR <| qR <| Tr ?_
       obtain rfl := m0 _ (sI i0).symm
       replace h := sumR h
       exact Tr <| qR <| Tr <| bQ _ (kB h)
     refine hK <| qN <| Tn <| Re [.a,.a] (sl 26 [(0,vL (eI .i64) a0),(1,vL (eI .i64) a1),(12,vI (a0.length : Int)),(13,vI (wrap64 (j0 + (1 : Int)))),(24,vB (e7 != e8)),(25,vI (wrap64 (j0 + (1 : Int))))] []) (aN) <| Tn ⟨(wrap64 (j0 + (1 : Int))),(sI i0).symm,wT⟩
   refine hE <| Te ?_
   obtain rfl := m0 _ (sI i0).symm
   replace h := sumL h
   refine Te <| qX <| Tn ⟨(),h,wT⟩
 rintro _ k0
 replace k0 : slices_Equal_int_int_J2 = some r := k0
 unfold slices_Equal_int_int_J2 at k0
 exact Rg [.a] (sl 26 [(4,vB true)] []) (aN) <| hR <| bQ _ (kB k0)
def mana_Is_J1 (a0 : SCost) : Option (Bool) :=
 (some (if (decide ((0 : Int) ≤ a0.Generic)) = true then decide (a0.Generic ≤ (99 : Int)) else false)).bind fun b2 =>
 (some (if b2 = true then decide ((0 : Int) ≤ a0.X) else false)).bind fun b3 =>
 (some (if b3 = true then decide (a0.X ≤ (2 : Int)) else false)).bind fun b4 =>
 some b4
def mana_Is_B7 (a0 : SCost) (vt7_6 : Int) : Option ((Int) ⊕ (Unit ⊕ Unit)) :=
 (if (decide (vt7_6 < (5 : Int))) = true then
  (idx a0.Color.l vt7_6).bind fun e9 =>
  (some (if (decide (e9 < (0 : Int))) = true then true else decide ((9 : Int) < e9))).bind fun b10 =>
  (if b10 = true then
   some (.inr (.inr ()))
  else
   some (.inl (wrap64 (vt7_6 + (1 : Int)))))
 else
  some (.inr (.inl ())))
/-- cardgame/mana.Is -/
def mana_Is (a0 : SCost) : Option (Bool) :=
 (iter (fun (v : Int) => mana_Is_B7 a0 v) FU (0 : Int)).bind (Sum.elim (fun o0 => mana_Is_J1 a0) (fun o1 => some false))
def mana_Is_C (a0 : SCost) (r : Bool) : Prop := PCall Tryz.prog I0 129 [vA encSCost a0] (· = vB r)
theorem mana_Is_ok {a0 : SCost} {r : Bool} (h : mana_Is a0 = some r) : mana_Is_C a0 r := by
 refine PCall.bo I0_stable Tryz.func129 rfl Tryz.ntmps129 [.tmp 2] fun _ _ _ _ => ?_
 unfold mana_Is at h
 refine Rg [.a,.a] (sl 35 [(1,vP [1] (0))] [bx [1] (encSCost a0)]) (aN) <| Gj (X := Unit) (fun v => (u [] [])) (fun v => mana_Is_J1 a0 = some r) ?_ ?_
 · refine Gg (nA 3) (u [] [(6,vA (eA5 (eI .i64)) a0.Color),(7,vI (0 : Int))]) (aN) <| hB ?_
   obtain ⟨d1,q0,h⟩ := bS h
   refine Gi (fun (v : Int) => (u [] [(7,vI v)])) q0 (wT) ?_
   rintro j0 z0 i0 m0
   replace i0 : mana_Is_B7 a0 j0 = some z0 := i0
   unfold mana_Is_B7 at i0
   refine Gg [.a] (u [] [(8,vB (decide (j0 < (5 : Int))))]) (aN) <| hS <| iC i0 (fun i0 => ?_) (fun i0 => ?_)
   · refine hK <| Tn <| hS <| hB ?_
     obtain ⟨e9,o0,i0⟩ := bS i0
     refine Gg [(.v (vI e9)),.a] (u [8] [(4,vI e9)]) (aC (show (0 ≤ j0 ∧ j0 < ((5 : Nat) : Int)) ∧ (j0).toNat * 1 + 1 ≤ (eA5 (eI .i64) a0.Color).length ∧ toV false ((j0).toNat * 1) 1 (eA5 (eI .i64) a0.Color) = vI e9 from ⟨idx_b o0,arr_ld (e := eI .i64) (N := 1) (l := a0.Color.l) (base := 0) (pre := []) (post := []) (by kernel_rfl) rfl o0 (lenI .i64) (o := 0) (by simp) (by decide) (by decide) (by kernel_rfl)⟩) <| aC (Eq.refl (vI e9)) <| aN) ?_
     obtain ⟨n0,p0,i0⟩ := bS i0
     refine Gg [.a,.a,.a,.a,.a,(.v (vB n0))] (u [4] [(15,vB n0)]) (aG ((decide (e9 < (0 : Int))) == false) <| aF (decide (e9 < (0 : Int))) <| aB p0 <| aN) <| iC i0 (fun i0 => ?_) (fun i0 => ?_)
     · refine Rg [.a] (sl 35 [(2,vB false)] []) (aN) <| hR <| qR <| Tr ?_
       obtain rfl := m0 _ (sI i0).symm
       replace h := sumR h
       exact Tr <| qR <| Tr <| bQ _ (kB h)
     refine hK <| qN <| Tn <| Ge [.a,.a] (u [] [(7,vI (wrap64 (j0 + (1 : Int)))),(16,vI (wrap64 (j0 + (1 : Int))))]) (aN) <| Tn ⟨(wrap64 (j0 + (1 : Int))),(sI i0).symm,wT⟩
   refine hE <| Te ?_
   obtain rfl := m0 _ (sI i0).symm
   replace h := sumL h
   refine Te <| qX <| Tn ⟨(),h,wT⟩
 rintro _ k0
 replace k0 : mana_Is_J1 a0 = some r := k0
 unfold mana_Is_J1 at k0
 obtain ⟨b2,t0,b3,x0,b4,y0,k0⟩ := bS3 k0
 exact Rg [.a,.a,.a,.a,.a,.a,.a,(.v (vB b2)),.a,.a,.a,.a,(.v (vB b3)),.a,.a,.a,.a,(.v (vB b4)),.a] (sl 35 [(2,vB b4)] []) (aG ((decide ((0 : Int) ≤ a0.Generic)) == true) <| aG ((decide ((0 : Int) ≤ a0.Generic)) == true) <| aT (decide ((0 : Int) ≤ a0.Generic)) <| aB t0 <| aG (b2 == true) <| aG (b2 == true) <| aT b2 <| aB x0 <| aG (b3 == true) <| aG (b3 == true) <| aT b3 <| aB y0 <| aN) <| hR <| bQ _ (kB k0)
def slices_Clone_string_string (a0 : List (List UInt8)) : Option (List (List UInt8)) := if a0.length * 16 ≤ 140737488355328 ∧ a0.length ≤ maxLen then some a0 else none
theorem slices_Clone_string_string_okO {a0 r : List (List UInt8)} (h : slices_Clone_string_string a0 = some r) : PCallO Tryz.prog I0 183 [vL (eS) a0] 9 1 (fun len cs => len = r.length ∧ cs = r.flatMap (eS)) := by
  refine PCallO.of (t := 2) (m := 8) I0_stable (by kernel_rfl) Tryz.func183 rfl rfl Tryz.ntmps183 ?_
  intro w0 av old gv
  unfold slices_Clone_string_string at h
  split at h
  · rename_i hb
    injection h with h; subst h
    refine Rg [.a] (sl 8 [(0, vL (eS) a0)] []) (aN) ?_
    refine Holds.seq ?_
    refine Holds.seq ?_
    refine Holds.region ?_
    refine Rp 1 [.a] (sl 8 [(0, vL (eS) a0), (3, vL (eS) a0)] []) (aN) ?_
    refine Run.inl rfl rfl (Esc.nilq (len := a0.length) (cs := a0.flatMap (eS)) rfl (fun b hbn => ?_))
    refine Rw [] (sl 8 [(0, vL (eS) a0), (3, vL (eS) a0), (4, vB b)] []) (aN) ?_
    refine Tn ?_
    refine Holds.ifB b (by kernel_rfl) (fun hb1 => ?_) (fun hb1 => ?_)
    · have h0 : a0 = [] := List.length_eq_zero_iff.1 (hbn hb1)
      refine Rg [.a] (sl 8 [(2, .c (.osl [2]))] [rw_ [2] 9 1 (eS) ([] : List (List UInt8))]) (aN) ?_
      refine Holds.ret ?_
      refine Tr ?_
      exact ⟨.inr rfl, .inl ⟨[2], rw_ [2] 9 1 (eS) ([] : List (List UInt8)), 0, by kernel_rfl, by kernel_rfl, by kernel_rfl, by kernel_rfl, by rw [h0]; exact ⟨rfl, rfl⟩⟩⟩
    · refine Holds.skip ?_
      refine Tn ?_
      have hr : app 16 ([] : List (List UInt8)) a0 = some a0 := by unfold app; rw [if_pos ⟨by simpa using hb.1, by simpa using hb.2⟩]; rfl
      refine Rg [.a, .a, (.e a0.length (a0.flatMap (eS))), .a] (sl 8 [(2, .c (.osl [5]))] [rw_ [5] 9 1 (eS) a0]) (aC (show (a0.flatMap (eS)).length = a0.length * 1 from flat_len (enc := eS) (n := 1) lenS _) <| aC (ap1 hr (eS)) <| aC (app_b hr) <| aN) ?_
      refine Holds.ret ?_
      exact ⟨.inr rfl, .inl ⟨[5], rw_ [5] 9 1 (eS) a0, a0.length, by kernel_rfl, by kernel_rfl, by kernel_rfl, pureL_flatMap _ (fun _ => rfl) _, ⟨rfl, rfl⟩⟩⟩
  · cases h
def slices_Clone_string_string_C (a0 r : List (List UInt8)) : Prop := PCall Tryz.prog I0 183 [vL (eS) a0] (· = vL (eS) r)
theorem slices_Clone_string_string_ok {a0 r : List (List UInt8)} (h : slices_Clone_string_string a0 = some r) : slices_Clone_string_string_C a0 r := PCallO.flat (slices_Clone_string_string_okO h)

def slices_Clone_api_Mod_api_Mod (a0 : List (SMod)) : Option (List (SMod)) := if a0.length * 176 ≤ 140737488355328 ∧ a0.length ≤ maxLen then some a0 else none
theorem slices_Clone_api_Mod_api_Mod_okO {a0 r : List (SMod)} (h : slices_Clone_api_Mod_api_Mod a0 = some r) : PCallO Tryz.prog I0 140 [vL (encSMod) a0] 161 20 (fun len cs => len = r.length ∧ cs = r.flatMap (encSMod)) := by
  refine PCallO.of (t := 2) (m := 8) I0_stable (by kernel_rfl) Tryz.func140 rfl rfl Tryz.ntmps140 ?_
  intro w0 av old gv
  unfold slices_Clone_api_Mod_api_Mod at h
  split at h
  · rename_i hb
    injection h with h; subst h
    refine Rg [.a] (sl 8 [(0, vL (encSMod) a0)] []) (aN) ?_
    refine Holds.seq ?_
    refine Holds.seq ?_
    refine Holds.region ?_
    refine Rp 1 [.a] (sl 8 [(0, vL (encSMod) a0), (3, vL (encSMod) a0)] []) (aN) ?_
    refine Run.inl rfl rfl (Esc.nilq (len := a0.length) (cs := a0.flatMap (encSMod)) rfl (fun b hbn => ?_))
    refine Rw [] (sl 8 [(0, vL (encSMod) a0), (3, vL (encSMod) a0), (4, vB b)] []) (aN) ?_
    refine Tn ?_
    refine Holds.ifB b (by kernel_rfl) (fun hb1 => ?_) (fun hb1 => ?_)
    · have h0 : a0 = [] := List.length_eq_zero_iff.1 (hbn hb1)
      refine Rg [.a] (sl 8 [(2, .c (.osl [2]))] [rw_ [2] 161 20 (encSMod) ([] : List (SMod))]) (aN) ?_
      refine Holds.ret ?_
      refine Tr ?_
      exact ⟨.inr rfl, .inl ⟨[2], rw_ [2] 161 20 (encSMod) ([] : List (SMod)), 0, by kernel_rfl, by kernel_rfl, by kernel_rfl, by kernel_rfl, by rw [h0]; exact ⟨rfl, rfl⟩⟩⟩
    · refine Holds.skip ?_
      refine Tn ?_
      have hr : app 176 ([] : List (SMod)) a0 = some a0 := by unfold app; rw [if_pos ⟨by simpa using hb.1, by simpa using hb.2⟩]; rfl
      refine Rg [.a, .a, (.e a0.length (a0.flatMap (encSMod))), .a] (sl 8 [(2, .c (.osl [5]))] [rw_ [5] 161 20 (encSMod) a0]) (aC (show (a0.flatMap (encSMod)).length = a0.length * 20 from flat_len (enc := encSMod) (n := 20) lenSMod _) <| aC (ap1 hr (encSMod)) <| aC (app_b hr) <| aN) ?_
      refine Holds.ret ?_
      exact ⟨.inr rfl, .inl ⟨[5], rw_ [5] 161 20 (encSMod) a0, a0.length, by kernel_rfl, by kernel_rfl, by kernel_rfl, pureL_flatMap _ (fun _ => rfl) _, ⟨rfl, rfl⟩⟩⟩
  · cases h
def slices_Clone_api_Mod_api_Mod_C (a0 r : List (SMod)) : Prop := PCall Tryz.prog I0 140 [vL (encSMod) a0] (· = vL (encSMod) r)
theorem slices_Clone_api_Mod_api_Mod_ok {a0 r : List (SMod)} (h : slices_Clone_api_Mod_api_Mod a0 = some r) : slices_Clone_api_Mod_api_Mod_C a0 r := PCallO.flat (slices_Clone_api_Mod_api_Mod_okO h)

def slices_Clone_int_int (a0 : List (Int)) : Option (List (Int)) := if a0.length * 8 ≤ 140737488355328 ∧ a0.length ≤ maxLen then some a0 else none
theorem slices_Clone_int_int_okO {a0 r : List (Int)} (h : slices_Clone_int_int a0 = some r) : PCallO Tryz.prog I0 141 [vL (eI .i64) a0] 3 1 (fun len cs => len = r.length ∧ cs = r.flatMap (eI .i64)) := by
  refine PCallO.of (t := 2) (m := 8) I0_stable (by kernel_rfl) Tryz.func141 rfl rfl Tryz.ntmps141 ?_
  intro w0 av old gv
  unfold slices_Clone_int_int at h
  split at h
  · rename_i hb
    injection h with h; subst h
    refine Rg [.a] (sl 8 [(0, vL (eI .i64) a0)] []) (aN) ?_
    refine Holds.seq ?_
    refine Holds.seq ?_
    refine Holds.region ?_
    refine Rp 1 [.a] (sl 8 [(0, vL (eI .i64) a0), (3, vL (eI .i64) a0)] []) (aN) ?_
    refine Run.inl rfl rfl (Esc.nilq (len := a0.length) (cs := a0.flatMap (eI .i64)) rfl (fun b hbn => ?_))
    refine Rw [] (sl 8 [(0, vL (eI .i64) a0), (3, vL (eI .i64) a0), (4, vB b)] []) (aN) ?_
    refine Tn ?_
    refine Holds.ifB b (by kernel_rfl) (fun hb1 => ?_) (fun hb1 => ?_)
    · have h0 : a0 = [] := List.length_eq_zero_iff.1 (hbn hb1)
      refine Rg [.a] (sl 8 [(2, .c (.osl [2]))] [rw_ [2] 3 1 (eI .i64) ([] : List (Int))]) (aN) ?_
      refine Holds.ret ?_
      refine Tr ?_
      exact ⟨.inr rfl, .inl ⟨[2], rw_ [2] 3 1 (eI .i64) ([] : List (Int)), 0, by kernel_rfl, by kernel_rfl, by kernel_rfl, by kernel_rfl, by rw [h0]; exact ⟨rfl, rfl⟩⟩⟩
    · refine Holds.skip ?_
      refine Tn ?_
      have hr : app 8 ([] : List (Int)) a0 = some a0 := by unfold app; rw [if_pos ⟨by simpa using hb.1, by simpa using hb.2⟩]; rfl
      refine Rg [.a, .a, (.e a0.length (a0.flatMap (eI .i64))), .a] (sl 8 [(2, .c (.osl [5]))] [rw_ [5] 3 1 (eI .i64) a0]) (aC (show (a0.flatMap (eI .i64)).length = a0.length * 1 from flat_len (enc := eI .i64) (n := 1) (lenI .i64) _) <| aC (ap1 hr (eI .i64)) <| aC (app_b hr) <| aN) ?_
      refine Holds.ret ?_
      exact ⟨.inr rfl, .inl ⟨[5], rw_ [5] 3 1 (eI .i64) a0, a0.length, by kernel_rfl, by kernel_rfl, by kernel_rfl, pureL_flatMap _ (fun _ => rfl) _, ⟨rfl, rfl⟩⟩⟩
  · cases h
def slices_Clone_int_int_C (a0 r : List (Int)) : Prop := PCall Tryz.prog I0 141 [vL (eI .i64) a0] (· = vL (eI .i64) r)
theorem slices_Clone_int_int_ok {a0 r : List (Int)} (h : slices_Clone_int_int a0 = some r) : slices_Clone_int_int_C a0 r := PCallO.flat (slices_Clone_int_int_okO h)

def slices_Index_int_int_J1  : Option (Int) :=
 some (-1 : Int)
def slices_Index_int_int_B5 (a0 : List (Int)) (a1 : Int) (vt8_3 : Int) : Option ((Int) ⊕ (Unit ⊕ Int)) :=
 (if (decide (vt8_3 < (a0.length : Int))) = true then
  (idx a0 vt8_3).bind fun e7 =>
  (if (a1 == e7) = true then
   some (.inr (.inr vt8_3))
  else
   some (.inl (wrap64 (vt8_3 + (1 : Int)))))
 else
  some (.inr (.inl ())))
/-- slices.Index[[]int,int] -/
def slices_Index_int_int (a0 : List (Int)) (a1 : Int) : Option (Int) :=
 (iter (fun (v : Int) => slices_Index_int_int_B5 a0 a1 v) FU (0 : Int)).bind (Sum.elim (fun o0 => slices_Index_int_int_J1) (fun o1 => some o1))
def slices_Index_int_int_C (a0 : List (Int)) (a1 : Int) (r : Int) : Prop := PCall Tryz.prog I0 33 [vL (eI .i64) a0, vI a1] (· = vI r)
theorem slices_Index_int_int_ok {a0 : List (Int)} {a1 : Int} {r : Int} (h : slices_Index_int_int a0 a1 = some r) : slices_Index_int_int_C a0 a1 r := by
 refine PCall.bo I0_stable Tryz.func33 rfl Tryz.ntmps33 [.tmp 4] fun _ _ _ _ => ?_
 unfold slices_Index_int_int at h
 refine Gg [.a] (u [] []) (aN) <| Sj (X := Unit) (fun v => (sl 19 [] [])) (fun v => slices_Index_int_int_J1 = some r) ?_ ?_
 · refine Gg (nA 3) (u [] [(7,vI (a0.length : Int)),(8,vI (0 : Int))]) (aN) <| hB ?_
   obtain ⟨q0,o0,h⟩ := bS h
   refine Gi (fun (v : Int) => (u [] [(8,vI v)])) o0 (wT) ?_
   rintro j0 p0 i0 m0
   replace i0 : slices_Index_int_int_B5 a0 a1 j0 = some p0 := i0
   unfold slices_Index_int_int_B5 at i0
   refine Gg [.a] (u [] [(9,vB (decide (j0 < (a0.length : Int))))]) (aN) <| hS <| iC i0 (fun i0 => ?_) (fun i0 => ?_)
   · refine hK <| Tn <| hS <| hB <| Gg [.a,.a] (u [9] [(5,vI j0)]) (aN) ?_
     obtain ⟨e7,n0,i0⟩ := bS i0
     refine Gg [.a,.a,.a,.a,(.v (vI e7)),.a] (u [] [(16,vB (a1 == e7))]) (aC (idx_b n0) <| aC (eld n0 (lenI .i64) 0 1 false (vI e7)) <| aC (Eq.refl (vI e7)) <| aN) <| iC i0 (fun i0 => ?_) (fun i0 => ?_)
     · refine Rg [.a,.a] (sl 19 [(4,vI j0)] []) (aN) <| hR <| qR <| Tr ?_
       obtain rfl := m0 _ (sI i0).symm
       replace h := sumR h
       exact Tr <| qR <| Tr <| bQ _ (congrArg vI (sI h))
     refine hK <| qN <| Tn <| Ge [.a,.a] (u [] [(8,vI (wrap64 (j0 + (1 : Int)))),(18,vI (wrap64 (j0 + (1 : Int))))]) (aN) <| Tn ⟨(wrap64 (j0 + (1 : Int))),(sI i0).symm,wT⟩
   refine hE <| Te ?_
   obtain rfl := m0 _ (sI i0).symm
   replace h := sumL h
   refine Te <| qX <| Tn ⟨(),h,wT⟩
 rintro _ k0
 replace k0 : slices_Index_int_int_J1 = some r := k0
 unfold slices_Index_int_int_J1 at k0
 exact Rg [.a] (sl 19 [(4,vI (-1 : Int))] []) (aN) <| hR <| bQ _ (congrArg vI (sI k0))
def slices_EqualFunc_api_Object_api_Object_api_Object_api_Object_state_equal_api_Object_J2  : Option (Bool) :=
 some true
def slices_EqualFunc_api_Object_api_Object_api_Object_api_Object_state_equal_api_Object_B5 (a0 : List (SObject)) (a1 : List (SObject)) (vt17_4 : Int) : Option ((Int) ⊕ (Unit ⊕ Unit)) :=
 (if (decide (vt17_4 < (a0.length : Int))) = true then
  (idx a0 vt17_4).bind fun e7 =>
  (idx a1 vt17_4).bind fun e8 =>
  (if (!(e7 == e8)) = true then
   some (.inr (.inr ()))
  else
   some (.inl (wrap64 (vt17_4 + (1 : Int)))))
 else
  some (.inr (.inl ())))
/-- slices.EqualFunc[[]cardgame/api.Object,[]cardgame/api.Object,cardgame/api.Object,cardgame/api.Object] -/
def slices_EqualFunc_api_Object_api_Object_api_Object_api_Object_state_equal_api_Object (a0 : List (SObject)) (a1 : List (SObject)) : Option (Bool) :=
 (if ((a0.length : Int) != (a1.length : Int)) = true then
  some false
 else
  (iter (fun (v : Int) => slices_EqualFunc_api_Object_api_Object_api_Object_api_Object_state_equal_api_Object_B5 a0 a1 v) FU (0 : Int)).bind (Sum.elim (fun o0 => slices_EqualFunc_api_Object_api_Object_api_Object_api_Object_state_equal_api_Object_J2) (fun o1 => some false)))
def slices_EqualFunc_api_Object_api_Object_api_Object_api_Object_state_equal_api_Object_C (a0 : List (SObject)) (a1 : List (SObject)) (r : Bool) : Prop := PCall Tryz.prog I0 68 [vL encSObject a0, vL encSObject a1, .c (.fn 38)] (· = vB r)
theorem slices_EqualFunc_api_Object_api_Object_api_Object_api_Object_state_equal_api_Object_ok {a0 : List (SObject)} {a1 : List (SObject)} {r : Bool} (h : slices_EqualFunc_api_Object_api_Object_api_Object_api_Object_state_equal_api_Object a0 a1 = some r) : slices_EqualFunc_api_Object_api_Object_api_Object_api_Object_state_equal_api_Object_C a0 a1 r := by
 refine PCall.bo I0_stable Tryz.func68 rfl Tryz.ntmps68 [.tmp 6] fun _ _ _ _ => ?_
 unfold slices_EqualFunc_api_Object_api_Object_api_Object_api_Object_state_equal_api_Object at h
 refine Gg [.a] (u [] []) (aN) <| hS <| Gg (nA 5) (u [] [(14,vB ((a0.length : Int) != (a1.length : Int)))]) (aN) <| iC h (fun h => ?_) (fun h => ?_)
 · exact Rg [.a] (sl 32 [(6,vB false)] []) (aN) <| hR <| Tr <| bQ _ (kB h)
 refine hK <| Tn <| Sj (X := Unit) (fun v => (sl 32 [] [])) (fun v => slices_EqualFunc_api_Object_api_Object_api_Object_api_Object_state_equal_api_Object_J2 = some r) ?_ ?_
 · refine Gg (nA 3) (u [0,14] [(15,vL encSObject a0),(16,vI (a0.length : Int)),(17,vI (0 : Int))]) (aN) <| hB ?_
   obtain ⟨t0,p0,h⟩ := bS h
   refine Gi (fun (v : Int) => (u [] [(17,vI v)])) p0 (wT) ?_
   rintro j0 q0 i0 m0
   replace i0 : slices_EqualFunc_api_Object_api_Object_api_Object_api_Object_state_equal_api_Object_B5 a0 a1 j0 = some q0 := i0
   unfold slices_EqualFunc_api_Object_api_Object_api_Object_api_Object_state_equal_api_Object_B5 at i0
   refine Gg [.a] (u [] [(18,vB (decide (j0 < (a0.length : Int))))]) (aN) <| hS <| iC i0 (fun i0 => ?_) (fun i0 => ?_)
   · refine hK <| Tn <| hS <| hB ?_
     obtain ⟨e7,n0,i0⟩ := bS i0
     refine Gg [.a,.a,(.v (vA encSObject e7)),.a,.a,.a] (uo [18] [(7,vI j0),(8,vP [8] (0))] [.e (bx [8] (encSObject e7))]) (aC (idx_b n0) <| aC (eld n0 lenSObject 0 19 true (vA encSObject e7)) <| aC (Eq.refl (vA encSObject e7)) <| aN) ?_
     obtain ⟨e8,o0,i0⟩ := bS i0
     refine Gg [.a,.a,.a,(.v (vA encSObject e8)),.a,.a] (uo [7] [(9,vP [9] (0))] [.e (bx [9] (encSObject e8)),.k 0]) (aC (idx_b o0) <| aC (eld o0 lenSObject 0 19 true (vA encSObject e8)) <| aC (Eq.refl (vA encSObject e8)) <| aN) <| hS <| hO <| Rp 3 (nA 3) (sl 32 [(1,vL encSObject a1),(2,.c (.fn 38)),(8,vP [8] (0)),(9,vP [9] (0)),(15,vL encSObject a0),(16,vI (a0.length : Int)),(17,vI j0),(26,.c (.fn 38)),(27,vA encSObject e7),(28,vA encSObject e8)] [bx [9] (encSObject e8),bx [8] (encSObject e7)]) (aN) <| rI rfl rfl <| Ei 29 [vA encSObject e7,vA encSObject e8] [] Tryz.func38 Tryz.ntmps38 [.tmp 4] rfl rfl rfl rfl fun _ _ _ _ => Gg (nA 3) (uo [0,1] [(2,vP [2,29] (0)),(3,vP [3,29] (0))] [.e (bx [3,29] (encSObject e8)),.e (bx [2,29] (encSObject e7)),.k 0,.k 1]) (aN) <| Gg [.a,.a,(.v (vB (e7 == e8))),.a] (uo [2,3] [(4,vB (e7 == e8))] [.k 2,.k 3]) (aC (congrArg (fun z => V.c (.bool (z))) (eqT38 e7 e8)) <| aN) <| hR <| nR (vB (e7 == e8)) <| Gw [.a] (u [] [(30,vB (!(e7 == e8)))]) (aN) <| Tn <| iC i0 (fun i0 => ?_) (fun i0 => ?_)
     · refine Rg [.a] (sl 32 [(6,vB false)] []) (aN) <| hR <| qR <| Tr ?_
       obtain rfl := m0 _ (sI i0).symm
       replace h := sumR h
       exact Tr <| qR <| Tr <| bQ _ (kB h)
     refine hK <| qN <| Tn <| Ge [.a,.a] (u [] [(17,vI (wrap64 (j0 + (1 : Int)))),(31,vI (wrap64 (j0 + (1 : Int))))]) (aN) <| Tn ⟨(wrap64 (j0 + (1 : Int))),(sI i0).symm,wT⟩
   refine hE <| Te ?_
   obtain rfl := m0 _ (sI i0).symm
   replace h := sumL h
   refine Te <| qX <| Tn ⟨(),h,wT⟩
 rintro _ k0
 replace k0 : slices_EqualFunc_api_Object_api_Object_api_Object_api_Object_state_equal_api_Object_J2 = some r := k0
 unfold slices_EqualFunc_api_Object_api_Object_api_Object_api_Object_state_equal_api_Object_J2 at k0
 exact Rg [.a] (sl 32 [(6,vB true)] []) (aN) <| hR <| bQ _ (kB k0)
def slices_EqualFunc_api_Item_api_Item_api_Item_api_Item_state_sameItem_J2  : Option (Bool) :=
 some true
def slices_EqualFunc_api_Item_api_Item_api_Item_api_Item_state_sameItem_B3 (a0 : List (SItem)) (a1 : List (SItem)) : Option ((Unit) ⊕ (Unit)) :=
 (if (decide ((0 : Int) < (a0.length : Int))) = true then
  (idx a0 (0 : Int)).bind fun e5 =>
  (idx a1 (0 : Int)).bind fun e6 =>
  none
 else
  some (.inr ()))
/-- slices.EqualFunc[[]cardgame/api.Item,[]cardgame/api.Item,cardgame/api.Item,cardgame/api.Item] -/
def slices_EqualFunc_api_Item_api_Item_api_Item_api_Item_state_sameItem (a0 : List (SItem)) (a1 : List (SItem)) : Option (Bool) :=
 (if ((a0.length : Int) != (a1.length : Int)) = true then
  some false
 else
  (iter (fun (v : Unit) => slices_EqualFunc_api_Item_api_Item_api_Item_api_Item_state_sameItem_B3 a0 a1) FU ()).bind (fun o0 => slices_EqualFunc_api_Item_api_Item_api_Item_api_Item_state_sameItem_J2))
def slices_EqualFunc_api_Item_api_Item_api_Item_api_Item_state_sameItem_C (a0 : List (SItem)) (a1 : List (SItem)) (r : Bool) : Prop := PCall Tryz.prog I0 69 [vL encSItem a0, vL encSItem a1, .c (.fn 40)] (· = vB r)
theorem slices_EqualFunc_api_Item_api_Item_api_Item_api_Item_state_sameItem_ok {a0 : List (SItem)} {a1 : List (SItem)} {r : Bool} (h : slices_EqualFunc_api_Item_api_Item_api_Item_api_Item_state_sameItem a0 a1 = some r) : slices_EqualFunc_api_Item_api_Item_api_Item_api_Item_state_sameItem_C a0 a1 r := by
 refine PCall.bo I0_stable Tryz.func69 rfl Tryz.ntmps69 [.tmp 6] fun _ _ _ _ => ?_
 unfold slices_EqualFunc_api_Item_api_Item_api_Item_api_Item_state_sameItem at h
 refine Gg [.a] (u [] []) (aN) <| hS <| Gg (nA 5) (u [] [(14,vB ((a0.length : Int) != (a1.length : Int)))]) (aN) <| iC h (fun h => ?_) (fun h => ?_)
 · exact Rg [.a] (sl 32 [(6,vB false)] []) (aN) <| hR <| Tr <| bQ _ (kB h)
 refine hK <| Tn <| Sj (X := Unit) (fun v => (sl 32 [] [])) (fun v => slices_EqualFunc_api_Item_api_Item_api_Item_api_Item_state_sameItem_J2 = some r) ?_ ?_
 · refine Gg (nA 3) (u [0,14] [(15,vL encSItem a0),(16,vI (a0.length : Int)),(17,vI (0 : Int))]) (aN) <| hB ?_
   obtain ⟨q0,n0,h⟩ := bS h
   refine Gi (fun (v : Unit) => (u [] [])) n0 (wT) ?_
   rintro _ p0 i0 o0
   replace i0 : slices_EqualFunc_api_Item_api_Item_api_Item_api_Item_state_sameItem_B3 a0 a1 = some p0 := i0
   unfold slices_EqualFunc_api_Item_api_Item_api_Item_api_Item_state_sameItem_B3 at i0
   refine Gg [.a] (u [] [(18,vB (decide ((0 : Int) < (a0.length : Int))))]) (aN) <| hS <| iC i0 (fun i0 => ?_) (fun i0 => ?_)
   · refine hK <| Tn <| hS <| hB ?_
     obtain ⟨e5,k0,i0⟩ := bS i0
     refine Gg [.a,.a,(.v (vA encSItem e5)),.a,.a,.a] (uo [18] [(7,vI (0 : Int)),(8,vP [8] (0))] [.e (bx [8] (encSItem e5))]) (aC (idx_b k0) <| aC (eld k0 lenSItem 0 94 true (vA encSItem e5)) <| aC (Eq.refl (vA encSItem e5)) <| aN) ?_
     obtain ⟨e6,m0,i0⟩ := bS i0
     refine Gg [.a,.a,.a,(.v (vA encSItem e6)),.a,.a] (uo [7] [(9,vP [9] (0))] [.e (bx [9] (encSItem e6)),.k 0]) (aC (idx_b m0) <| aC (eld m0 lenSItem 0 94 true (vA encSItem e6)) <| aC (Eq.refl (vA encSItem e6)) <| aN) <| hS <| hO <| Rp 3 (nA 3) (sl 32 [(1,vL encSItem a1),(2,.c (.fn 40)),(8,vP [8] (0)),(9,vP [9] (0)),(15,vL encSItem a0),(16,vI (a0.length : Int)),(17,vI (0 : Int)),(26,.c (.fn 40)),(27,vA encSItem e5),(28,vA encSItem e6)] [bx [9] (encSItem e6),bx [8] (encSItem e5)]) (aN) <| rI rfl rfl <| Ei 29 [vA encSItem e5,vA encSItem e6] [] Tryz.func40 Tryz.ntmps40 [.tmp 4] rfl rfl rfl rfl fun _ _ _ _ => Gg (nA 3) (uo [0,1] [(2,vP [2,29] (0)),(3,vP [3,29] (0))] [.e (bx [3,29] (encSItem e6)),.e (bx [2,29] (encSItem e5)),.k 0,.k 1]) (aN) ?_
     cases i0
   refine hE <| Te ?_
   obtain rfl := o0 _ (sI i0).symm
   refine Te <| qX <| Tn ⟨(),h,wT⟩
 rintro _ j0
 replace j0 : slices_EqualFunc_api_Item_api_Item_api_Item_api_Item_state_sameItem_J2 = some r := j0
 unfold slices_EqualFunc_api_Item_api_Item_api_Item_api_Item_state_sameItem_J2 at j0
 exact Rg [.a] (sl 32 [(6,vB true)] []) (aN) <| hR <| bQ _ (kB j0)
def slices_EqualFunc_api_Waiting_api_Waiting_api_Waiting_api_Waiting_state_sameWaiting_J2  : Option (Bool) :=
 some true
def slices_EqualFunc_api_Waiting_api_Waiting_api_Waiting_api_Waiting_state_sameWaiting_B3 (a0 : List (SWaiting)) (a1 : List (SWaiting)) : Option ((Unit) ⊕ (Unit)) :=
 (if (decide ((0 : Int) < (a0.length : Int))) = true then
  (idx a0 (0 : Int)).bind fun e5 =>
  (idx a1 (0 : Int)).bind fun e6 =>
  none
 else
  some (.inr ()))
/-- slices.EqualFunc[[]cardgame/api.Waiting,[]cardgame/api.Waiting,cardgame/api.Waiting,cardgame/api.Waiting] -/
def slices_EqualFunc_api_Waiting_api_Waiting_api_Waiting_api_Waiting_state_sameWaiting (a0 : List (SWaiting)) (a1 : List (SWaiting)) : Option (Bool) :=
 (if ((a0.length : Int) != (a1.length : Int)) = true then
  some false
 else
  (iter (fun (v : Unit) => slices_EqualFunc_api_Waiting_api_Waiting_api_Waiting_api_Waiting_state_sameWaiting_B3 a0 a1) FU ()).bind (fun o0 => slices_EqualFunc_api_Waiting_api_Waiting_api_Waiting_api_Waiting_state_sameWaiting_J2))
def slices_EqualFunc_api_Waiting_api_Waiting_api_Waiting_api_Waiting_state_sameWaiting_C (a0 : List (SWaiting)) (a1 : List (SWaiting)) (r : Bool) : Prop := PCall Tryz.prog I0 72 [vL encSWaiting a0, vL encSWaiting a1, .c (.fn 42)] (· = vB r)
theorem slices_EqualFunc_api_Waiting_api_Waiting_api_Waiting_api_Waiting_state_sameWaiting_ok {a0 : List (SWaiting)} {a1 : List (SWaiting)} {r : Bool} (h : slices_EqualFunc_api_Waiting_api_Waiting_api_Waiting_api_Waiting_state_sameWaiting a0 a1 = some r) : slices_EqualFunc_api_Waiting_api_Waiting_api_Waiting_api_Waiting_state_sameWaiting_C a0 a1 r := by
 refine PCall.bo I0_stable Tryz.func72 rfl Tryz.ntmps72 [.tmp 6] fun _ _ _ _ => ?_
 unfold slices_EqualFunc_api_Waiting_api_Waiting_api_Waiting_api_Waiting_state_sameWaiting at h
 refine Gg [.a] (u [] []) (aN) <| hS <| Gg (nA 5) (u [] [(14,vB ((a0.length : Int) != (a1.length : Int)))]) (aN) <| iC h (fun h => ?_) (fun h => ?_)
 · exact Rg [.a] (sl 32 [(6,vB false)] []) (aN) <| hR <| Tr <| bQ _ (kB h)
 refine hK <| Tn <| Sj (X := Unit) (fun v => (sl 32 [] [])) (fun v => slices_EqualFunc_api_Waiting_api_Waiting_api_Waiting_api_Waiting_state_sameWaiting_J2 = some r) ?_ ?_
 · refine Gg (nA 3) (u [0,14] [(15,vL encSWaiting a0),(16,vI (a0.length : Int)),(17,vI (0 : Int))]) (aN) <| hB ?_
   obtain ⟨q0,n0,h⟩ := bS h
   refine Gi (fun (v : Unit) => (u [] [])) n0 (wT) ?_
   rintro _ p0 i0 o0
   replace i0 : slices_EqualFunc_api_Waiting_api_Waiting_api_Waiting_api_Waiting_state_sameWaiting_B3 a0 a1 = some p0 := i0
   unfold slices_EqualFunc_api_Waiting_api_Waiting_api_Waiting_api_Waiting_state_sameWaiting_B3 at i0
   refine Gg [.a] (u [] [(18,vB (decide ((0 : Int) < (a0.length : Int))))]) (aN) <| hS <| iC i0 (fun i0 => ?_) (fun i0 => ?_)
   · refine hK <| Tn <| hS <| hB ?_
     obtain ⟨e5,k0,i0⟩ := bS i0
     refine Gg [.a,.a,(.v (vA encSWaiting e5)),.a,.a,.a] (uo [18] [(7,vI (0 : Int)),(8,vP [8] (0))] [.e (bx [8] (encSWaiting e5))]) (aC (idx_b k0) <| aC (eld k0 lenSWaiting 0 89 true (vA encSWaiting e5)) <| aC (Eq.refl (vA encSWaiting e5)) <| aN) ?_
     obtain ⟨e6,m0,i0⟩ := bS i0
     refine Gg [.a,.a,.a,(.v (vA encSWaiting e6)),.a,.a] (uo [7] [(9,vP [9] (0))] [.e (bx [9] (encSWaiting e6)),.k 0]) (aC (idx_b m0) <| aC (eld m0 lenSWaiting 0 89 true (vA encSWaiting e6)) <| aC (Eq.refl (vA encSWaiting e6)) <| aN) <| hS <| hO <| Rp 3 (nA 3) (sl 32 [(1,vL encSWaiting a1),(2,.c (.fn 42)),(8,vP [8] (0)),(9,vP [9] (0)),(15,vL encSWaiting a0),(16,vI (a0.length : Int)),(17,vI (0 : Int)),(26,.c (.fn 42)),(27,vA encSWaiting e5),(28,vA encSWaiting e6)] [bx [9] (encSWaiting e6),bx [8] (encSWaiting e5)]) (aN) <| rI rfl rfl <| Ei 29 [vA encSWaiting e5,vA encSWaiting e6] [] Tryz.func42 Tryz.ntmps42 [.tmp 4] rfl rfl rfl rfl fun _ _ _ _ => Gg (nA 3) (uo [0,1] [(2,vP [2,29] (0)),(3,vP [3,29] (0))] [.e (bx [3,29] (encSWaiting e6)),.e (bx [2,29] (encSWaiting e5)),.k 0,.k 1]) (aN) ?_
     cases i0
   refine hE <| Te ?_
   obtain rfl := o0 _ (sI i0).symm
   refine Te <| qX <| Tn ⟨(),h,wT⟩
 rintro _ j0
 replace j0 : slices_EqualFunc_api_Waiting_api_Waiting_api_Waiting_api_Waiting_state_sameWaiting_J2 = some r := j0
 unfold slices_EqualFunc_api_Waiting_api_Waiting_api_Waiting_api_Waiting_state_sameWaiting_J2 at j0
 exact Rg [.a] (sl 32 [(6,vB true)] []) (aN) <| hR <| bQ _ (kB j0)
def slices_EqualFunc_api_Mod_api_Mod_api_Mod_api_Mod_state_equal_api_Mod_J2  : Option (Bool) :=
 some true
def slices_EqualFunc_api_Mod_api_Mod_api_Mod_api_Mod_state_equal_api_Mod_B5 (a0 : List (SMod)) (a1 : List (SMod)) (vt17_4 : Int) : Option ((Int) ⊕ (Unit ⊕ Unit)) :=
 (if (decide (vt17_4 < (a0.length : Int))) = true then
  (idx a0 vt17_4).bind fun e7 =>
  (idx a1 vt17_4).bind fun e8 =>
  (if (!(e7 == e8)) = true then
   some (.inr (.inr ()))
  else
   some (.inl (wrap64 (vt17_4 + (1 : Int)))))
 else
  some (.inr (.inl ())))
/-- slices.EqualFunc[[]cardgame/api.Mod,[]cardgame/api.Mod,cardgame/api.Mod,cardgame/api.Mod] -/
def slices_EqualFunc_api_Mod_api_Mod_api_Mod_api_Mod_state_equal_api_Mod (a0 : List (SMod)) (a1 : List (SMod)) : Option (Bool) :=
 (if ((a0.length : Int) != (a1.length : Int)) = true then
  some false
 else
  (iter (fun (v : Int) => slices_EqualFunc_api_Mod_api_Mod_api_Mod_api_Mod_state_equal_api_Mod_B5 a0 a1 v) FU (0 : Int)).bind (Sum.elim (fun o0 => slices_EqualFunc_api_Mod_api_Mod_api_Mod_api_Mod_state_equal_api_Mod_J2) (fun o1 => some false)))
def slices_EqualFunc_api_Mod_api_Mod_api_Mod_api_Mod_state_equal_api_Mod_C (a0 : List (SMod)) (a1 : List (SMod)) (r : Bool) : Prop := PCall Tryz.prog I0 113 [vL encSMod a0, vL encSMod a1, .c (.fn 75)] (· = vB r)
theorem slices_EqualFunc_api_Mod_api_Mod_api_Mod_api_Mod_state_equal_api_Mod_ok {a0 : List (SMod)} {a1 : List (SMod)} {r : Bool} (h : slices_EqualFunc_api_Mod_api_Mod_api_Mod_api_Mod_state_equal_api_Mod a0 a1 = some r) : slices_EqualFunc_api_Mod_api_Mod_api_Mod_api_Mod_state_equal_api_Mod_C a0 a1 r := by
 refine PCall.bo I0_stable Tryz.func113 rfl Tryz.ntmps113 [.tmp 6] fun _ _ _ _ => ?_
 unfold slices_EqualFunc_api_Mod_api_Mod_api_Mod_api_Mod_state_equal_api_Mod at h
 refine Gg [.a] (u [] []) (aN) <| hS <| Gg (nA 5) (u [] [(14,vB ((a0.length : Int) != (a1.length : Int)))]) (aN) <| iC h (fun h => ?_) (fun h => ?_)
 · exact Rg [.a] (sl 32 [(6,vB false)] []) (aN) <| hR <| Tr <| bQ _ (kB h)
 refine hK <| Tn <| Sj (X := Unit) (fun v => (sl 32 [] [])) (fun v => slices_EqualFunc_api_Mod_api_Mod_api_Mod_api_Mod_state_equal_api_Mod_J2 = some r) ?_ ?_
 · refine Gg (nA 3) (u [0,14] [(15,vL encSMod a0),(16,vI (a0.length : Int)),(17,vI (0 : Int))]) (aN) <| hB ?_
   obtain ⟨t0,p0,h⟩ := bS h
   refine Gi (fun (v : Int) => (u [] [(17,vI v)])) p0 (wT) ?_
   rintro j0 q0 i0 m0
   replace i0 : slices_EqualFunc_api_Mod_api_Mod_api_Mod_api_Mod_state_equal_api_Mod_B5 a0 a1 j0 = some q0 := i0
   unfold slices_EqualFunc_api_Mod_api_Mod_api_Mod_api_Mod_state_equal_api_Mod_B5 at i0
   refine Gg [.a] (u [] [(18,vB (decide (j0 < (a0.length : Int))))]) (aN) <| hS <| iC i0 (fun i0 => ?_) (fun i0 => ?_)
   · refine hK <| Tn <| hS <| hB ?_
     obtain ⟨e7,n0,i0⟩ := bS i0
     refine Gg [.a,.a,(.v (vA encSMod e7)),.a,.a,.a] (uo [18] [(7,vI j0),(8,vP [8] (0))] [.e (bx [8] (encSMod e7))]) (aC (idx_b n0) <| aC (eld n0 lenSMod 0 20 true (vA encSMod e7)) <| aC (Eq.refl (vA encSMod e7)) <| aN) ?_
     obtain ⟨e8,o0,i0⟩ := bS i0
     refine Gg [.a,.a,.a,(.v (vA encSMod e8)),.a,.a] (uo [7] [(9,vP [9] (0))] [.e (bx [9] (encSMod e8)),.k 0]) (aC (idx_b o0) <| aC (eld o0 lenSMod 0 20 true (vA encSMod e8)) <| aC (Eq.refl (vA encSMod e8)) <| aN) <| hS <| hO <| Rp 3 (nA 3) (sl 32 [(1,vL encSMod a1),(2,.c (.fn 75)),(8,vP [8] (0)),(9,vP [9] (0)),(15,vL encSMod a0),(16,vI (a0.length : Int)),(17,vI j0),(26,.c (.fn 75)),(27,vA encSMod e7),(28,vA encSMod e8)] [bx [9] (encSMod e8),bx [8] (encSMod e7)]) (aN) <| rI rfl rfl <| Ei 29 [vA encSMod e7,vA encSMod e8] [] Tryz.func75 Tryz.ntmps75 [.tmp 4] rfl rfl rfl rfl fun _ _ _ _ => Gg (nA 3) (uo [0,1] [(2,vP [2,29] (0)),(3,vP [3,29] (0))] [.e (bx [3,29] (encSMod e8)),.e (bx [2,29] (encSMod e7)),.k 0,.k 1]) (aN) <| Gg [.a,.a,(.v (vB (e7 == e8))),.a] (uo [2,3] [(4,vB (e7 == e8))] [.k 2,.k 3]) (aC (congrArg (fun z => V.c (.bool (z))) (eqT161 e7 e8)) <| aN) <| hR <| nR (vB (e7 == e8)) <| Gw [.a] (u [] [(30,vB (!(e7 == e8)))]) (aN) <| Tn <| iC i0 (fun i0 => ?_) (fun i0 => ?_)
     · refine Rg [.a] (sl 32 [(6,vB false)] []) (aN) <| hR <| qR <| Tr ?_
       obtain rfl := m0 _ (sI i0).symm
       replace h := sumR h
       exact Tr <| qR <| Tr <| bQ _ (kB h)
     refine hK <| qN <| Tn <| Ge [.a,.a] (u [] [(17,vI (wrap64 (j0 + (1 : Int)))),(31,vI (wrap64 (j0 + (1 : Int))))]) (aN) <| Tn ⟨(wrap64 (j0 + (1 : Int))),(sI i0).symm,wT⟩
   refine hE <| Te ?_
   obtain rfl := m0 _ (sI i0).symm
   replace h := sumL h
   refine Te <| qX <| Tn ⟨(),h,wT⟩
 rintro _ k0
 replace k0 : slices_EqualFunc_api_Mod_api_Mod_api_Mod_api_Mod_state_equal_api_Mod_J2 = some r := k0
 unfold slices_EqualFunc_api_Mod_api_Mod_api_Mod_api_Mod_state_equal_api_Mod_J2 at k0
 exact Rg [.a] (sl 32 [(6,vB true)] []) (aN) <| hR <| bQ _ (kB k0)
/-- cardgame/audit.Name -/
def audit_Name (a0 : Int) : Option ((List UInt8)) :=
 (some (if (decide (a0 < (1 : Int))) = true then true else decide ((6 : Int) < a0))).bind fun b1 =>
 (if b1 = true then
  some ([] : List UInt8)
 else
  (idx (⟨str_invalid, str_census, str_combat, str_pool, str_order, str_over⟩ : A6 (List UInt8)).l (wrap64 (a0 - (1 : Int)))).bind fun e3 =>
  some e3)
def audit_Name_C (a0 : Int) (r : (List UInt8)) : Prop := PCall Tryz.prog I0 7 [vI a0] (· = vS r)
theorem audit_Name_ok {a0 : Int} {r : (List UInt8)} (h : audit_Name a0 = some r) : audit_Name_C a0 r := by
 refine PCall.bo I0_stable Tryz.func7 rfl Tryz.ntmps7 [.tmp 2] fun _ _ _ _ => ?_
 unfold audit_Name at h
 refine Gg [.a] (u [] []) (aN) <| Gg (nA 3) (uo [] [(3,vP [3] (0))] [.e (bx [3] (eA6 (eS) (⟨str_invalid,str_census,str_combat,str_pool,str_order,str_over⟩ : A6 (List UInt8))))]) (aC (And.intro (show True ∧ (True ∧ (True ∧ (True ∧ (True ∧ (True ∧ True))))) from ⟨trivial,⟨trivial,⟨trivial,⟨trivial,⟨trivial,⟨trivial,trivial⟩⟩⟩⟩⟩⟩) okp59) <| aN) <| hS ?_
 obtain ⟨b1,j0,h⟩ := bS h
 refine Gg [.a,.a,.a,.a,.a,(.v (vB b1))] (u [] [(10,vB b1)]) (aG ((decide (a0 < (1 : Int))) == false) <| aF (decide (a0 < (1 : Int))) <| aB j0 <| aN) <| iC h (fun h => ?_) (fun h => ?_)
 · exact Rg [.a] (sl 15 [(2,vS ([] : List UInt8))] []) (aN) <| hR <| Tr <| bQ _ (congrArg vS (sI h))
 refine hK <| Tn ?_
 obtain ⟨e3,i0,h⟩ := bS h
 exact Rg [.a,.a,.a,(.v (vS e3)),.a] (sl 15 [(2,vS e3)] []) (aC (idx_b i0) <| aC (ald i0 lenS (eA6 (eS) (⟨str_invalid,str_census,str_combat,str_pool,str_order,str_over⟩ : A6 (List UInt8))) 0 6 0 1 false (vS e3)) <| aC (Eq.refl (vS e3)) <| aN) <| hR <| bQ _ (congrArg vS (sI h))
def r57_Census_J2  (out_t5_1 : List (Int)) : Option ((List (Int))) :=
 some out_t5_1
def r57_Census_J11 (i_t6_6 : Int) (out_t5_10 : List (Int)) : Option (((List (Int)) × Int) ⊕ ((List (Int)))) :=
 some (.inl (out_t5_10, (wrap64 (i_t6_6 + (1 : Int)))))
def r57_Census_J16 (out_t5_5 : List (Int)) (i_t6_6 : Int) (e12 : SObject) (at_t8_15 : Int) : Option (((List (Int)) × Int) ⊕ ((List (Int)))) :=
 (lsub out_t5_5 0 at_t8_15).bind fun l17 =>
 (app 8 ([] : List (Int)) l17).bind fun l18 =>
 (app 8 l18 ([e12.Card] : List (Int))).bind fun l19 =>
 (lsub out_t5_5 at_t8_15 (out_t5_5.length : Int)).bind fun l20 =>
 (app 8 l19 l20).bind fun l21 =>
 r57_Census_J11 i_t6_6 l21
def r57_Census_B25 (out_t5_5 : List (Int)) (e12 : SObject) (at_t8_23 : Int) : Option ((Int) ⊕ (Int)) :=
 (gd ((decide (at_t8_23 < (out_t5_5.length : Int))) == true) (idx out_t5_5 at_t8_23)).bind fun e26 =>
 (some (if (decide (at_t8_23 < (out_t5_5.length : Int))) = true then decide (e26 ≤ e12.Card) else false)).bind fun b27 =>
 (if b27 = true then
  some (.inl (wrap64 (at_t8_23 + (1 : Int))))
 else
  some (.inr at_t8_23))
def r57_Census_B8 (a0 : SState) (a1 : Int) (out_t5_5 : List (Int)) (i_t6_6 : Int) : Option (((List (Int)) × Int) ⊕ ((List (Int)))) :=
 (if (decide (i_t6_6 < (a0.Objects.length : Int))) = true then
  (idx a0.Objects i_t6_6).bind fun e12 =>
  (some (if (e12.Owner != a1) = true then true else e12.Token)).bind fun b13 =>
  (if b13 = true then
   r57_Census_J11 i_t6_6 out_t5_5
  else
   (iter (fun (v : Int) => r57_Census_B25 out_t5_5 e12 v) FU (0 : Int)).bind (fun o0 => r57_Census_J16 out_t5_5 i_t6_6 e12 o0))
 else
  some (.inr out_t5_5))
/-- cardgame/cardgameref57.Census -/
def r57_Census (a0 : SState) (a1 : Int) : Option ((List (Int))) :=
 (iter (fun (v : (List (Int)) × Int) => r57_Census_B8 a0 a1 v.1 v.2) FU (([] : List (Int)), (0 : Int))).bind (fun o0 => r57_Census_J2 o0)
def r57_Census_C (a0 : SState) (a1 : Int) (r : (List (Int))) : Prop := PCall Tryz.prog I0 6 [vA encSState a0, vI a1] (· = vL (eI .i64) r)
theorem r57_Census_ok {a0 : SState} {a1 : Int} {r : (List (Int))} (h : r57_Census a0 a1 = some r) : r57_Census_C a0 a1 r := by
 refine PCall.bo I0_stable Tryz.func6 rfl Tryz.ntmps6 [.tmp 4] fun _ _ _ _ => ?_
 unfold r57_Census at h
 refine Gg [.a,.a] (uo [0] [(2,vP [2] (0))] [.e (bx [2] (encSState a0))]) (aN) <| Gg [.a] (uo [] [(5,vO [5])] [.e (rw_ [5] 3 1 (eI .i64) ([] : List (Int))),.k 0]) (aN) <| Sj (X := (List (Int))) (fun v => (sl 61 [(5,vL (eI .i64) v)] [])) (fun v => r57_Census_J2 v = some r) ?_ ?_
 · refine Gg [.a] (u [] [(6,vI (0 : Int))]) (aN) <| hB ?_
   obtain ⟨y2,p2,h⟩ := bS h
   refine Gi (fun (v : (List (Int)) × Int) => (uo [] [(5,vL (eI .i64) v.1),(6,vI v.2)] [.k 1])) p2 ((wF [[5]])) ?_
   rintro ⟨i0,m0⟩ z0 k0 q2
   replace k0 : r57_Census_B8 a0 a1 i0 m0 = some z0 := k0
   unfold r57_Census_B8 at k0
   refine hS <| Gg (nA 5) (u [] [(14,vB (decide (m0 < (a0.Objects.length : Int))))]) (aN) <| iC k0 (fun k0 => ?_) (fun k0 => ?_)
   · refine hK <| Tn <| Gj (X := (List (Int))) (fun v => (u [14] [(5,vL (eI .i64) v)])) (fun v => r57_Census_J11 m0 v = some z0) ?_ ?_
     · refine hB ?_
       obtain ⟨p0,m1,k0⟩ := bS k0
       refine Gg [.a,.a,.a,.a,(.v (vA encSObject p0)),.a,.a] (uo [14] [(7,vP [7] (0))] [.e (bx [7] (encSObject p0)),.k 0]) (aC (idx_b m1) <| aC (eld m1 lenSObject 0 19 true (vA encSObject p0)) <| aC (Eq.refl (vA encSObject p0)) <| aN) <| hS ?_
       obtain ⟨k2,n2,k0⟩ := bS k0
       refine Gg [.a,.a,.a,.a,.a,.a,.a,(.v (vB k2))] (u [] [(29,vB k2)]) (aG ((p0.Owner != a1) == false) <| aF (p0.Owner != a1) <| aB n2 <| aN) <| iC k0 (fun k0 => ?_) (fun k0 => ?_)
       · refine hE <| Te <| qX <| Tn ⟨i0,k0,wT⟩
       refine hK <| Tn <| Rg [.a] (sl 61 [(1,vI a1),(2,vP [2] (0)),(5,vL (eI .i64) i0),(6,vI m0),(7,vP [7] (0)),(8,vI (0 : Int))] [bx [7] (encSObject p0),bx [2] (encSState a0)]) (aN) <| Gj (X := Int) (fun v => (u [] [(8,vI v)])) (fun v => r57_Census_J16 i0 m0 p0 v = some z0) ?_ ?_
       · refine hB ?_
         obtain ⟨x2,i2,k0⟩ := bS k0
         refine Gi (fun (v : Int) => (u [] [(8,vI v)])) i2 (wT) ?_
         rintro j0 t2 n0 j2
         replace n0 : r57_Census_B25 i0 p0 j0 = some t2 := n0
         unfold r57_Census_B25 at n0
         refine hS ?_
         obtain ⟨k1,n1,m2,o2,n0⟩ := bS2 n0
         refine Gq followsP [.a,.a,.a,.a,.a,.a,.a,.a,(.v (vI k1)),.a,.a,.a,(.v (vB m2))] (u [] [(42,vB m2)]) (aC (fun hg : ((decide (j0 < (i0.length : Int))) == true) = true => aC (gi ((decide (j0 < (i0.length : Int))) == true)) <| aC (gi ((decide (j0 < (i0.length : Int))) == true)) <| aC (gidx_b n1 hg).1 <| aN) <| aC (fun hg : ((decide (j0 < (i0.length : Int))) == true) = true => aC (gi ((decide (j0 < (i0.length : Int))) == true)) <| aC (eld (gd_t n1 hg) (lenI .i64) 0 1 false (vI k1)) <| aC (Eq.refl (vI k1)) <| aN) <| aG ((decide (j0 < (i0.length : Int))) == true) <| aH ((decide (j0 < (i0.length : Int))) == true) <| aT (decide (j0 < (i0.length : Int))) <| aB o2 <| aN) <| iC n0 (fun n0 => ?_) (fun n0 => ?_)
         · refine hK <| Tn <| hB <| Ge (nA 3) (u [] [(8,vI (wrap64 (j0 + (1 : Int)))),(43,vI j0),(44,vI (wrap64 (j0 + (1 : Int))))]) (aN) <| qN <| Tn ⟨(wrap64 (j0 + (1 : Int))),(sI n0).symm,wT⟩
         refine hE <| Te ?_
         obtain rfl := j2 _ (sI n0).symm
         refine Te <| qX <| Tn ⟨j0,k0,wT⟩
       rintro x0 o0
       replace o0 : r57_Census_J16 i0 m0 p0 x0 = some z0 := o0
       unfold r57_Census_J16 at o0
       obtain ⟨y1,o1,z1,p1,o0⟩ := bS2 o0
       refine Gg [.a,.a,.a,(.v (vL (eI .i64) y1)),(.e z1.length (z1.flatMap (eI .i64))),.a] (uo [] [(9,vO [45])] [.e (rw_ [45] 3 1 (eI .i64) z1),.k 0,.k 1]) (aC (lsub_b o1) <| aC (flat_len' (lenI .i64) i0) <| aC (sub1 o1 (lenI .i64)) <| aC (show (y1.flatMap (eI .i64)).length = y1.length * 1 from (flat_len (enc := eI .i64) (n := 1) (lenI .i64) _)) <| aC (ap1 p1 (eI .i64)) <| aC (app_b p1) <| aN) ?_
       obtain ⟨d2,q1,o0⟩ := bS o0
       refine Gg [.a,.a,.a,.a,(.e d2.length (d2.flatMap (eI .i64))),.a] (uo [7] [] [.e (rw_ [45] 3 1 (eI .i64) d2),.k 2]) (aC (ap1 q1 (eI .i64)) <| aC (app_b q1) <| aN) ?_
       obtain ⟨i1,t1,j1,x1,o0⟩ := bS2 o0
       refine Ge [.a,.a,.a,(.v (vL (eI .i64) i1)),(.e j1.length (j1.flatMap (eI .i64))),.a] (uo [9] [(5,vO [45]),(56,vL (eI .i64) i0),(57,vI x0),(58,vL (eI .i64) i1),(59,vO [45])] [.e (rw_ [45] 3 1 (eI .i64) j1),.k 1]) (aC (lsub_b t1) <| aC (flat_len' (lenI .i64) i0) <| aC (sub1 t1 (lenI .i64)) <| aC (show (i1.flatMap (eI .i64)).length = i1.length * 1 from (flat_len (enc := eI .i64) (n := 1) (lenI .i64) _)) <| aC (ap1 x1 (eI .i64)) <| aC (app_b x1) <| aN) <| qN <| Tn ⟨j1,o0,(wF [[45]])⟩
     rintro t0 y0
     replace y0 : r57_Census_J11 m0 t0 = some z0 := y0
     unfold r57_Census_J11 at y0
     refine Ge (nA 3) (u [] [(6,vI (wrap64 (m0 + (1 : Int)))),(15,vI m0),(16,vI (wrap64 (m0 + (1 : Int))))]) (aN) <| Tn ⟨(t0,(wrap64 (m0 + (1 : Int)))),(sI y0).symm,wT⟩
   refine hE <| Te ?_
   obtain rfl := q2 _ (sI k0).symm
   refine Te <| qX <| Tn ⟨i0,h,wT⟩
 rintro q0 d1
 replace d1 : r57_Census_J2 q0 = some r := d1
 unfold r57_Census_J2 at d1
 exact Rg [.a,.a] (sl 61 [(4,vL (eI .i64) q0)] []) (aN) <| hR <| bQ (vL (eI .i64) q0) (congrArg (vL (eI .i64)) (sI d1))
/-- cardgame/cardgameref57.Name -/
def r57_Name (a0 : Int) : Option ((List UInt8)) :=
 (some (if (decide (a0 < (1 : Int))) = true then true else decide ((([([] : List UInt8), str_invalid, str_census, str_combat, str_pool, str_order, str_over] : List (List UInt8)).length : Int) ≤ a0))).bind fun b1 =>
 (if b1 = true then
  some ([] : List UInt8)
 else
  (idx ([([] : List UInt8), str_invalid, str_census, str_combat, str_pool, str_order, str_over] : List (List UInt8)) a0).bind fun e3 =>
  some e3)
def r57_Name_C (a0 : Int) (r : (List UInt8)) : Prop := PCall Tryz.prog I0 8 [vI a0] (· = vS r)
theorem r57_Name_ok {a0 : Int} {r : (List UInt8)} (h : r57_Name a0 = some r) : r57_Name_C a0 r := by
 refine PCall.bo I0_stable Tryz.func8 rfl Tryz.ntmps8 [.tmp 2] fun _ _ _ _ => ?_
 unfold r57_Name at h
 refine Gg [.a] (u [] []) (aN) <| Gg [.a,.a] (uo [] [(3,vO [4])] [.e (rw_ [4] 9 1 eS ([([] : List UInt8),str_invalid,str_census,str_combat,str_pool,str_order,str_over] : List (List UInt8)))]) (aN) <| hS ?_
 obtain ⟨b1,j0,h⟩ := bS h
 refine Gg [.a,.a,.a,.a,.a,.a,.a,(.v (vB b1))] (u [] [(12,vB b1)]) (aG ((decide (a0 < (1 : Int))) == false) <| aH ((decide (a0 < (1 : Int))) == false) <| aF (decide (a0 < (1 : Int))) <| aB j0 <| aN) <| iC h (fun h => ?_) (fun h => ?_)
 · exact Rg [.a] (sl 17 [(2,vS ([] : List UInt8))] []) (aN) <| hR <| Tr <| bQ _ (congrArg vS (sI h))
 refine hK <| Tn ?_
 obtain ⟨e3,i0,h⟩ := bS h
 exact Rg [.a,.a,.a,(.v (vS e3)),.a] (sl 17 [(2,vS e3)] []) (aC (idx_b i0) <| aC (eld i0 lenS 0 1 false (vS e3)) <| aC (Eq.refl (vS e3)) <| aN) <| hR <| bQ _ (congrArg vS (sI h))
end Go.PL
