/- Functions of the program, as partial functions in Lean, with proofs. -/
import Derived.Test.YtlinpadogiggaaaDoorPlTB
import Derived.Test.YtlinpadogiggaaaDoorPlTF0
namespace Go.PL
open Go Go.RowKit Go.Proofs
set_option maxRecDepth 100000
set_option linter.all false
set_option maxHeartbeats 1000000
attribute [local irreducible] Holds thenQ blockQ
def event_Text_J5  (l9_4 : List (List UInt8)) : Option ((List UInt8)) :=
  (dJoin l9_4 str_x20).bind fun r6 =>
  some r6
def event_Text_B12 (a0 : SEvent) (vt35_9 : Int) (l9_10 : List (List UInt8)) : Option ((Int × (List (List UInt8))) ⊕ ((List (List UInt8)))) :=
  (if (decide (vt35_9 < (9 : Int))) = true then
    (idx (⟨a0.Source, a0.Object, a0.Player, a0.Amount, a0.From, a0.To, a0.Cause, a0.Counter, a0.Card⟩ : A9 (Int)).l vt35_9).bind fun e14 =>
    (num_Text e14).bind fun r15 =>
    (app 16 l9_10 ([r15] : List (List UInt8))).bind fun l16 =>
    some (.inl ((wrap64 (vt35_9 + (1 : Int))), l16))
  else
    some (.inr l9_10))
def event_Text_J3 (a0 : SEvent) (l9_2 : List (List UInt8)) : Option ((List UInt8)) :=
  (iter (fun (v : Int × (List (List UInt8))) => event_Text_B12 a0 v.1 v.2) FU ((0 : Int), l9_2)).bind (fun o0 => event_Text_J5 o0)
/-- cardgame/event.Text -/
def event_Text (a0 : SEvent) : Option ((List UInt8)) :=
  (event_Name a0.Kind).bind fun r1 =>
  (idx ([r1] : List (List UInt8)) (0 : Int)).bind fun e17 =>
  (if (e17 == ([] : List UInt8)) = true then
    (idx ([r1] : List (List UInt8)) (0 : Int)).bind fun e19 =>
    (some (([r1] : List (List UInt8)).set ((0 : Int)).toNat str_x3f)).bind fun l20 =>
    event_Text_J3 a0 l20
  else
    event_Text_J3 a0 ([r1] : List (List UInt8)))
def event_Text_C (a0 : SEvent) (r : (List UInt8)) : Prop := PCall Tryd.prog I0 7 [vA encSEvent a0] (· = vS r)
theorem event_Text_ok {a0 : SEvent} {r : (List UInt8)} (h : event_Text a0 = some r) : event_Text_C a0 r := by
  refine PCall.body I0_stable (by kernel_rfl) Tryd.func7 rfl Tryd.ntmps7 (rs := [.tmp 2]) rfl rfl ?_
  intro w0 av old gv
  unfold event_Text at h
  refine Holds.rg (ss := [.a, .a]) (cs := []) (⟨slots 46 0 [(1, vP [1] (0))], [bx [1] (encSEvent a0)], [], []⟩) (by kernel_rfl) trivial ?_
  obtain ⟨r1, hr1, h⟩ := bS h
  refine Holds.rg (ss := [.a, .a, (.c (vS r1)), .a, .a]) (cs := [event_Name_C a0.Kind r1]) (⟨slots 46 0 [(1, vP [1] (0)), (3, vO [9])], [rw_ [9] 9 1 eS ([r1] : List (List UInt8)), bx [1] (encSEvent a0)], [], []⟩) (by kernel_rfl) ⟨(event_Name_ok hr1), trivial⟩ ?_
  refine Holds.seqJ (X := (List (List UInt8))) (fun v => ⟨slots 46 0 [(1, vP [1] (0)), (3, vO [9])], [rw_ [9] 9 1 eS v, bx [1] (encSEvent a0)], [], []⟩) (fun v => event_Text_J3 a0 v = some r) ?_ ?_
  · obtain ⟨e17, he17, h⟩ := bS h
    refine Holds.rg (ss := [.a, .a, (.v (vS e17)), .a]) (cs := [0 ≤ (0 : Int) ∧ (0 : Int) < (([r1] : List (List UInt8)).length : Int), ((0 : Int)).toNat * 1 + 1 ≤ (([r1] : List (List UInt8)).flatMap (eS)).length ∧ toV false (((0 : Int)).toNat * 1) 1 (([r1] : List (List UInt8)).flatMap (eS)) = vS e17, (vS e17 : V) = vS e17]) (⟨slots 46 0 [(1, vP [1] (0)), (3, vO [9]), (13, vB (e17 == ([] : List UInt8)))], [rw_ [9] 9 1 eS ([r1] : List (List UInt8)), bx [1] (encSEvent a0)], [], []⟩) (by kernel_rfl) ⟨(idx_b he17), (elem_ld (e := eS) (N := 1) he17 (fun _ => rfl) (o := 0) (by first | rfl | omega) (by decide) (.inr (by decide)) (by kernel_rfl)), rfl, trivial⟩ ?_
    refine Holds.ifB (e17 == ([] : List UInt8)) (by kernel_rfl) (fun b18 => ?_) (fun b18 => ?_)
    · replace h := iT h b18
      obtain ⟨e19, he19, h⟩ := bS h
      obtain ⟨l20, hl20, h⟩ := bS h
      refine Holds.reg (ss := [.a, .a, (.e l20.length (l20.flatMap (eS)))]) (cs := [0 ≤ (0 : Int) ∧ (0 : Int) < (([r1] : List (List UInt8)).length : Int), ((0 : Int)).toNat * 1 + 1 ≤ (([r1] : List (List UInt8)).flatMap (eS)).length ∧ (([r1] : List (List UInt8)).flatMap (eS)).take (((0 : Int)).toNat * 1) ++ ([.str str_x3f] : List C) ++ (([r1] : List (List UInt8)).flatMap (eS)).drop (((0 : Int)).toNat * 1 + ([.str str_x3f] : List C).length) = l20.flatMap (eS), ((some (9, 1, l20.length) : Option (TypeId × Nat × Nat)) = some (9, 1, ([r1] : List (List UInt8)).length)) ∧ True]) (st' := ⟨slots 46 0 [(1, vP [1] (0)), (3, vO [9]), (13, vB (e17 == ([] : List UInt8))), (14, vO [9]), (15, vP [9] (((0 : Int)).toNat * 1))], [rw_ [9] 9 1 eS l20, bx [1] (encSEvent a0)], [], []⟩) (by kernel_rfl) ⟨(idx_b he19), (by rw [← sI hl20]; exact arr_st (e := eS) (N := 1) (l := ([r1] : List (List UInt8))) (i := (0 : Int)) (x' := str_x3f) (o := 0) (base := 0) (cs := ([.str str_x3f] : List C)) (pre := []) (post := []) (by simp) rfl (by simp) rfl he19 (fun _ => rfl) (by omega) (Nat.le_of_ble_eq_true (by kernel_rfl)) (by kernel_rfl)), ⟨by rw [← sI hl20, List.length_set], trivial⟩, trivial⟩ ?_
      refine thenQ.normal ⟨l20, h, Less.t (by kernel_rfl)⟩
    · replace h := iF h b18
      refine Holds.skip ?_
      refine thenQ.normal ⟨([r1] : List (List UInt8)), h, Less.t (by kernel_rfl)⟩
  · rintro l9_2 hJ3
    replace hJ3 : event_Text_J3 a0 l9_2 = some r := hJ3
    unfold event_Text_J3 at hJ3
    refine Holds.seqJ (X := (List (List UInt8))) (fun v => ⟨slots 46 0 [(3, vO [9])], [rw_ [9] 9 1 eS v], [], []⟩) (fun v => event_Text_J5 v = some r) ?_ ?_
    · refine Holds.rg (ss := [.a, .a, .a, .a, .a, .a, .a, .a, .a, .a, .a, .a, .a, .a, .a, .a, .a, .a, .a, .a]) (cs := [(True ∧ (True ∧ (True ∧ (True ∧ (True ∧ (True ∧ (True ∧ (True ∧ (True ∧ True))))))))) ∧ okPlc Tryd.prog 48 = true]) (⟨slots 46 0 [(3, vO [9]), (34, vA (eA9 (eI .i64)) (⟨a0.Source, a0.Object, a0.Player, a0.Amount, a0.From, a0.To, a0.Cause, a0.Counter, a0.Card⟩ : A9 (Int))), (35, vI (0 : Int))], [rw_ [9] 9 1 eS l9_2], [], []⟩) (by kernel_rfl) ⟨⟨⟨trivial, ⟨trivial, ⟨trivial, ⟨trivial, ⟨trivial, ⟨trivial, ⟨trivial, ⟨trivial, ⟨trivial, trivial⟩⟩⟩⟩⟩⟩⟩⟩⟩, by kernel_rfl⟩, trivial⟩ ?_
      refine Holds.block ?_
      obtain ⟨oB12, hiB12, hJ3⟩ := bS hJ3
      refine Holds.iter (fun (v : Int × (List (List UInt8))) => ⟨slots 46 0 [(3, vO [9]), (34, vA (eA9 (eI .i64)) (⟨a0.Source, a0.Object, a0.Player, a0.Amount, a0.From, a0.To, a0.Cause, a0.Counter, a0.Card⟩ : A9 (Int))), (35, vI v.1)], [rw_ [9] 9 1 eS v.2], [], []⟩) hiB12 (Less.t (by kernel_rfl)) ?_
      rintro ⟨vt35_9, l9_10⟩ zB12 hzB12 hoB12
      replace hzB12 : event_Text_B12 a0 vt35_9 l9_10 = some zB12 := hzB12
      unfold event_Text_B12 at hzB12
      refine Holds.rg (ss := [.a]) (cs := []) (⟨slots 46 0 [(3, vO [9]), (34, vA (eA9 (eI .i64)) (⟨a0.Source, a0.Object, a0.Player, a0.Amount, a0.From, a0.To, a0.Cause, a0.Counter, a0.Card⟩ : A9 (Int))), (35, vI vt35_9), (36, vB (decide (vt35_9 < (9 : Int))))], [rw_ [9] 9 1 eS l9_10], [], []⟩) (by kernel_rfl) trivial ?_
      refine Holds.seq ?_
      refine Holds.ifB (decide (vt35_9 < (9 : Int))) (by kernel_rfl) (fun b13 => ?_) (fun b13 => ?_)
      · replace hzB12 := iT hzB12 b13
        refine Holds.skip ?_
        refine thenQ.normal ?_
        refine Holds.seq ?_
        refine Holds.block ?_
        obtain ⟨e14, he14, hzB12⟩ := bS hzB12
        refine Holds.rg (ss := [(.v (vI e14)), .a]) (cs := [(0 ≤ vt35_9 ∧ vt35_9 < ((9 : Nat) : Int)) ∧ (vt35_9).toNat * 1 + 1 ≤ (eA9 (eI .i64) (⟨a0.Source, a0.Object, a0.Player, a0.Amount, a0.From, a0.To, a0.Cause, a0.Counter, a0.Card⟩ : A9 (Int))).length ∧ toV false ((vt35_9).toNat * 1) 1 (eA9 (eI .i64) (⟨a0.Source, a0.Object, a0.Player, a0.Amount, a0.From, a0.To, a0.Cause, a0.Counter, a0.Card⟩ : A9 (Int))) = vI e14, (vI e14 : V) = vI e14]) (⟨slots 46 0 [(3, vO [9]), (5, vI e14), (34, vA (eA9 (eI .i64)) (⟨a0.Source, a0.Object, a0.Player, a0.Amount, a0.From, a0.To, a0.Cause, a0.Counter, a0.Card⟩ : A9 (Int))), (35, vI vt35_9)], [rw_ [9] 9 1 eS l9_10], [], []⟩) (by kernel_rfl) ⟨⟨idx_b he14, arr_ld (e := eI .i64) (N := 1) (l := (⟨a0.Source, a0.Object, a0.Player, a0.Amount, a0.From, a0.To, a0.Cause, a0.Counter, a0.Card⟩ : A9 (Int)).l) (base := 0) (pre := []) (post := []) (by kernel_rfl) rfl he14 (fun _ => rfl) (o := 0) (by simp) (by decide) (by decide) (by kernel_rfl)⟩, rfl, trivial⟩ ?_
        obtain ⟨r15, hr15, hzB12⟩ := bS hzB12
        obtain ⟨l16, hl16, hzB12⟩ := bS hzB12
        refine Holds.reg (ss := [.a, .a, (.c (vS r15)), .a, (.e l16.length (l16.flatMap (eS))), .a]) (cs := [num_Text_C e14 r15, l9_10.length + ([r15] : List (List UInt8)).length = l16.length ∧ l9_10.flatMap (eS) ++ ([r15] : List (List UInt8)).flatMap (eS) = l16.flatMap (eS), (l9_10.length + ([r15] : List (List UInt8)).length) * 16 ≤ 140737488355328 ∧ l9_10.length + ([r15] : List (List UInt8)).length ≤ maxLen]) (st' := ⟨slots 46 0 [(3, vO [9]), (5, vI e14), (34, vA (eA9 (eI .i64)) (⟨a0.Source, a0.Object, a0.Player, a0.Amount, a0.From, a0.To, a0.Cause, a0.Counter, a0.Card⟩ : A9 (Int))), (35, vI vt35_9), (39, vI e14), (40, vS r15), (41, vO [41]), (42, vO [9])], [rw_ [9] 9 1 eS l16, rw_ [41] 9 1 eS ([r15] : List (List UInt8))], [], []⟩) (by kernel_rfl) ⟨(num_Text_ok hr15), ⟨by rw [app_x hl16, List.length_append], by rw [app_x hl16, List.flatMap_append]⟩, (app_b hl16), trivial⟩ ?_
        refine blockQ.normal ?_
        refine thenQ.normal ?_
        refine Holds.reg (ss := [.a, .a]) (cs := []) (st' := ⟨slots 46 0 [(3, vO [9]), (5, vI e14), (34, vA (eA9 (eI .i64)) (⟨a0.Source, a0.Object, a0.Player, a0.Amount, a0.From, a0.To, a0.Cause, a0.Counter, a0.Card⟩ : A9 (Int))), (35, vI (wrap64 (vt35_9 + (1 : Int)))), (39, vI e14), (40, vS r15), (41, vO [41]), (42, vO [9]), (43, vI (wrap64 (vt35_9 + (1 : Int))))], [rw_ [9] 9 1 eS l16, rw_ [41] 9 1 eS ([r15] : List (List UInt8))], [], []⟩) (by kernel_rfl) trivial ?_
        refine thenQ.normal ⟨((wrap64 (vt35_9 + (1 : Int))), l16), (sI hzB12).symm, Less.t (by kernel_rfl)⟩
      · replace hzB12 := iF hzB12 b13
        refine Holds.exit ?_
        refine thenQ.exit ?_
        have hoB12_ := hoB12 _ (sI hzB12).symm
        subst hoB12_
        refine thenQ.exit ?_
        refine blockQ.out ?_
        refine thenQ.normal ⟨l9_10, hJ3, Less.t (by kernel_rfl)⟩
    · rintro l9_4 hJ5
      replace hJ5 : event_Text_J5 l9_4 = some r := hJ5
      unfold event_Text_J5 at hJ5
      obtain ⟨r6, hr6, hJ5⟩ := bS hJ5
      refine Holds.rg (ss := [.a, (.c (vS r6)), .a]) (cs := [PCall Tryd.prog I0 14 [vL eS l9_4, vS str_x20] (· = vS r6)]) (⟨slots 46 0 [(2, vS r6)], [], [], []⟩) (by kernel_rfl) ⟨(okJoin hr6), trivial⟩ ?_
      refine Holds.ret ?_
      refine bodyEnd (.inr rfl) (v := vS r6) (by kernel_rfl) (r := vS r6) (by kernel_rfl) (by kernel_rfl) ?_
      exact congrArg (fun (q : (List UInt8)) => (vS q : V)) (sI hJ5)
/-- cardgame/zone.Find -/
def zone_Find (a0 : SState) (a1 : Int) : Option (SObject × Bool) :=
  (zone_place a0 a1).bind fun r1 =>
  (if (decide (r1 < (0 : Int))) = true then
    some ((⟨(0 : Int), (0 : Int), (0 : Int), (0 : Int), (0 : Int), false, false, false, false, (0 : Int), (⟨(0 : Int), (0 : Int), (0 : Int)⟩ : A3 (Int)), (0 : Int), (0 : Int), (0 : Int), false, (0 : Int), (0 : Int)⟩ : SObject), false)
  else
    (idx a0.Objects r1).bind fun e3 =>
    some (e3, true))
def zone_Find_C (a0 : SState) (a1 : Int) (r : SObject × Bool) : Prop := PCall Tryd.prog I0 23 [vA encSState a0, vI a1] (· = .tup [vA encSObject r.1, vB r.2])
theorem zone_Find_ok {a0 : SState} {a1 : Int} {r : SObject × Bool} (h : zone_Find a0 a1 = some r) : zone_Find_C a0 a1 r := by
  refine PCall.body I0_stable (by kernel_rfl) Tryd.func23 rfl Tryd.ntmps23 (rs := [.cell 4 52, .tmp 5]) rfl rfl ?_
  intro w0 av old gv
  unfold zone_Find at h
  refine Holds.rg (ss := [.a, .a, .a]) (cs := []) (⟨slots 18 0 [(1, vI a1), (2, vP [2] (0)), (4, vP [4] (0))], [bx [4] [.int .i64 (0 : Int), .int .i64 (0 : Int), .int .i64 (0 : Int), .int .i64 (0 : Int), .int .i64 (0 : Int), .bool false, .bool false, .bool false, .bool false, .int .i64 (0 : Int), .int .i64 (((⟨(0 : Int), (0 : Int), (0 : Int)⟩ : A3 (Int))).x0), .int .i64 (((⟨(0 : Int), (0 : Int), (0 : Int)⟩ : A3 (Int))).x1), .int .i64 (((⟨(0 : Int), (0 : Int), (0 : Int)⟩ : A3 (Int))).x2), .int .i64 (0 : Int), .int .i64 (0 : Int), .int .i64 (0 : Int), .bool false, .int .i64 (0 : Int), .int .i64 (0 : Int)], bx [2] (encSState a0)], [], []⟩) (by kernel_rfl) trivial ?_
  obtain ⟨r1, hr1, h⟩ := bS h
  refine Holds.rg (ss := [.a, .a, (.c (vI r1)), .a]) (cs := [zone_place_C a0 a1 r1]) (⟨slots 18 0 [(2, vP [2] (0)), (4, vP [4] (0)), (6, vI r1)], [bx [4] [.int .i64 (0 : Int), .int .i64 (0 : Int), .int .i64 (0 : Int), .int .i64 (0 : Int), .int .i64 (0 : Int), .bool false, .bool false, .bool false, .bool false, .int .i64 (0 : Int), .int .i64 (((⟨(0 : Int), (0 : Int), (0 : Int)⟩ : A3 (Int))).x0), .int .i64 (((⟨(0 : Int), (0 : Int), (0 : Int)⟩ : A3 (Int))).x1), .int .i64 (((⟨(0 : Int), (0 : Int), (0 : Int)⟩ : A3 (Int))).x2), .int .i64 (0 : Int), .int .i64 (0 : Int), .int .i64 (0 : Int), .bool false, .int .i64 (0 : Int), .int .i64 (0 : Int)], bx [2] (encSState a0)], [], []⟩) (by kernel_rfl) ⟨(zone_place_ok hr1), trivial⟩ ?_
  refine Holds.seq ?_
  refine Holds.rg (ss := [.a, .a]) (cs := []) (⟨slots 18 0 [(2, vP [2] (0)), (4, vP [4] (0)), (6, vI r1), (11, vB (decide (r1 < (0 : Int))))], [bx [4] [.int .i64 (0 : Int), .int .i64 (0 : Int), .int .i64 (0 : Int), .int .i64 (0 : Int), .int .i64 (0 : Int), .bool false, .bool false, .bool false, .bool false, .int .i64 (0 : Int), .int .i64 (((⟨(0 : Int), (0 : Int), (0 : Int)⟩ : A3 (Int))).x0), .int .i64 (((⟨(0 : Int), (0 : Int), (0 : Int)⟩ : A3 (Int))).x1), .int .i64 (((⟨(0 : Int), (0 : Int), (0 : Int)⟩ : A3 (Int))).x2), .int .i64 (0 : Int), .int .i64 (0 : Int), .int .i64 (0 : Int), .bool false, .int .i64 (0 : Int), .int .i64 (0 : Int)], bx [2] (encSState a0)], [], []⟩) (by kernel_rfl) trivial ?_
  refine Holds.ifB (decide (r1 < (0 : Int))) (by kernel_rfl) (fun b2 => ?_) (fun b2 => ?_)
  · replace h := iT h b2
    refine Holds.rg (ss := [.a, .a, .a]) (cs := [True ∧ okPlc Tryd.prog 52 = true]) (⟨slots 18 0 [(4, vP [4] (0)), (5, vB false)], [bx [4] [.int .i64 (0 : Int), .int .i64 (0 : Int), .int .i64 (0 : Int), .int .i64 (0 : Int), .int .i64 (0 : Int), .bool false, .bool false, .bool false, .bool false, .int .i64 (0 : Int), .int .i64 (((⟨(0 : Int), (0 : Int), (0 : Int)⟩ : A3 (Int))).x0), .int .i64 (((⟨(0 : Int), (0 : Int), (0 : Int)⟩ : A3 (Int))).x1), .int .i64 (((⟨(0 : Int), (0 : Int), (0 : Int)⟩ : A3 (Int))).x2), .int .i64 (0 : Int), .int .i64 (0 : Int), .int .i64 (0 : Int), .bool false, .int .i64 (0 : Int), .int .i64 (0 : Int)]], [], []⟩) (by kernel_rfl) ⟨⟨trivial, by kernel_rfl⟩, trivial⟩ ?_
    refine Holds.ret ?_
    refine thenQ.ret ?_
    refine bodyEnd (.inr rfl) (v := .tup [.agg [.int .i64 (0 : Int), .int .i64 (0 : Int), .int .i64 (0 : Int), .int .i64 (0 : Int), .int .i64 (0 : Int), .bool false, .bool false, .bool false, .bool false, .int .i64 (0 : Int), .int .i64 (((⟨(0 : Int), (0 : Int), (0 : Int)⟩ : A3 (Int))).x0), .int .i64 (((⟨(0 : Int), (0 : Int), (0 : Int)⟩ : A3 (Int))).x1), .int .i64 (((⟨(0 : Int), (0 : Int), (0 : Int)⟩ : A3 (Int))).x2), .int .i64 (0 : Int), .int .i64 (0 : Int), .int .i64 (0 : Int), .bool false, .int .i64 (0 : Int), .int .i64 (0 : Int)], vB false]) (by kernel_rfl) (r := .tup [.agg (encSObject (⟨(0 : Int), (0 : Int), (0 : Int), (0 : Int), (0 : Int), false, false, false, false, (0 : Int), (⟨(0 : Int), (0 : Int), (0 : Int)⟩ : A3 (Int)), (0 : Int), (0 : Int), (0 : Int), false, (0 : Int), (0 : Int)⟩ : SObject)), vB false]) (by kernel_rfl) (by kernel_rfl) ?_
    exact congrArg (fun (q : SObject × Bool) => (.tup [vA encSObject q.1, vB q.2] : V)) (sI h)
  · replace h := iF h b2
    refine Holds.skip ?_
    refine thenQ.normal ?_
    obtain ⟨e3, he3, h⟩ := bS h
    refine Holds.rg (ss := [.a, .a, .a, .a, (.v (vA encSObject e3)), .a, .a]) (cs := [0 ≤ r1 ∧ r1 < (a0.Objects.length : Int), (r1).toNat * 19 + 19 ≤ (a0.Objects.flatMap (encSObject)).length ∧ toV true ((r1).toNat * 19) 19 (a0.Objects.flatMap (encSObject)) = vA encSObject e3, (vA encSObject e3 : V) = vA encSObject e3]) (⟨slots 18 0 [(4, vP [4] (0)), (5, vB true)], [bx [4] (encSObject e3)], [], []⟩) (by kernel_rfl) ⟨(idx_b he3), (elem_ld (e := encSObject) (N := 19) he3 lenSObject (o := 0) (by first | rfl | omega) (by decide) (.inl rfl) (by kernel_rfl)), rfl, trivial⟩ ?_
    refine Holds.ret ?_
    refine bodyEnd (.inr rfl) (v := .tup [vA encSObject e3, vB true]) (by kernel_rfl) (r := .tup [.agg (encSObject e3), vB true]) (by kernel_rfl) (by kernel_rfl) ?_
    exact congrArg (fun (q : SObject × Bool) => (.tup [vA encSObject q.1, vB q.2] : V)) (sI h)
/-- cardgame/event.creates -/
def event_creates (a0 : List (SCard)) (a1 : SState) (a2 : SEvent) : Option (Bool) :=
  (event_living a1 a2.Player).bind fun r1 =>
  (some (if r1 = true then decide ((0 : Int) ≤ a2.Card) else false)).bind fun b2 =>
  (some (if b2 = true then decide (a2.Card < (a0.length : Int)) else false)).bind fun b3 =>
  (gd (b3 == true) (idx a0 a2.Card)).bind fun e4 =>
  (some (if b3 = true then e4.Token else false)).bind fun b5 =>
  (gd (b5 == true) (event_amount a2)).bind fun r6 =>
  (some (if b5 = true then r6 else false)).bind fun b7 =>
  some b7
def event_creates_C (a0 : List (SCard)) (a1 : SState) (a2 : SEvent) (r : Bool) : Prop := PCall Tryd.prog I0 22 [vL encSCard a0, vA encSState a1, vA encSEvent a2] (· = vB r)
theorem event_creates_ok {a0 : List (SCard)} {a1 : SState} {a2 : SEvent} {r : Bool} (h : event_creates a0 a1 a2 = some r) : event_creates_C a0 a1 a2 r := by
  refine PCall.body I0_stable (by kernel_rfl) Tryd.func22 rfl Tryd.ntmps22 (rs := [.tmp 6]) rfl rfl ?_
  intro w0 av old gv
  unfold event_creates at h
  refine Holds.rg (ss := [.a, .a, .a]) (cs := []) (⟨slots 35 0 [(0, vL encSCard a0), (4, vP [4] (0)), (5, vP [5] (0))], [bx [5] (encSEvent a2), bx [4] (encSState a1)], [], []⟩) (by kernel_rfl) trivial ?_
  obtain ⟨r1, hr1, h⟩ := bS h
  obtain ⟨b2, hb2, h⟩ := bS h
  obtain ⟨b3, hb3, h⟩ := bS h
  obtain ⟨e4, he4, h⟩ := bS h
  obtain ⟨b5, hb5, h⟩ := bS h
  obtain ⟨r6, hr6, h⟩ := bS h
  obtain ⟨b7, hb7, h⟩ := bS h
  refine Holds.rg (ss := [.a, .a, .a, (.c (vB r1)), .a, .a, .a, .a, (.v (vB b2)), .a, .a, .a, .a, .a, .a, (.v (vB b3)), .a, .a, .a, .a, .a, .a, (.v (vB e4.Token)), (.v (vB b5)), .a, .a, (.c (vB r6)), (.v (vB b7)), .a]) (cs := [event_living_C a1 a2.Player r1, (r1 == true) = true → andL [(r1 == true) = true → (r1 == true) = true], (r1 == true) = true → andL [(r1 == true) = true → (r1 == true) = true], r1 = true → (r1 == true) = true, (vB (if r1 = true then decide ((0 : Int) ≤ a2.Card) else false) : V) = vB b2, (b2 == true) = true → andL [(b2 == true) = true → (b2 == true) = true], (b2 == true) = true → andL [(b2 == true) = true → (b2 == true) = true], (b2 == true) = true → andL [(b2 == true) = true → (b2 == true) = true, (b2 == true) = true → (b2 == true) = true], b2 = true → (b2 == true) = true, (vB (if b2 = true then decide (a2.Card < (a0.length : Int)) else false) : V) = vB b3, (b3 == true) = true → andL [(b3 == true) = true → (b3 == true) = true], (b3 == true) = true → andL [(b3 == true) = true → (b3 == true) = true, (b3 == true) = true → (b3 == true) = true, 0 ≤ a2.Card ∧ a2.Card < (a0.length : Int)], (b3 == true) = true → andL [(b3 == true) = true → (b3 == true) = true], (b3 == true) = true → andL [(b3 == true) = true → (b3 == true) = true, (a2.Card).toNat * 17 + 1 + 1 ≤ (a0.flatMap (encSCard)).length ∧ toV false ((a2.Card).toNat * 17 + 1) 1 (a0.flatMap (encSCard)) = vB e4.Token, (vB e4.Token : V) = vB e4.Token], b3 = true → (b3 == true) = true, (vB (if b3 = true then e4.Token else false) : V) = vB b5, (b5 == true) = true → andL [(b5 == true) = true → (b5 == true) = true] ∧ event_amount_C a2 r6, b5 = true → (b5 == true) = true, (vB (if b5 = true then r6 else false) : V) = vB b7]) (⟨slots 35 0 [(6, vB b7)], [], [], []⟩) (by kernel_rfl) ⟨(event_living_ok hr1), (fun hg => ⟨id, trivial⟩), (fun hg => ⟨id, trivial⟩), (fun q => (gT q)), (congrArg vB (sI hb2)), (fun hg => ⟨id, trivial⟩), (fun hg => ⟨id, trivial⟩), (fun hg => ⟨id, id, trivial⟩), (fun q => (gT q)), (congrArg vB (sI hb3)), (fun hg => ⟨id, trivial⟩), (fun hg => ⟨id, id, (gidx_b he4 hg).1, trivial⟩), (fun hg => ⟨id, trivial⟩), (fun hg => ⟨id, (elem_ld (e := encSCard) (N := 17) (gd_t he4 hg) lenSCard (o := 1) (by first | rfl | omega) (by decide) (.inr (by decide)) (by kernel_rfl)), rfl, trivial⟩), (fun q => (gT q)), (congrArg vB (sI hb5)), (fun hg => ⟨⟨id, trivial⟩, event_amount_ok (gd_t hr6 hg)⟩), (fun q => (gT q)), (congrArg vB (sI hb7)), trivial⟩ ?_
  refine Holds.ret ?_
  refine bodyEnd (.inr rfl) (v := vB b7) (by kernel_rfl) (r := vB b7) (by kernel_rfl) (by kernel_rfl) ?_
  exact congrArg (fun (q : Bool) => (vB q : V)) (sI h)
def event_Decider_J3 (a2 : SEvent) : Option (Int) :=
  some a2.Player
def event_Decider_B7 (a0 : SState) (a1 : List (STraits)) (a2 : SEvent) (vt17_5 : Int) : Option ((Int) ⊕ (Int ⊕ Unit)) :=
  (if (decide (vt17_5 < (a0.Objects.length : Int))) = true then
    (idx a0.Objects vt17_5).bind fun e9 =>
    (if (e9.Id != a2.Object) = true then
      some (.inl (wrap64 (vt17_5 + (1 : Int))))
    else
      (if (decide (vt17_5 < (a1.length : Int))) = true then
        (idx a1 vt17_5).bind fun e12 =>
        some (.inr (.inl e12.Control))
      else
        some (.inr (.inl (0 : Int)))))
  else
    some (.inr (.inr ())))
/-- cardgame/event.Decider -/
def event_Decider (a0 : SState) (a1 : List (STraits)) (a2 : SEvent) : Option (Int) :=
  (event_aboutObject a2).bind fun r1 =>
  (if (!r1) = true then
    some a2.Player
  else
    (iter (fun (v : Int) => event_Decider_B7 a0 a1 a2 v) FU (0 : Int)).bind (Sum.elim (fun o0 => some o0) (fun o1 => event_Decider_J3 a2)))
def event_Decider_C (a0 : SState) (a1 : List (STraits)) (a2 : SEvent) (r : Int) : Prop := PCall Tryd.prog I0 11 [vA encSState a0, vL encSTraits a1, vA encSEvent a2] (· = vI r)
theorem event_Decider_ok {a0 : SState} {a1 : List (STraits)} {a2 : SEvent} {r : Int} (h : event_Decider a0 a1 a2 = some r) : event_Decider_C a0 a1 a2 r := by
  refine PCall.body I0_stable (by kernel_rfl) Tryd.func11 rfl Tryd.ntmps11 (rs := [.tmp 6]) rfl rfl ?_
  intro w0 av old gv
  unfold event_Decider at h
  refine Holds.rg (ss := [.a, .a, .a]) (cs := []) (⟨slots 39 0 [(1, vL encSTraits a1), (3, vP [3] (0)), (5, vP [5] (0))], [bx [5] (encSEvent a2), bx [3] (encSState a0)], [], []⟩) (by kernel_rfl) trivial ?_
  refine Holds.seq ?_
  obtain ⟨r1, hr1, h⟩ := bS h
  refine Holds.rg (ss := [.a, (.c (vB r1)), .a]) (cs := [event_aboutObject_C a2 r1]) (⟨slots 39 0 [(1, vL encSTraits a1), (3, vP [3] (0)), (5, vP [5] (0)), (11, vB (!r1))], [bx [5] (encSEvent a2), bx [3] (encSState a0)], [], []⟩) (by kernel_rfl) ⟨(event_aboutObject_ok hr1), trivial⟩ ?_
  refine Holds.ifB (!r1) (by kernel_rfl) (fun b2 => ?_) (fun b2 => ?_)
  · replace h := iT h b2
    refine Holds.rg (ss := [.a, .a, .a]) (cs := []) (⟨slots 39 0 [(6, vI a2.Player)], [], [], []⟩) (by kernel_rfl) trivial ?_
    refine Holds.ret ?_
    refine thenQ.ret ?_
    refine bodyEnd (.inr rfl) (v := vI a2.Player) (by kernel_rfl) (r := vI a2.Player) (by kernel_rfl) (by kernel_rfl) ?_
    exact congrArg (fun (q : Int) => (vI q : V)) (sI h)
  · replace h := iF h b2
    refine Holds.skip ?_
    refine thenQ.normal ?_
    refine Holds.seqJ (X := Unit) (fun v => ⟨slots 39 0 [(5, vP [5] (0))], [bx [5] (encSEvent a2)], [], []⟩) (fun v => event_Decider_J3 a2 = some r) ?_ ?_
    · refine Holds.rg (ss := [.a, .a, .a, .a]) (cs := []) (⟨slots 39 0 [(1, vL encSTraits a1), (5, vP [5] (0)), (15, vL encSObject a0.Objects), (16, vI (a0.Objects.length : Int)), (17, vI (0 : Int))], [bx [5] (encSEvent a2)], [], []⟩) (by kernel_rfl) trivial ?_
      refine Holds.block ?_
      obtain ⟨oB7, hiB7, h⟩ := bS h
      refine Holds.iter (fun (v : Int) => ⟨slots 39 0 [(1, vL encSTraits a1), (5, vP [5] (0)), (15, vL encSObject a0.Objects), (16, vI (a0.Objects.length : Int)), (17, vI v)], [bx [5] (encSEvent a2)], [], []⟩) hiB7 (Less.t (by kernel_rfl)) ?_
      rintro vt17_5 zB7 hzB7 hoB7
      replace hzB7 : event_Decider_B7 a0 a1 a2 vt17_5 = some zB7 := hzB7
      unfold event_Decider_B7 at hzB7
      refine Holds.rg (ss := [.a]) (cs := []) (⟨slots 39 0 [(1, vL encSTraits a1), (5, vP [5] (0)), (15, vL encSObject a0.Objects), (16, vI (a0.Objects.length : Int)), (17, vI vt17_5), (18, vB (decide (vt17_5 < (a0.Objects.length : Int))))], [bx [5] (encSEvent a2)], [], []⟩) (by kernel_rfl) trivial ?_
      refine Holds.seq ?_
      refine Holds.ifB (decide (vt17_5 < (a0.Objects.length : Int))) (by kernel_rfl) (fun b8 => ?_) (fun b8 => ?_)
      · replace hzB7 := iT hzB7 b8
        refine Holds.skip ?_
        refine thenQ.normal ?_
        refine Holds.seq ?_
        refine Holds.block ?_
        obtain ⟨e9, he9, hzB7⟩ := bS hzB7
        refine Holds.rg (ss := [.a, .a, (.v (vA encSObject e9)), .a, .a, .a]) (cs := [0 ≤ vt17_5 ∧ vt17_5 < (a0.Objects.length : Int), (vt17_5).toNat * 19 + 19 ≤ (a0.Objects.flatMap (encSObject)).length ∧ toV true ((vt17_5).toNat * 19) 19 (a0.Objects.flatMap (encSObject)) = vA encSObject e9, (vA encSObject e9 : V) = vA encSObject e9]) (⟨slots 39 0 [(1, vL encSTraits a1), (5, vP [5] (0)), (7, vI vt17_5), (8, vP [8] (0)), (15, vL encSObject a0.Objects), (16, vI (a0.Objects.length : Int)), (17, vI vt17_5)], [bx [8] (encSObject e9), bx [5] (encSEvent a2)], [], []⟩) (by kernel_rfl) ⟨(idx_b he9), (elem_ld (e := encSObject) (N := 19) he9 lenSObject (o := 0) (by first | rfl | omega) (by decide) (.inl rfl) (by kernel_rfl)), rfl, trivial⟩ ?_
        refine Holds.seq ?_
        refine Holds.rg (ss := [.a, .a, .a, .a, .a]) (cs := []) (⟨slots 39 0 [(1, vL encSTraits a1), (5, vP [5] (0)), (7, vI vt17_5), (15, vL encSObject a0.Objects), (16, vI (a0.Objects.length : Int)), (17, vI vt17_5), (26, vB (e9.Id != a2.Object))], [bx [5] (encSEvent a2)], [], []⟩) (by kernel_rfl) trivial ?_
        refine Holds.ifB (e9.Id != a2.Object) (by kernel_rfl) (fun b10 => ?_) (fun b10 => ?_)
        · replace hzB7 := iT hzB7 b10
          refine Holds.exit ?_
          refine thenQ.exit ?_
          refine blockQ.out ?_
          refine thenQ.normal ?_
          refine Holds.reg (ss := [.a, .a]) (cs := []) (st' := ⟨slots 39 0 [(1, vL encSTraits a1), (5, vP [5] (0)), (7, vI vt17_5), (15, vL encSObject a0.Objects), (16, vI (a0.Objects.length : Int)), (17, vI (wrap64 (vt17_5 + (1 : Int)))), (26, vB (e9.Id != a2.Object)), (36, vI (wrap64 (vt17_5 + (1 : Int))))], [bx [5] (encSEvent a2)], [], []⟩) (by kernel_rfl) trivial ?_
          refine thenQ.normal ⟨(wrap64 (vt17_5 + (1 : Int))), (sI hzB7).symm, Less.t (by kernel_rfl)⟩
        · replace hzB7 := iF hzB7 b10
          refine Holds.skip ?_
          refine thenQ.normal ?_
          refine Holds.seq ?_
          refine Holds.rg (ss := [.a, .a, .a, .a]) (cs := []) (⟨slots 39 0 [(1, vL encSTraits a1), (7, vI vt17_5), (30, vB (decide (vt17_5 < (a1.length : Int))))], [], [], []⟩) (by kernel_rfl) trivial ?_
          refine Holds.ifB (decide (vt17_5 < (a1.length : Int))) (by kernel_rfl) (fun b11 => ?_) (fun b11 => ?_)
          · replace hzB7 := iT hzB7 b11
            obtain ⟨e12, he12, hzB7⟩ := bS hzB7
            refine Holds.rg (ss := [.a, .a, .a, .a, (.v (vI e12.Control)), .a]) (cs := [0 ≤ vt17_5 ∧ vt17_5 < (a1.length : Int), (vt17_5).toNat * 17 + 16 + 1 ≤ (a1.flatMap (encSTraits)).length ∧ toV false ((vt17_5).toNat * 17 + 16) 1 (a1.flatMap (encSTraits)) = vI e12.Control, (vI e12.Control : V) = vI e12.Control]) (⟨slots 39 0 [(6, vI e12.Control)], [], [], []⟩) (by kernel_rfl) ⟨(idx_b he12), (elem_ld (e := encSTraits) (N := 17) he12 lenSTraits (o := 16) (by first | rfl | omega) (by decide) (.inr (by decide)) (by kernel_rfl)), rfl, trivial⟩ ?_
            refine Holds.ret ?_
            refine thenQ.ret ?_
            refine blockQ.ret ?_
            refine thenQ.ret ?_
            have hoB7_ := hoB7 _ (sI hzB7).symm
            subst hoB7_
            replace h := sumL h
            refine thenQ.ret ?_
            refine blockQ.ret ?_
            refine thenQ.ret ?_
            refine bodyEnd (.inr rfl) (v := vI e12.Control) (by kernel_rfl) (r := vI e12.Control) (by kernel_rfl) (by kernel_rfl) ?_
            exact congrArg (fun (q : Int) => (vI q : V)) (sI h)
          · replace hzB7 := iF hzB7 b11
            refine Holds.skip ?_
            refine thenQ.normal ?_
            refine Holds.rg (ss := [.a]) (cs := []) (⟨slots 39 0 [(6, vI (0 : Int))], [], [], []⟩) (by kernel_rfl) trivial ?_
            refine Holds.ret ?_
            refine blockQ.ret ?_
            refine thenQ.ret ?_
            have hoB7_ := hoB7 _ (sI hzB7).symm
            subst hoB7_
            replace h := sumL h
            refine thenQ.ret ?_
            refine blockQ.ret ?_
            refine thenQ.ret ?_
            refine bodyEnd (.inr rfl) (v := vI (0 : Int)) (by kernel_rfl) (r := vI (0 : Int)) (by kernel_rfl) (by kernel_rfl) ?_
            exact congrArg (fun (q : Int) => (vI q : V)) (sI h)
      · replace hzB7 := iF hzB7 b8
        refine Holds.exit ?_
        refine thenQ.exit ?_
        have hoB7_ := hoB7 _ (sI hzB7).symm
        subst hoB7_
        replace h := sumR h
        refine thenQ.exit ?_
        refine blockQ.out ?_
        refine thenQ.normal ⟨(), h, Less.t (by kernel_rfl)⟩
    · rintro _ hJ3
      replace hJ3 : event_Decider_J3 a2 = some r := hJ3
      unfold event_Decider_J3 at hJ3
      refine Holds.rg (ss := [.a, .a, .a]) (cs := []) (⟨slots 39 0 [(6, vI a2.Player)], [], [], []⟩) (by kernel_rfl) trivial ?_
      refine Holds.ret ?_
      refine bodyEnd (.inr rfl) (v := vI a2.Player) (by kernel_rfl) (r := vI a2.Player) (by kernel_rfl) (by kernel_rfl) ?_
      exact congrArg (fun (q : Int) => (vI q : V)) (sI hJ3)
/-- cardgame/cardgameref32.Name -/
def r32_Name (a0 : Int) : Option ((List UInt8)) :=
  (r32_names).bind fun r1 =>
  (some (if (decide (a0 < (1 : Int))) = true then true else decide ((r1.length : Int) ≤ a0))).bind fun b2 =>
  (if b2 = true then
    some ([] : List UInt8)
  else
    (idx r1 a0).bind fun e4 =>
    some e4)
def r32_Name_C (a0 : Int) (r : (List UInt8)) : Prop := PCall Tryd.prog I0 6 [vI a0] (· = vS r)
theorem r32_Name_ok {a0 : Int} {r : (List UInt8)} (h : r32_Name a0 = some r) : r32_Name_C a0 r := by
  refine PCall.body I0_stable (by kernel_rfl) Tryd.func6 rfl Tryd.ntmps6 (rs := [.tmp 2]) rfl rfl ?_
  intro w0 av old gv
  unfold r32_Name at h
  refine Holds.rg (ss := [.a]) (cs := []) (⟨slots 17 0 [(0, vI a0)], [], [], []⟩) (by kernel_rfl) trivial ?_
  obtain ⟨r1, hr1, h⟩ := bS h
  refine Holds.rg (ss := [(.c (vL eS r1)), .a]) (cs := [r32_names_C r1]) (⟨slots 17 0 [(0, vI a0), (3, vL eS r1)], [], [], []⟩) (by kernel_rfl) ⟨(r32_names_ok hr1), trivial⟩ ?_
  refine Holds.seq ?_
  obtain ⟨b2, hb2, h⟩ := bS h
  refine Holds.rg (ss := [.a, .a, .a, .a, .a, .a, .a, (.v (vB b2))]) (cs := [((decide (a0 < (1 : Int))) == false) = true → andL [((decide (a0 < (1 : Int))) == false) = true → ((decide (a0 < (1 : Int))) == false) = true], ((decide (a0 < (1 : Int))) == false) = true → andL [((decide (a0 < (1 : Int))) == false) = true → ((decide (a0 < (1 : Int))) == false) = true, ((decide (a0 < (1 : Int))) == false) = true → ((decide (a0 < (1 : Int))) == false) = true], (decide (a0 < (1 : Int))) = false → ((decide (a0 < (1 : Int))) == false) = true, (vB (if (decide (a0 < (1 : Int))) = true then true else decide ((r1.length : Int) ≤ a0)) : V) = vB b2]) (⟨slots 17 0 [(0, vI a0), (3, vL eS r1), (12, vB b2)], [], [], []⟩) (by kernel_rfl) ⟨(fun hg => ⟨id, trivial⟩), (fun hg => ⟨id, id, trivial⟩), (fun q => (gF q)), (congrArg vB (sI hb2)), trivial⟩ ?_
  refine Holds.ifB b2 (by kernel_rfl) (fun b3 => ?_) (fun b3 => ?_)
  · replace h := iT h b3
    refine Holds.rg (ss := [.a]) (cs := []) (⟨slots 17 0 [(2, vS ([] : List UInt8))], [], [], []⟩) (by kernel_rfl) trivial ?_
    refine Holds.ret ?_
    refine thenQ.ret ?_
    refine bodyEnd (.inr rfl) (v := vS ([] : List UInt8)) (by kernel_rfl) (r := vS ([] : List UInt8)) (by kernel_rfl) (by kernel_rfl) ?_
    exact congrArg (fun (q : (List UInt8)) => (vS q : V)) (sI h)
  · replace h := iF h b3
    refine Holds.skip ?_
    refine thenQ.normal ?_
    obtain ⟨e4, he4, h⟩ := bS h
    refine Holds.rg (ss := [.a, .a, .a, (.v (vS e4)), .a]) (cs := [0 ≤ a0 ∧ a0 < (r1.length : Int), (a0).toNat * 1 + 1 ≤ (r1.flatMap (eS)).length ∧ toV false ((a0).toNat * 1) 1 (r1.flatMap (eS)) = vS e4, (vS e4 : V) = vS e4]) (⟨slots 17 0 [(2, vS e4)], [], [], []⟩) (by kernel_rfl) ⟨(idx_b he4), (elem_ld (e := eS) (N := 1) he4 (fun _ => rfl) (o := 0) (by first | rfl | omega) (by decide) (.inr (by decide)) (by kernel_rfl)), rfl, trivial⟩ ?_
    refine Holds.ret ?_
    refine bodyEnd (.inr rfl) (v := vS e4) (by kernel_rfl) (r := vS e4) (by kernel_rfl) (by kernel_rfl) ?_
    exact congrArg (fun (q : (List UInt8)) => (vS q : V)) (sI h)
/-- cardgame/cardgameref01.Text -/
def r01_Text (a0 : Int) : Option ((List UInt8)) :=
  (if (decide (a0 < (0 : Int))) = true then
    (r01_digits (IntKind.u64.wrap (0 - (IntKind.u64.wrap (a0))))).bind fun r2 =>
    (cat str_x2d r2).bind fun s3 =>
    some s3
  else
    (r01_digits (IntKind.u64.wrap (a0))).bind fun r4 =>
    some r4)
def r01_Text_C (a0 : Int) (r : (List UInt8)) : Prop := PCall Tryd.prog I0 15 [vI a0] (· = vS r)
theorem r01_Text_ok {a0 : Int} {r : (List UInt8)} (h : r01_Text a0 = some r) : r01_Text_C a0 r := by
  refine PCall.body I0_stable (by kernel_rfl) Tryd.func15 rfl Tryd.ntmps15 (rs := [.tmp 2]) rfl rfl ?_
  intro w0 av old gv
  unfold r01_Text at h
  refine Holds.rg (ss := [.a]) (cs := []) (⟨slots 13 0 [(0, vI a0)], [], [], []⟩) (by kernel_rfl) trivial ?_
  refine Holds.seq ?_
  refine Holds.rg (ss := [.a, .a]) (cs := []) (⟨slots 13 0 [(0, vI a0), (4, vB (decide (a0 < (0 : Int))))], [], [], []⟩) (by kernel_rfl) trivial ?_
  refine Holds.ifB (decide (a0 < (0 : Int))) (by kernel_rfl) (fun b1 => ?_) (fun b1 => ?_)
  · replace h := iT h b1
    obtain ⟨r2, hr2, h⟩ := bS h
    obtain ⟨s3, hs3, h⟩ := bS h
    refine Holds.rg (ss := [.a, .a, .a, (.c (vS r2)), (.v (vS s3)), .a]) (cs := [r01_digits_C (IntKind.u64.wrap (0 - (IntKind.u64.wrap (a0)))) r2, str_x2d.length + r2.length ≤ maxLen, V.c (.str (str_x2d ++ r2)) = .c (.str s3)]) (⟨slots 13 0 [(2, vS s3)], [], [], []⟩) (by kernel_rfl) ⟨(r01_digits_ok hr2), (cat_b hs3), (congrArg (fun z => V.c (.str z)) (cat_x hs3).symm), trivial⟩ ?_
    refine Holds.ret ?_
    refine thenQ.ret ?_
    refine bodyEnd (.inr rfl) (v := vS s3) (by kernel_rfl) (r := vS s3) (by kernel_rfl) (by kernel_rfl) ?_
    exact congrArg (fun (q : (List UInt8)) => (vS q : V)) (sI h)
  · replace h := iF h b1
    refine Holds.skip ?_
    refine thenQ.normal ?_
    obtain ⟨r4, hr4, h⟩ := bS h
    refine Holds.rg (ss := [.a, .a, (.c (vS r4)), .a]) (cs := [r01_digits_C (IntKind.u64.wrap (a0)) r4]) (⟨slots 13 0 [(2, vS r4)], [], [], []⟩) (by kernel_rfl) ⟨(r01_digits_ok hr4), trivial⟩ ?_
    refine Holds.ret ?_
    refine bodyEnd (.inr rfl) (v := vS r4) (by kernel_rfl) (r := vS r4) (by kernel_rfl) (by kernel_rfl) ?_
    exact congrArg (fun (q : (List UInt8)) => (vS q : V)) (sI h)
end Go.PL
