/- Functions of the program, as partial functions in Lean, with proofs. -/
import Derived.Test.YtlinpadogiggaaaDoorPlTB
namespace Go.PL
open Go Go.RowKit Go.Proofs
set_option maxRecDepth 100000
set_option linter.all false
set_option maxHeartbeats 1000000
attribute [local irreducible] Holds thenQ blockQ
/-- cardgame/event.Name -/
def event_Name (a0 : Int) : Option ((List UInt8)) :=
  (some (if (decide (a0 < (1 : Int))) = true then true else decide ((17 : Int) < a0))).bind fun b1 =>
  (if b1 = true then
    some ([] : List UInt8)
  else
    (idx (⟨str_damage, str_move, str_draw, str_gain, str_lose, str_tap, str_untap, str_put, str_take, str_create, str_cast, str_attack, str_block, str_upkeep, str_end, str_venom, str_shuffle⟩ : A17 (List UInt8)).l (wrap64 (a0 - (1 : Int)))).bind fun e3 =>
    some e3)
def event_Name_C (a0 : Int) (r : (List UInt8)) : Prop := PCall Tryd.prog I0 5 [vI a0] (· = vS r)
theorem event_Name_ok {a0 : Int} {r : (List UInt8)} (h : event_Name a0 = some r) : event_Name_C a0 r := by
  refine PCall.body I0_stable (by kernel_rfl) Tryd.func5 rfl Tryd.ntmps5 (rs := [.tmp 2]) rfl rfl ?_
  intro w0 av old gv
  unfold event_Name at h
  refine Holds.rg (ss := [.a]) (cs := []) (⟨slots 15 0 [(0, vI a0)], [], [], []⟩) (by kernel_rfl) trivial ?_
  refine Holds.rg (ss := [.a, .a, .a]) (cs := [(True ∧ (True ∧ (True ∧ (True ∧ (True ∧ (True ∧ (True ∧ (True ∧ (True ∧ (True ∧ (True ∧ (True ∧ (True ∧ (True ∧ (True ∧ (True ∧ (True ∧ True))))))))))))))))) ∧ okPlc Tryd.prog 45 = true]) (⟨slots 15 0 [(0, vI a0), (3, vP [3] (0))], [bx [3] (eA17 (eS) (⟨str_damage, str_move, str_draw, str_gain, str_lose, str_tap, str_untap, str_put, str_take, str_create, str_cast, str_attack, str_block, str_upkeep, str_end, str_venom, str_shuffle⟩ : A17 (List UInt8)))], [], []⟩) (by kernel_rfl) ⟨⟨⟨trivial, ⟨trivial, ⟨trivial, ⟨trivial, ⟨trivial, ⟨trivial, ⟨trivial, ⟨trivial, ⟨trivial, ⟨trivial, ⟨trivial, ⟨trivial, ⟨trivial, ⟨trivial, ⟨trivial, ⟨trivial, ⟨trivial, trivial⟩⟩⟩⟩⟩⟩⟩⟩⟩⟩⟩⟩⟩⟩⟩⟩⟩, by kernel_rfl⟩, trivial⟩ ?_
  refine Holds.seq ?_
  obtain ⟨b1, hb1, h⟩ := bS h
  refine Holds.rg (ss := [.a, .a, .a, .a, .a, (.v (vB b1))]) (cs := [((decide (a0 < (1 : Int))) == false) = true → andL [((decide (a0 < (1 : Int))) == false) = true → ((decide (a0 < (1 : Int))) == false) = true], (decide (a0 < (1 : Int))) = false → ((decide (a0 < (1 : Int))) == false) = true, (vB (if (decide (a0 < (1 : Int))) = true then true else decide ((17 : Int) < a0)) : V) = vB b1]) (⟨slots 15 0 [(0, vI a0), (3, vP [3] (0)), (10, vB b1)], [bx [3] (eA17 (eS) (⟨str_damage, str_move, str_draw, str_gain, str_lose, str_tap, str_untap, str_put, str_take, str_create, str_cast, str_attack, str_block, str_upkeep, str_end, str_venom, str_shuffle⟩ : A17 (List UInt8)))], [], []⟩) (by kernel_rfl) ⟨(fun hg => ⟨id, trivial⟩), (fun q => (gF q)), (congrArg vB (sI hb1)), trivial⟩ ?_
  refine Holds.ifB b1 (by kernel_rfl) (fun b2 => ?_) (fun b2 => ?_)
  · replace h := iT h b2
    refine Holds.rg (ss := [.a]) (cs := []) (⟨slots 15 0 [(2, vS ([] : List UInt8))], [], [], []⟩) (by kernel_rfl) trivial ?_
    refine Holds.ret ?_
    refine thenQ.ret ?_
    refine bodyEnd (.inr rfl) (v := vS ([] : List UInt8)) (by kernel_rfl) (r := vS ([] : List UInt8)) (by kernel_rfl) (by kernel_rfl) ?_
    exact congrArg (fun (q : (List UInt8)) => (vS q : V)) (sI h)
  · replace h := iF h b2
    refine Holds.skip ?_
    refine thenQ.normal ?_
    obtain ⟨e3, he3, h⟩ := bS h
    refine Holds.rg (ss := [.a, .a, .a, (.v (vS e3)), .a]) (cs := [0 ≤ (wrap64 (a0 - (1 : Int))) ∧ (wrap64 (a0 - (1 : Int))) < ((17 : Nat) : Int), 0 + (wrap64 (a0 - (1 : Int))).toNat * 1 + 1 ≤ (eA17 (eS) (⟨str_damage, str_move, str_draw, str_gain, str_lose, str_tap, str_untap, str_put, str_take, str_create, str_cast, str_attack, str_block, str_upkeep, str_end, str_venom, str_shuffle⟩ : A17 (List UInt8))).length ∧ toV false (0 + (wrap64 (a0 - (1 : Int))).toNat * 1) 1 (eA17 (eS) (⟨str_damage, str_move, str_draw, str_gain, str_lose, str_tap, str_untap, str_put, str_take, str_create, str_cast, str_attack, str_block, str_upkeep, str_end, str_venom, str_shuffle⟩ : A17 (List UInt8))) = vS e3, (vS e3 : V) = vS e3]) (⟨slots 15 0 [(2, vS e3)], [], [], []⟩) (by kernel_rfl) ⟨(idx_b he3), (arr_ld (e := eS) (N := 1) (l := (⟨str_damage, str_move, str_draw, str_gain, str_lose, str_tap, str_untap, str_put, str_take, str_create, str_cast, str_attack, str_block, str_upkeep, str_end, str_venom, str_shuffle⟩ : A17 (List UInt8)).l) (base := 0) (pre := (eA17 (eS) (⟨str_damage, str_move, str_draw, str_gain, str_lose, str_tap, str_untap, str_put, str_take, str_create, str_cast, str_attack, str_block, str_upkeep, str_end, str_venom, str_shuffle⟩ : A17 (List UInt8))).take 0) (post := (eA17 (eS) (⟨str_damage, str_move, str_draw, str_gain, str_lose, str_tap, str_untap, str_put, str_take, str_create, str_cast, str_attack, str_block, str_upkeep, str_end, str_venom, str_shuffle⟩ : A17 (List UInt8))).drop 17) (by kernel_rfl) (by kernel_rfl) he3 (fun _ => rfl) (o := 0) (by omega) (by decide) (.inr (by decide)) (by kernel_rfl)), rfl, trivial⟩ ?_
    refine Holds.ret ?_
    refine bodyEnd (.inr rfl) (v := vS e3) (by kernel_rfl) (r := vS e3) (by kernel_rfl) (by kernel_rfl) ?_
    exact congrArg (fun (q : (List UInt8)) => (vS q : V)) (sI h)
/-- cardgame/num.Text -/
def num_Text (a0 : Int) : Option ((List UInt8)) :=
  (dItoa a0).bind fun r1 =>
  some r1
def num_Text_C (a0 : Int) (r : (List UInt8)) : Prop := PCall Tryd.prog I0 13 [vI a0] (· = vS r)
theorem num_Text_ok {a0 : Int} {r : (List UInt8)} (h : num_Text a0 = some r) : num_Text_C a0 r := by
  refine PCall.body I0_stable (by kernel_rfl) Tryd.func13 rfl Tryd.ntmps13 (rs := [.tmp 2]) rfl rfl ?_
  intro w0 av old gv
  unfold num_Text at h
  refine Holds.rg (ss := [.a]) (cs := []) (⟨slots 5 0 [(0, vI a0)], [], [], []⟩) (by kernel_rfl) trivial ?_
  obtain ⟨r1, hr1, h⟩ := bS h
  refine Holds.rg (ss := [.a, (.c (vS r1)), .a]) (cs := [PCall Tryd.prog I0 25 [vI a0] (· = vS r1)]) (⟨slots 5 0 [(2, vS r1)], [], [], []⟩) (by kernel_rfl) ⟨(okItoa hr1), trivial⟩ ?_
  refine Holds.ret ?_
  refine bodyEnd (.inr rfl) (v := vS r1) (by kernel_rfl) (r := vS r1) (by kernel_rfl) (by kernel_rfl) ?_
  exact congrArg (fun (q : (List UInt8)) => (vS q : V)) (sI h)
def zone_place_J2  (vt8_1 : Int) : Option (Int) :=
  some vt8_1
def zone_place_J3  : Option (Int) :=
  zone_place_J2 (-1 : Int)
def zone_place_B7 (a0 : SState) (a1 : Int) (vt8_5 : Int) : Option ((Int) ⊕ (Int ⊕ Unit)) :=
  (if (decide (vt8_5 < (a0.Objects.length : Int))) = true then
    (idx a0.Objects vt8_5).bind fun e9 =>
    (if (e9.Id == a1) = true then
      some (.inr (.inl vt8_5))
    else
      some (.inl (wrap64 (vt8_5 + (1 : Int)))))
  else
    some (.inr (.inr ())))
/-- cardgame/zone.place -/
def zone_place (a0 : SState) (a1 : Int) : Option (Int) :=
  (iter (fun (v : Int) => zone_place_B7 a0 a1 v) FU (0 : Int)).bind (Sum.elim (fun o0 => zone_place_J2 o0) (fun o1 => zone_place_J3))
def zone_place_C (a0 : SState) (a1 : Int) (r : Int) : Prop := PCall Tryd.prog I0 30 [vA encSState a0, vI a1] (· = vI r)
theorem zone_place_ok {a0 : SState} {a1 : Int} {r : Int} (h : zone_place a0 a1 = some r) : zone_place_C a0 a1 r := by
  refine PCall.body I0_stable (by kernel_rfl) Tryd.func30 rfl Tryd.ntmps30 (rs := [.tmp 4]) rfl rfl ?_
  intro w0 av old gv
  unfold zone_place at h
  refine Holds.rg (ss := [.a, .a, .a]) (cs := []) (⟨slots 9 0 [(2, vP [2] (0)), (3, vP [3] (0))], [bx [3] [.int .i64 a1], bx [2] (encSState a0)], [], []⟩) (by kernel_rfl) trivial ?_
  refine Holds.seq ?_
  refine Holds.region ?_
  refine Run.part 3 (ss := [.a, .a, .a]) (cs := [True ∧ True]) (⟨slots 9 0 [(2, vP [2] (0)), (3, vP [3] (0)), (5, vP [2] (1)), (6, vL encSObject a0.Objects), (7, .c (.clo 35 [.ptr [3] (0)]))], [bx [3] [.int .i64 a1], bx [2] (encSState a0)], [], []⟩) (by kernel_rfl) ⟨⟨trivial, trivial⟩, trivial⟩ ?_
  refine Run.inlJ (X := Int) (fun v => ⟨slots 9 0 [(8, vI v)], [], [], []⟩) (fun v => zone_place_J2 v = some r) rfl rfl (Esc.inline (s := True ∧ (True ∧ True)) (vs := [vL encSObject a0.Objects, .c (.clo 35 [.ptr [3] (0)])]) (cs := []) 8 rfl rfl rfl (by kernel_rfl) ⟨trivial, ⟨trivial, trivial⟩⟩ (by kernel_rfl) (by kernel_rfl) Tryd.func34 rfl Tryd.ntmps34 (rs := [.tmp 4]) rfl ?_) ?_
  · intro w00 av0 old0 gv0
    refine Holds.at (⟨slots 19 0 [(0, vL encSObject a0.Objects), (1, .c (.clo 35 [.ptr [3] (0)]))], [bx [3] [.int .i64 a1], bx [2] (encSState a0)], slots 9 0 [(2, vP [2] (0)), (3, vP [3] (0)), (5, vP [2] (1)), (6, vL encSObject a0.Objects), (7, .c (.clo 35 [.ptr [3] (0)]))], [8]⟩) (by kernel_rfl) ?_
    refine Holds.rg (ss := [.a]) (cs := []) (⟨slots 19 0 [(0, vL encSObject a0.Objects), (1, .c (.clo 35 [.ptr [3] (0)]))], [bx [3] [.int .i64 a1], bx [2] (encSState a0)], slots 9 0 [(2, vP [2] (0)), (3, vP [3] (0)), (5, vP [2] (1)), (6, vL encSObject a0.Objects), (7, .c (.clo 35 [.ptr [3] (0)]))], [8]⟩) (by kernel_rfl) trivial ?_
    refine Holds.seqJ (X := Unit) (fun v => ⟨slots 19 0 [], [bx [3] [.int .i64 a1], bx [2] (encSState a0)], slots 9 0 [(2, vP [2] (0)), (3, vP [3] (0)), (5, vP [2] (1)), (6, vL encSObject a0.Objects), (7, .c (.clo 35 [.ptr [3] (0)]))], [8]⟩) (fun v => zone_place_J3 = some r) ?_ ?_
    · refine Holds.rg (ss := [.a, .a, .a]) (cs := []) (⟨slots 19 0 [(0, vL encSObject a0.Objects), (1, .c (.clo 35 [.ptr [3] (0)])), (7, vI (a0.Objects.length : Int)), (8, vI (0 : Int))], [bx [3] [.int .i64 a1], bx [2] (encSState a0)], slots 9 0 [(2, vP [2] (0)), (3, vP [3] (0)), (5, vP [2] (1)), (6, vL encSObject a0.Objects), (7, .c (.clo 35 [.ptr [3] (0)]))], [8]⟩) (by kernel_rfl) trivial ?_
      refine Holds.block ?_
      obtain ⟨oB7, hiB7, h⟩ := bS h
      refine Holds.iter (fun (v : Int) => ⟨slots 19 0 [(0, vL encSObject a0.Objects), (1, .c (.clo 35 [.ptr [3] (0)])), (7, vI (a0.Objects.length : Int)), (8, vI v)], [bx [3] [.int .i64 a1], bx [2] (encSState a0)], slots 9 0 [(2, vP [2] (0)), (3, vP [3] (0)), (5, vP [2] (1)), (6, vL encSObject a0.Objects), (7, .c (.clo 35 [.ptr [3] (0)]))], [8]⟩) hiB7 (Less.t (by kernel_rfl)) ?_
      rintro vt8_5 zB7 hzB7 hoB7
      replace hzB7 : zone_place_B7 a0 a1 vt8_5 = some zB7 := hzB7
      unfold zone_place_B7 at hzB7
      refine Holds.rg (ss := [.a]) (cs := []) (⟨slots 19 0 [(0, vL encSObject a0.Objects), (1, .c (.clo 35 [.ptr [3] (0)])), (7, vI (a0.Objects.length : Int)), (8, vI vt8_5), (9, vB (decide (vt8_5 < (a0.Objects.length : Int))))], [bx [3] [.int .i64 a1], bx [2] (encSState a0)], slots 9 0 [(2, vP [2] (0)), (3, vP [3] (0)), (5, vP [2] (1)), (6, vL encSObject a0.Objects), (7, .c (.clo 35 [.ptr [3] (0)]))], [8]⟩) (by kernel_rfl) trivial ?_
      refine Holds.seq ?_
      refine Holds.ifB (decide (vt8_5 < (a0.Objects.length : Int))) (by kernel_rfl) (fun b8 => ?_) (fun b8 => ?_)
      · replace hzB7 := iT hzB7 b8
        refine Holds.skip ?_
        refine thenQ.normal ?_
        refine Holds.seq ?_
        refine Holds.block ?_
        refine Holds.rg (ss := [.a, .a]) (cs := []) (⟨slots 19 0 [(0, vL encSObject a0.Objects), (1, .c (.clo 35 [.ptr [3] (0)])), (5, vI vt8_5), (7, vI (a0.Objects.length : Int)), (8, vI vt8_5)], [bx [3] [.int .i64 a1], bx [2] (encSState a0)], slots 9 0 [(2, vP [2] (0)), (3, vP [3] (0)), (5, vP [2] (1)), (6, vL encSObject a0.Objects), (7, .c (.clo 35 [.ptr [3] (0)]))], [8]⟩) (by kernel_rfl) trivial ?_
        refine Holds.seq ?_
        refine Holds.region ?_
        obtain ⟨e9, he9, hzB7⟩ := bS hzB7
        refine Run.part 5 (ss := [.a, .a, .a, .a, (.v (vA encSObject e9))]) (cs := [0 ≤ vt8_5 ∧ vt8_5 < (a0.Objects.length : Int), (vt8_5).toNat * 19 + 19 ≤ (a0.Objects.flatMap (encSObject)).length ∧ toV true ((vt8_5).toNat * 19) 19 (a0.Objects.flatMap (encSObject)) = vA encSObject e9, (vA encSObject e9 : V) = vA encSObject e9]) (⟨slots 19 0 [(0, vL encSObject a0.Objects), (1, .c (.clo 35 [.ptr [3] (0)])), (5, vI vt8_5), (7, vI (a0.Objects.length : Int)), (8, vI vt8_5), (11, .c (.clo 35 [.ptr [3] (0)])), (12, vL encSObject a0.Objects), (13, vI vt8_5), (14, vX encSObject a0.Objects ((vt8_5).toNat * 19)), (15, vA encSObject e9)], [bx [3] [.int .i64 a1], bx [2] (encSState a0)], slots 9 0 [(2, vP [2] (0)), (3, vP [3] (0)), (5, vP [2] (1)), (6, vL encSObject a0.Objects), (7, .c (.clo 35 [.ptr [3] (0)]))], [8]⟩) (by kernel_rfl) ⟨(idx_b he9), (elem_ld (e := encSObject) (N := 19) he9 lenSObject (o := 0) (by first | rfl | omega) (by decide) (.inl rfl) (by kernel_rfl)), rfl, trivial⟩ ?_
        refine Run.inl rfl rfl (Esc.inline (s := True ∧ True) (vs := [vA encSObject e9]) (cs := [.ptr [3] (0)]) 16 rfl rfl rfl (by kernel_rfl) ⟨trivial, trivial⟩ (by kernel_rfl) (by kernel_rfl) Tryd.func35 rfl Tryd.ntmps35 (rs := [.tmp 3]) rfl ?_)
        intro w09 av9 old9 gv9
        refine Holds.at (⟨slots 8 0 [(0, vA encSObject e9), (1, vP [3] (0))], [bx [3] [.int .i64 a1], bx [2] (encSState a0)], slots 28 0 [(0, vL encSObject a0.Objects), (1, .c (.clo 35 [.ptr [3] (0)])), (5, vI vt8_5), (7, vI (a0.Objects.length : Int)), (8, vI vt8_5), (11, .c (.clo 35 [.ptr [3] (0)])), (12, vL encSObject a0.Objects), (13, vI vt8_5), (14, vX encSObject a0.Objects ((vt8_5).toNat * 19)), (15, vA encSObject e9), (21, vP [2] (0)), (22, vP [3] (0)), (24, vP [2] (1)), (25, vL encSObject a0.Objects), (26, .c (.clo 35 [.ptr [3] (0)]))], [16, 8]⟩) (by kernel_rfl) ?_
        refine Holds.rg (ss := [.a, .a]) (cs := []) (⟨slots 8 0 [(1, vP [3] (0)), (2, vP [2, 16, 8] (0))], [bx [2, 16, 8] (encSObject e9), bx [3] [.int .i64 a1], bx [2] (encSState a0)], slots 28 0 [(0, vL encSObject a0.Objects), (1, .c (.clo 35 [.ptr [3] (0)])), (5, vI vt8_5), (7, vI (a0.Objects.length : Int)), (8, vI vt8_5), (11, .c (.clo 35 [.ptr [3] (0)])), (12, vL encSObject a0.Objects), (13, vI vt8_5), (14, vX encSObject a0.Objects ((vt8_5).toNat * 19)), (15, vA encSObject e9), (21, vP [2] (0)), (22, vP [3] (0)), (24, vP [2] (1)), (25, vL encSObject a0.Objects), (26, .c (.clo 35 [.ptr [3] (0)]))], [16, 8]⟩) (by kernel_rfl) trivial ?_
        refine Holds.rg (ss := [.a, .a, .a, .a, .a]) (cs := []) (⟨slots 8 0 [(3, vB (e9.Id == a1))], [bx [3] [.int .i64 a1], bx [2] (encSState a0)], slots 28 0 [(0, vL encSObject a0.Objects), (1, .c (.clo 35 [.ptr [3] (0)])), (5, vI vt8_5), (7, vI (a0.Objects.length : Int)), (8, vI vt8_5), (11, .c (.clo 35 [.ptr [3] (0)])), (12, vL encSObject a0.Objects), (13, vI vt8_5), (14, vX encSObject a0.Objects ((vt8_5).toNat * 19)), (15, vA encSObject e9), (21, vP [2] (0)), (22, vP [3] (0)), (24, vP [2] (1)), (25, vL encSObject a0.Objects), (26, .c (.clo 35 [.ptr [3] (0)]))], [16, 8]⟩) (by kernel_rfl) trivial ?_
        refine Holds.ret ?_
        refine inQ.ret (v := vB (e9.Id == a1)) (by kernel_rfl) ?_
        refine Run.whole (ss := []) (cs := []) (⟨slots 19 0 [(0, vL encSObject a0.Objects), (1, .c (.clo 35 [.ptr [3] (0)])), (5, vI vt8_5), (7, vI (a0.Objects.length : Int)), (8, vI vt8_5), (11, .c (.clo 35 [.ptr [3] (0)])), (12, vL encSObject a0.Objects), (13, vI vt8_5), (14, vX encSObject a0.Objects ((vt8_5).toNat * 19)), (15, vA encSObject e9), (16, vB (e9.Id == a1))], [bx [3] [.int .i64 a1], bx [2] (encSState a0)], slots 9 0 [(2, vP [2] (0)), (3, vP [3] (0)), (5, vP [2] (1)), (6, vL encSObject a0.Objects), (7, .c (.clo 35 [.ptr [3] (0)]))], [8]⟩) (by kernel_rfl) trivial ?_
        refine thenQ.normal ?_
        refine Holds.ifB (e9.Id == a1) (by kernel_rfl) (fun b10 => ?_) (fun b10 => ?_)
        · replace hzB7 := iT hzB7 b10
          refine Holds.rg (ss := [.a, .a]) (cs := []) (⟨slots 19 0 [(4, vI vt8_5)], [bx [3] [.int .i64 a1], bx [2] (encSState a0)], slots 9 0 [(2, vP [2] (0)), (3, vP [3] (0)), (5, vP [2] (1)), (6, vL encSObject a0.Objects), (7, .c (.clo 35 [.ptr [3] (0)]))], [8]⟩) (by kernel_rfl) trivial ?_
          refine Holds.ret ?_
          refine blockQ.ret ?_
          refine thenQ.ret ?_
          have hoB7_ := hoB7 _ (sI hzB7).symm
          subst hoB7_
          replace h := sumL h
          refine thenQ.ret ?_
          refine blockQ.ret ?_
          refine thenQ.ret ?_
          refine inQ.ret (v := vI vt8_5) (by kernel_rfl) ⟨vt8_5, h, Less.t (by kernel_rfl)⟩
        · replace hzB7 := iF hzB7 b10
          refine Holds.skip ?_
          refine blockQ.normal ?_
          refine thenQ.normal ?_
          refine Holds.reg (ss := [.a, .a]) (cs := []) (st' := ⟨slots 19 0 [(0, vL encSObject a0.Objects), (1, .c (.clo 35 [.ptr [3] (0)])), (5, vI vt8_5), (7, vI (a0.Objects.length : Int)), (8, vI (wrap64 (vt8_5 + (1 : Int)))), (11, .c (.clo 35 [.ptr [3] (0)])), (12, vL encSObject a0.Objects), (13, vI vt8_5), (14, vX encSObject a0.Objects ((vt8_5).toNat * 19)), (15, vA encSObject e9), (16, vB (e9.Id == a1)), (18, vI (wrap64 (vt8_5 + (1 : Int))))], [bx [3] [.int .i64 a1], bx [2] (encSState a0)], slots 9 0 [(2, vP [2] (0)), (3, vP [3] (0)), (5, vP [2] (1)), (6, vL encSObject a0.Objects), (7, .c (.clo 35 [.ptr [3] (0)]))], [8]⟩) (by kernel_rfl) trivial ?_
          refine thenQ.normal ⟨(wrap64 (vt8_5 + (1 : Int))), (sI hzB7).symm, Less.t (by kernel_rfl)⟩
      · replace hzB7 := iF hzB7 b8
        refine Holds.exit ?_
        refine thenQ.exit ?_
        have hoB7_ := hoB7 _ (sI hzB7).symm
        subst hoB7_
        replace h := sumR h
        refine thenQ.exit ?_
        refine blockQ.out ?_
        refine thenQ.normal ⟨(), h, Less.t (by kernel_rfl)⟩
    · rintro _ hJ3
      replace hJ3 : zone_place_J3 = some r := hJ3
      unfold zone_place_J3 at hJ3
      refine Holds.rg (ss := [.a]) (cs := []) (⟨slots 19 0 [(4, vI (-1 : Int))], [bx [3] [.int .i64 a1], bx [2] (encSState a0)], slots 9 0 [(2, vP [2] (0)), (3, vP [3] (0)), (5, vP [2] (1)), (6, vL encSObject a0.Objects), (7, .c (.clo 35 [.ptr [3] (0)]))], [8]⟩) (by kernel_rfl) trivial ?_
      refine Holds.ret ?_
      refine inQ.ret (v := vI (-1 : Int)) (by kernel_rfl) ⟨(-1 : Int), hJ3, Less.t (by kernel_rfl)⟩
  · rintro vt8_1 hJ2
    replace hJ2 : zone_place_J2 vt8_1 = some r := hJ2
    unfold zone_place_J2 at hJ2
    refine Run.whole (ss := [.a]) (cs := []) (⟨slots 9 0 [(4, vI vt8_1), (8, vI vt8_1)], [], [], []⟩) (by kernel_rfl) trivial ?_
    refine thenQ.normal ?_
    refine Holds.ret ?_
    refine bodyEnd (.inr rfl) (v := vI vt8_1) (by kernel_rfl) (r := vI vt8_1) (by kernel_rfl) (by kernel_rfl) ?_
    exact congrArg (fun (q : Int) => (vI q : V)) (sI hJ2)
/-- cardgame/event.amount -/
def event_amount (a0 : SEvent) : Option (Bool) :=
  (some (if (decide ((1 : Int) ≤ a0.Amount)) = true then decide (a0.Amount ≤ (1000000 : Int)) else false)).bind fun b1 =>
  some b1
def event_amount_C (a0 : SEvent) (r : Bool) : Prop := PCall Tryd.prog I0 20 [vA encSEvent a0] (· = vB r)
theorem event_amount_ok {a0 : SEvent} {r : Bool} (h : event_amount a0 = some r) : event_amount_C a0 r := by
  refine PCall.body I0_stable (by kernel_rfl) Tryd.func20 rfl Tryd.ntmps20 (rs := [.tmp 2]) rfl rfl ?_
  intro w0 av old gv
  unfold event_amount at h
  refine Holds.rg (ss := [.a, .a]) (cs := []) (⟨slots 11 0 [(1, vP [1] (0))], [bx [1] (encSEvent a0)], [], []⟩) (by kernel_rfl) trivial ?_
  obtain ⟨b1, hb1, h⟩ := bS h
  refine Holds.rg (ss := [.a, .a, .a, .a, .a, .a, .a, (.v (vB b1)), .a]) (cs := [((decide ((1 : Int) ≤ a0.Amount)) == true) = true → andL [((decide ((1 : Int) ≤ a0.Amount)) == true) = true → ((decide ((1 : Int) ≤ a0.Amount)) == true) = true], ((decide ((1 : Int) ≤ a0.Amount)) == true) = true → andL [((decide ((1 : Int) ≤ a0.Amount)) == true) = true → ((decide ((1 : Int) ≤ a0.Amount)) == true) = true], (decide ((1 : Int) ≤ a0.Amount)) = true → ((decide ((1 : Int) ≤ a0.Amount)) == true) = true, (vB (if (decide ((1 : Int) ≤ a0.Amount)) = true then decide (a0.Amount ≤ (1000000 : Int)) else false) : V) = vB b1]) (⟨slots 11 0 [(2, vB b1)], [], [], []⟩) (by kernel_rfl) ⟨(fun hg => ⟨id, trivial⟩), (fun hg => ⟨id, trivial⟩), (fun q => (gT q)), (congrArg vB (sI hb1)), trivial⟩ ?_
  refine Holds.ret ?_
  refine bodyEnd (.inr rfl) (v := vB b1) (by kernel_rfl) (r := vB b1) (by kernel_rfl) (by kernel_rfl) ?_
  exact congrArg (fun (q : Bool) => (vB q : V)) (sI h)
/-- cardgame/event.living -/
def event_living (a0 : SState) (a1 : Int) : Option (Bool) :=
  (some (if (decide ((0 : Int) ≤ a1)) = true then decide (a1 < (a0.Players.length : Int)) else false)).bind fun b1 =>
  (gd (b1 == true) (idx a0.Players a1)).bind fun e2 =>
  (some (if b1 = true then !e2.Lost else false)).bind fun b3 =>
  some b3
def event_living_C (a0 : SState) (a1 : Int) (r : Bool) : Prop := PCall Tryd.prog I0 19 [vA encSState a0, vI a1] (· = vB r)
theorem event_living_ok {a0 : SState} {a1 : Int} {r : Bool} (h : event_living a0 a1 = some r) : event_living_C a0 a1 r := by
  refine PCall.body I0_stable (by kernel_rfl) Tryd.func19 rfl Tryd.ntmps19 (rs := [.tmp 4]) rfl rfl ?_
  intro w0 av old gv
  unfold event_living at h
  refine Holds.rg (ss := [.a, .a]) (cs := []) (⟨slots 23 0 [(1, vI a1), (2, vP [2] (0))], [bx [2] (encSState a0)], [], []⟩) (by kernel_rfl) trivial ?_
  obtain ⟨b1, hb1, h⟩ := bS h
  obtain ⟨e2, he2, h⟩ := bS h
  obtain ⟨b3, hb3, h⟩ := bS h
  refine Holds.rg (ss := [.a, .a, .a, .a, .a, .a, .a, .a, (.v (vB b1)), .a, .a, .a, .a, .a, .a, (.v (vB e2.Lost)), .a, (.v (vB b3)), .a]) (cs := [((decide ((0 : Int) ≤ a1)) == true) = true → andL [((decide ((0 : Int) ≤ a1)) == true) = true → ((decide ((0 : Int) ≤ a1)) == true) = true], ((decide ((0 : Int) ≤ a1)) == true) = true → andL [((decide ((0 : Int) ≤ a1)) == true) = true → ((decide ((0 : Int) ≤ a1)) == true) = true], ((decide ((0 : Int) ≤ a1)) == true) = true → andL [((decide ((0 : Int) ≤ a1)) == true) = true → ((decide ((0 : Int) ≤ a1)) == true) = true, ((decide ((0 : Int) ≤ a1)) == true) = true → ((decide ((0 : Int) ≤ a1)) == true) = true], (decide ((0 : Int) ≤ a1)) = true → ((decide ((0 : Int) ≤ a1)) == true) = true, (vB (if (decide ((0 : Int) ≤ a1)) = true then decide (a1 < (a0.Players.length : Int)) else false) : V) = vB b1, (b1 == true) = true → andL [(b1 == true) = true → (b1 == true) = true], (b1 == true) = true → andL [(b1 == true) = true → (b1 == true) = true, (b1 == true) = true → (b1 == true) = true, 0 ≤ a1 ∧ a1 < (a0.Players.length : Int)], (b1 == true) = true → andL [(b1 == true) = true → (b1 == true) = true], (b1 == true) = true → andL [(b1 == true) = true → (b1 == true) = true, (a1).toNat * 14 + 10 + 1 ≤ (a0.Players.flatMap (encSPlayer)).length ∧ toV false ((a1).toNat * 14 + 10) 1 (a0.Players.flatMap (encSPlayer)) = vB e2.Lost, (vB e2.Lost : V) = vB e2.Lost], (b1 == true) = true → andL [(b1 == true) = true → (b1 == true) = true], b1 = true → (b1 == true) = true, (vB (if b1 = true then !e2.Lost else false) : V) = vB b3]) (⟨slots 23 0 [(4, vB b3)], [], [], []⟩) (by kernel_rfl) ⟨(fun hg => ⟨id, trivial⟩), (fun hg => ⟨id, trivial⟩), (fun hg => ⟨id, id, trivial⟩), (fun q => (gT q)), (congrArg vB (sI hb1)), (fun hg => ⟨id, trivial⟩), (fun hg => ⟨id, id, (gidx_b he2 hg).1, trivial⟩), (fun hg => ⟨id, trivial⟩), (fun hg => ⟨id, (elem_ld (e := encSPlayer) (N := 14) (gd_t he2 hg) lenSPlayer (o := 10) (by first | rfl | omega) (by decide) (.inr (by decide)) (by kernel_rfl)), rfl, trivial⟩), (fun hg => ⟨id, trivial⟩), (fun q => (gT q)), (congrArg vB (sI hb3)), trivial⟩ ?_
  refine Holds.ret ?_
  refine bodyEnd (.inr rfl) (v := vB b3) (by kernel_rfl) (r := vB b3) (by kernel_rfl) (by kernel_rfl) ?_
  exact congrArg (fun (q : Bool) => (vB q : V)) (sI h)
def event_aboutObject_J1  : Option (Bool) :=
  some true
/-- cardgame/event.aboutObject -/
def event_aboutObject (a0 : SEvent) : Option (Bool) :=
  (if (a0.Kind == (1 : Int)) = true then
    some (a0.Object != (0 : Int))
  else
    (if (a0.Kind == (2 : Int)) = true then
      (some (if (a0.From == (0 : Int)) = true then true else a0.To == (0 : Int))).bind fun b4 =>
      some b4
    else
      (if (a0.Kind == (6 : Int)) = true then
        event_aboutObject_J1
      else
        (if (a0.Kind == (7 : Int)) = true then
          event_aboutObject_J1
        else
          (if (a0.Kind == (8 : Int)) = true then
            event_aboutObject_J1
          else
            (if (a0.Kind == (9 : Int)) = true then
              event_aboutObject_J1
            else
              some false))))))
def event_aboutObject_C (a0 : SEvent) (r : Bool) : Prop := PCall Tryd.prog I0 24 [vA encSEvent a0] (· = vB r)
theorem event_aboutObject_ok {a0 : SEvent} {r : Bool} (h : event_aboutObject a0 = some r) : event_aboutObject_C a0 r := by
  refine PCall.body I0_stable (by kernel_rfl) Tryd.func24 rfl Tryd.ntmps24 (rs := [.tmp 2]) rfl rfl ?_
  intro w0 av old gv
  unfold event_aboutObject at h
  refine Holds.rg (ss := [.a, .a]) (cs := []) (⟨slots 28 0 [(1, vP [1] (0))], [bx [1] (encSEvent a0)], [], []⟩) (by kernel_rfl) trivial ?_
  refine Holds.seq ?_
  refine Holds.rg (ss := [.a, .a]) (cs := []) (⟨slots 28 0 [(1, vP [1] (0)), (4, vI a0.Kind)], [bx [1] (encSEvent a0)], [], []⟩) (by kernel_rfl) trivial ?_
  refine Holds.block ?_
  refine Holds.seqJ (X := Unit) (fun v => ⟨slots 28 0 [], [], [], []⟩) (fun v => event_aboutObject_J1 = some r) ?_ ?_
  · refine Holds.block ?_
    refine Holds.block ?_
    refine Holds.block ?_
    refine Holds.block ?_
    refine Holds.seq ?_
    refine Holds.block ?_
    refine Holds.seq ?_
    refine Holds.block ?_
    refine Holds.seq ?_
    refine Holds.seq ?_
    refine Holds.rg (ss := [.a, .a]) (cs := []) (⟨slots 28 0 [(1, vP [1] (0)), (4, vI a0.Kind), (5, vB (a0.Kind == (1 : Int)))], [bx [1] (encSEvent a0)], [], []⟩) (by kernel_rfl) trivial ?_
    refine Holds.ifB (a0.Kind == (1 : Int)) (by kernel_rfl) (fun b2 => ?_) (fun b2 => ?_)
    · replace h := iT h b2
      refine Holds.exit ?_
      refine thenQ.exit ?_
      refine thenQ.exit ?_
      refine blockQ.out ?_
      refine thenQ.normal ?_
      refine Holds.seq ?_
      refine Holds.rg (ss := [.a, .a, .a, .a]) (cs := []) (⟨slots 28 0 [(2, vB (a0.Object != (0 : Int)))], [], [], []⟩) (by kernel_rfl) trivial ?_
      refine Holds.ret ?_
      refine thenQ.ret ?_
      refine blockQ.ret ?_
      refine thenQ.ret ?_
      refine blockQ.ret ?_
      refine blockQ.ret ?_
      refine blockQ.ret ?_
      refine blockQ.ret ?_
      refine thenQ.ret ?_
      refine blockQ.ret ?_
      refine thenQ.ret ?_
      refine bodyEnd (.inr rfl) (v := vB (a0.Object != (0 : Int))) (by kernel_rfl) (r := vB (a0.Object != (0 : Int))) (by kernel_rfl) (by kernel_rfl) ?_
      exact congrArg (fun (q : Bool) => (vB q : V)) (sI h)
    · replace h := iF h b2
      refine Holds.skip ?_
      refine thenQ.normal ?_
      refine Holds.seq ?_
      refine Holds.rg (ss := [.a, .a]) (cs := []) (⟨slots 28 0 [(1, vP [1] (0)), (4, vI a0.Kind), (7, vB (a0.Kind == (2 : Int)))], [bx [1] (encSEvent a0)], [], []⟩) (by kernel_rfl) trivial ?_
      refine Holds.ifB (a0.Kind == (2 : Int)) (by kernel_rfl) (fun b3 => ?_) (fun b3 => ?_)
      · replace h := iT h b3
        refine Holds.exit ?_
        refine thenQ.exit ?_
        refine thenQ.exit ?_
        refine blockQ.on rfl ?_
        refine thenQ.exit ?_
        refine blockQ.out ?_
        refine thenQ.normal ?_
        refine Holds.seq ?_
        obtain ⟨b4, hb4, h⟩ := bS h
        refine Holds.rg (ss := [.a, .a, .a, .a, .a, .a, .a, (.v (vB b4)), .a]) (cs := [((a0.From == (0 : Int)) == false) = true → andL [((a0.From == (0 : Int)) == false) = true → ((a0.From == (0 : Int)) == false) = true], ((a0.From == (0 : Int)) == false) = true → andL [((a0.From == (0 : Int)) == false) = true → ((a0.From == (0 : Int)) == false) = true], (a0.From == (0 : Int)) = false → ((a0.From == (0 : Int)) == false) = true, (vB (if (a0.From == (0 : Int)) = true then true else a0.To == (0 : Int)) : V) = vB b4]) (⟨slots 28 0 [(2, vB b4)], [], [], []⟩) (by kernel_rfl) ⟨(fun hg => ⟨id, trivial⟩), (fun hg => ⟨id, trivial⟩), (fun q => (gF q)), (congrArg vB (sI hb4)), trivial⟩ ?_
        refine Holds.ret ?_
        refine thenQ.ret ?_
        refine blockQ.ret ?_
        refine blockQ.ret ?_
        refine blockQ.ret ?_
        refine blockQ.ret ?_
        refine thenQ.ret ?_
        refine blockQ.ret ?_
        refine thenQ.ret ?_
        refine bodyEnd (.inr rfl) (v := vB b4) (by kernel_rfl) (r := vB b4) (by kernel_rfl) (by kernel_rfl) ?_
        exact congrArg (fun (q : Bool) => (vB q : V)) (sI h)
      · replace h := iF h b3
        refine Holds.skip ?_
        refine thenQ.normal ?_
        refine Holds.seq ?_
        refine Holds.rg (ss := [.a, .a]) (cs := []) (⟨slots 28 0 [(4, vI a0.Kind), (9, vB (a0.Kind == (6 : Int)))], [], [], []⟩) (by kernel_rfl) trivial ?_
        refine Holds.ifB (a0.Kind == (6 : Int)) (by kernel_rfl) (fun b5 => ?_) (fun b5 => ?_)
        · replace h := iT h b5
          refine Holds.exit ?_
          refine thenQ.exit ?_
          refine thenQ.exit ?_
          refine blockQ.on rfl ?_
          refine thenQ.exit ?_
          refine blockQ.on rfl ?_
          refine thenQ.exit ?_
          refine blockQ.out ?_
          refine blockQ.normal ?_
          refine blockQ.normal ?_
          refine blockQ.normal ?_
          refine thenQ.normal ⟨(), h, Less.t (by kernel_rfl)⟩
        · replace h := iF h b5
          refine Holds.skip ?_
          refine thenQ.normal ?_
          refine Holds.seq ?_
          refine Holds.rg (ss := [.a, .a]) (cs := []) (⟨slots 28 0 [(4, vI a0.Kind), (11, vB (a0.Kind == (7 : Int)))], [], [], []⟩) (by kernel_rfl) trivial ?_
          refine Holds.ifB (a0.Kind == (7 : Int)) (by kernel_rfl) (fun b6 => ?_) (fun b6 => ?_)
          · replace h := iT h b6
            refine Holds.exit ?_
            refine thenQ.exit ?_
            refine thenQ.exit ?_
            refine blockQ.on rfl ?_
            refine thenQ.exit ?_
            refine blockQ.on rfl ?_
            refine thenQ.exit ?_
            refine blockQ.on rfl ?_
            refine blockQ.out ?_
            refine blockQ.normal ?_
            refine blockQ.normal ?_
            refine thenQ.normal ⟨(), h, Less.t (by kernel_rfl)⟩
          · replace h := iF h b6
            refine Holds.skip ?_
            refine thenQ.normal ?_
            refine Holds.seq ?_
            refine Holds.rg (ss := [.a, .a]) (cs := []) (⟨slots 28 0 [(4, vI a0.Kind), (13, vB (a0.Kind == (8 : Int)))], [], [], []⟩) (by kernel_rfl) trivial ?_
            refine Holds.ifB (a0.Kind == (8 : Int)) (by kernel_rfl) (fun b7 => ?_) (fun b7 => ?_)
            · replace h := iT h b7
              refine Holds.exit ?_
              refine thenQ.exit ?_
              refine thenQ.exit ?_
              refine blockQ.on rfl ?_
              refine thenQ.exit ?_
              refine blockQ.on rfl ?_
              refine thenQ.exit ?_
              refine blockQ.on rfl ?_
              refine blockQ.on rfl ?_
              refine blockQ.out ?_
              refine blockQ.normal ?_
              refine thenQ.normal ⟨(), h, Less.t (by kernel_rfl)⟩
            · replace h := iF h b7
              refine Holds.skip ?_
              refine thenQ.normal ?_
              refine Holds.rg (ss := [.a, .a]) (cs := []) (⟨slots 28 0 [(15, vB (a0.Kind == (9 : Int)))], [], [], []⟩) (by kernel_rfl) trivial ?_
              refine Holds.ifB (a0.Kind == (9 : Int)) (by kernel_rfl) (fun b8 => ?_) (fun b8 => ?_)
              · replace h := iT h b8
                refine Holds.exit ?_
                refine thenQ.exit ?_
                refine blockQ.on rfl ?_
                refine thenQ.exit ?_
                refine blockQ.on rfl ?_
                refine thenQ.exit ?_
                refine blockQ.on rfl ?_
                refine blockQ.on rfl ?_
                refine blockQ.on rfl ?_
                refine blockQ.out ?_
                refine thenQ.normal ⟨(), h, Less.t (by kernel_rfl)⟩
              · replace h := iF h b8
                refine Holds.skip ?_
                refine thenQ.normal ?_
                refine Holds.exit ?_
                refine blockQ.on rfl ?_
                refine thenQ.exit ?_
                refine blockQ.on rfl ?_
                refine thenQ.exit ?_
                refine blockQ.on rfl ?_
                refine blockQ.on rfl ?_
                refine blockQ.on rfl ?_
                refine blockQ.on rfl ?_
                refine thenQ.exit ?_
                refine blockQ.out ?_
                refine thenQ.normal ?_
                refine Holds.rg (ss := [.a]) (cs := []) (⟨slots 28 0 [(2, vB false)], [], [], []⟩) (by kernel_rfl) trivial ?_
                refine Holds.ret ?_
                refine bodyEnd (.inr rfl) (v := vB false) (by kernel_rfl) (r := vB false) (by kernel_rfl) (by kernel_rfl) ?_
                exact congrArg (fun (q : Bool) => (vB q : V)) (sI h)
  · rintro _ hJ1
    replace hJ1 : event_aboutObject_J1 = some r := hJ1
    unfold event_aboutObject_J1 at hJ1
    refine Holds.seq ?_
    refine Holds.rg (ss := [.a]) (cs := []) (⟨slots 28 0 [(2, vB true)], [], [], []⟩) (by kernel_rfl) trivial ?_
    refine Holds.ret ?_
    refine thenQ.ret ?_
    refine blockQ.ret ?_
    refine thenQ.ret ?_
    refine bodyEnd (.inr rfl) (v := vB true) (by kernel_rfl) (r := vB true) (by kernel_rfl) (by kernel_rfl) ?_
    exact congrArg (fun (q : Bool) => (vB q : V)) (sI hJ1)
/-- cardgame/cardgameref32.names -/
def r32_names : Option ((List (List UInt8))) :=
  some ([([] : List UInt8), str_damage, str_move, str_draw, str_gain, str_lose, str_tap, str_untap, str_put, str_take, str_create, str_cast, str_attack, str_block, str_upkeep, str_end, str_venom, str_shuffle] : List (List UInt8))
def r32_names_C (r : (List (List UInt8))) : Prop := PCall Tryd.prog I0 12 [] (· = vL eS r)
theorem r32_names_ok {r : (List (List UInt8))} (h : r32_names  = some r) : r32_names_C r := by
  refine PCall.body I0_stable (by kernel_rfl) Tryd.func12 rfl Tryd.ntmps12 (rs := [.tmp 0]) rfl rfl ?_
  intro w0 av old gv
  unfold r32_names at h
  refine Holds.rg (ss := [.a]) (cs := []) (⟨slots 2 0 [], [], [], []⟩) (by kernel_rfl) trivial ?_
  refine Holds.rg (ss := [.a, .a]) (cs := []) (⟨slots 2 0 [(0, vO [1])], [rw_ [1] 9 1 eS ([([] : List UInt8), str_damage, str_move, str_draw, str_gain, str_lose, str_tap, str_untap, str_put, str_take, str_create, str_cast, str_attack, str_block, str_upkeep, str_end, str_venom, str_shuffle] : List (List UInt8))], [], []⟩) (by kernel_rfl) trivial ?_
  refine Holds.ret ?_
  refine bodyEnd (.inr rfl) (v := vO [1]) (by kernel_rfl) (r := vL eS ([([] : List UInt8), str_damage, str_move, str_draw, str_gain, str_lose, str_tap, str_untap, str_put, str_take, str_create, str_cast, str_attack, str_block, str_upkeep, str_end, str_venom, str_shuffle] : List (List UInt8))) (by kernel_rfl) (by kernel_rfl) ?_
  exact congrArg (fun (q : (List (List UInt8))) => (vL eS q : V)) (sI h)
def r01_digits_J3  (s_t3_2 : List UInt8) : Option ((List UInt8)) :=
  some s_t3_2
def r01_digits_B9  (u_t0_6 : Int) (s_t3_7 : List UInt8) : Option ((Int × (List UInt8)) ⊕ ((List UInt8))) :=
  (if (decide ((0 : Int) < u_t0_6)) = true then
    (need (∀ n ∈ ([IntKind.u8.wrap (IntKind.u64.wrap ((48 : Int) + (Int.tmod u_t0_6 (10 : Int))))] : List (Int)), 0 ≤ n ∧ n < 256)).bind fun u11 =>
    (cat (bytesU ([IntKind.u8.wrap (IntKind.u64.wrap ((48 : Int) + (Int.tmod u_t0_6 (10 : Int))))] : List (Int))) s_t3_7).bind fun s12 =>
    some (.inl ((IntKind.u64.wrap (Int.tdiv u_t0_6 (10 : Int))), s12))
  else
    some (.inr s_t3_7))
/-- cardgame/cardgameref01.digits -/
def r01_digits (a0 : Int) : Option ((List UInt8)) :=
  (need (∀ n ∈ ([IntKind.u8.wrap (IntKind.u64.wrap ((48 : Int) + (Int.tmod a0 (10 : Int))))] : List (Int)), 0 ≤ n ∧ n < 256)).bind fun u1 =>
  (iter (fun (v : Int × (List UInt8)) => r01_digits_B9 v.1 v.2) FU ((IntKind.u64.wrap (Int.tdiv a0 (10 : Int))), (bytesU ([IntKind.u8.wrap (IntKind.u64.wrap ((48 : Int) + (Int.tmod a0 (10 : Int))))] : List (Int))))).bind (fun o0 => r01_digits_J3 o0)
def r01_digits_C (a0 : Int) (r : (List UInt8)) : Prop := PCall Tryd.prog I0 29 [.c (.int .u64 a0)] (· = vS r)
theorem r01_digits_ok {a0 : Int} {r : (List UInt8)} (h : r01_digits a0 = some r) : r01_digits_C a0 r := by
  refine PCall.body I0_stable (by kernel_rfl) Tryd.func29 rfl Tryd.ntmps29 (rs := [.tmp 2]) rfl rfl ?_
  intro w0 av old gv
  unfold r01_digits at h
  refine Holds.rg (ss := [.a]) (cs := []) (⟨slots 25 0 [(0, .c (.int .u64 a0))], [], [], []⟩) (by kernel_rfl) trivial ?_
  obtain ⟨u1, hu1, h⟩ := bS h
  refine Holds.rg (ss := [.a, .a, .a, .a, .a, (.v (vS (bytesU ([IntKind.u8.wrap (IntKind.u64.wrap ((48 : Int) + (Int.tmod a0 (10 : Int))))] : List (Int))))), .a]) (cs := [(10 : Int) ≠ 0, (isByteSlice Tryd.prog 67 = true ∧ isStr Tryd.prog 9 = true) ∧ 1 = 1 ∧ bytesOK (([IntKind.u8.wrap (IntKind.u64.wrap ((48 : Int) + (Int.tmod a0 (10 : Int))))] : List (Int)).flatMap (eI .u8)), (V.c (.str (bytesT (([IntKind.u8.wrap (IntKind.u64.wrap ((48 : Int) + (Int.tmod a0 (10 : Int))))] : List (Int)).flatMap (eI .u8)))) : V) = .c (.str (bytesU ([IntKind.u8.wrap (IntKind.u64.wrap ((48 : Int) + (Int.tmod a0 (10 : Int))))] : List (Int))))]) (⟨slots 25 0 [(0, .c (.int .u64 a0)), (3, vS (bytesU ([IntKind.u8.wrap (IntKind.u64.wrap ((48 : Int) + (Int.tmod a0 (10 : Int))))] : List (Int))))], [], [], []⟩) (by kernel_rfl) ⟨(by decide), ⟨⟨by kernel_rfl, by kernel_rfl⟩, rfl, bytesOK_flat (need_b hu1)⟩, (congrArg (fun z => V.c (.str z)) (bytesT_flat ([IntKind.u8.wrap (IntKind.u64.wrap ((48 : Int) + (Int.tmod a0 (10 : Int))))] : List (Int)))), trivial⟩ ?_
  refine Holds.seqJ (X := (List UInt8)) (fun v => ⟨slots 25 0 [(3, vS v)], [], [], []⟩) (fun v => r01_digits_J3 v = some r) ?_ ?_
  · refine Holds.rg (ss := [.a, .a, .a]) (cs := [(10 : Int) ≠ 0]) (⟨slots 25 0 [(0, .c (.int .u64 (IntKind.u64.wrap (Int.tdiv a0 (10 : Int))))), (3, vS (bytesU ([IntKind.u8.wrap (IntKind.u64.wrap ((48 : Int) + (Int.tmod a0 (10 : Int))))] : List (Int))))], [], [], []⟩) (by kernel_rfl) ⟨(by decide), trivial⟩ ?_
    refine Holds.block ?_
    obtain ⟨oB9, hiB9, h⟩ := bS h
    refine Holds.iter (fun (v : Int × (List UInt8)) => ⟨slots 25 0 [(0, .c (.int .u64 v.1)), (3, vS v.2)], [], [], []⟩) hiB9 (Less.t (by kernel_rfl)) ?_
    rintro ⟨u_t0_6, s_t3_7⟩ zB9 hzB9 hoB9
    replace hzB9 : r01_digits_B9 u_t0_6 s_t3_7 = some zB9 := hzB9
    unfold r01_digits_B9 at hzB9
    refine Holds.seq ?_
    refine Holds.rg (ss := [.a, .a]) (cs := []) (⟨slots 25 0 [(0, .c (.int .u64 u_t0_6)), (3, vS s_t3_7), (13, vB (decide ((0 : Int) < u_t0_6)))], [], [], []⟩) (by kernel_rfl) trivial ?_
    refine Holds.ifB (decide ((0 : Int) < u_t0_6)) (by kernel_rfl) (fun b10 => ?_) (fun b10 => ?_)
    · replace hzB9 := iT hzB9 b10
      refine Holds.skip ?_
      refine thenQ.normal ?_
      refine Holds.seq ?_
      refine Holds.block ?_
      obtain ⟨u11, hu11, hzB9⟩ := bS hzB9
      obtain ⟨s12, hs12, hzB9⟩ := bS hzB9
      refine Holds.reg (ss := [.a, .a, .a, .a, .a, (.v (vS (bytesU ([IntKind.u8.wrap (IntKind.u64.wrap ((48 : Int) + (Int.tmod u_t0_6 (10 : Int))))] : List (Int))))), .a, (.v (vS s12)), .a]) (cs := [(10 : Int) ≠ 0, (isByteSlice Tryd.prog 67 = true ∧ isStr Tryd.prog 9 = true) ∧ 1 = 1 ∧ bytesOK (([IntKind.u8.wrap (IntKind.u64.wrap ((48 : Int) + (Int.tmod u_t0_6 (10 : Int))))] : List (Int)).flatMap (eI .u8)), (V.c (.str (bytesT (([IntKind.u8.wrap (IntKind.u64.wrap ((48 : Int) + (Int.tmod u_t0_6 (10 : Int))))] : List (Int)).flatMap (eI .u8)))) : V) = .c (.str (bytesU ([IntKind.u8.wrap (IntKind.u64.wrap ((48 : Int) + (Int.tmod u_t0_6 (10 : Int))))] : List (Int)))), (bytesU ([IntKind.u8.wrap (IntKind.u64.wrap ((48 : Int) + (Int.tmod u_t0_6 (10 : Int))))] : List (Int))).length + s_t3_7.length ≤ maxLen, V.c (.str ((bytesU ([IntKind.u8.wrap (IntKind.u64.wrap ((48 : Int) + (Int.tmod u_t0_6 (10 : Int))))] : List (Int))) ++ s_t3_7)) = .c (.str s12)]) (st' := ⟨slots 25 0 [(0, .c (.int .u64 u_t0_6)), (3, vS s12), (13, vB (decide ((0 : Int) < u_t0_6))), (16, .c (.int .u64 u_t0_6)), (17, .c (.int .u64 (Int.tmod u_t0_6 (10 : Int)))), (18, .c (.int .u64 (IntKind.u64.wrap ((48 : Int) + (Int.tmod u_t0_6 (10 : Int)))))), (19, .c (.int .u8 (IntKind.u8.wrap (IntKind.u64.wrap ((48 : Int) + (Int.tmod u_t0_6 (10 : Int))))))), (20, vO [20]), (21, vS (bytesU ([IntKind.u8.wrap (IntKind.u64.wrap ((48 : Int) + (Int.tmod u_t0_6 (10 : Int))))] : List (Int)))), (22, vS s_t3_7), (23, vS s12)], [rw_ [20] 5 1 (eI .u8) ([IntKind.u8.wrap (IntKind.u64.wrap ((48 : Int) + (Int.tmod u_t0_6 (10 : Int))))] : List (Int))], [], []⟩) (by kernel_rfl) ⟨(by decide), ⟨⟨by kernel_rfl, by kernel_rfl⟩, rfl, bytesOK_flat (need_b hu11)⟩, (congrArg (fun z => V.c (.str z)) (bytesT_flat ([IntKind.u8.wrap (IntKind.u64.wrap ((48 : Int) + (Int.tmod u_t0_6 (10 : Int))))] : List (Int)))), (cat_b hs12), (congrArg (fun z => V.c (.str z)) (cat_x hs12).symm), trivial⟩ ?_
      refine blockQ.normal ?_
      refine thenQ.normal ?_
      refine Holds.reg (ss := [.a, .a, .a]) (cs := [(10 : Int) ≠ 0]) (st' := ⟨slots 25 0 [(0, .c (.int .u64 (IntKind.u64.wrap (Int.tdiv u_t0_6 (10 : Int))))), (3, vS s12), (13, vB (decide ((0 : Int) < u_t0_6))), (14, .c (.int .u64 u_t0_6)), (15, .c (.int .u64 (IntKind.u64.wrap (Int.tdiv u_t0_6 (10 : Int))))), (16, .c (.int .u64 u_t0_6)), (17, .c (.int .u64 (Int.tmod u_t0_6 (10 : Int)))), (18, .c (.int .u64 (IntKind.u64.wrap ((48 : Int) + (Int.tmod u_t0_6 (10 : Int)))))), (19, .c (.int .u8 (IntKind.u8.wrap (IntKind.u64.wrap ((48 : Int) + (Int.tmod u_t0_6 (10 : Int))))))), (20, vO [20]), (21, vS (bytesU ([IntKind.u8.wrap (IntKind.u64.wrap ((48 : Int) + (Int.tmod u_t0_6 (10 : Int))))] : List (Int)))), (22, vS s_t3_7), (23, vS s12)], [rw_ [20] 5 1 (eI .u8) ([IntKind.u8.wrap (IntKind.u64.wrap ((48 : Int) + (Int.tmod u_t0_6 (10 : Int))))] : List (Int))], [], []⟩) (by kernel_rfl) ⟨(by decide), trivial⟩ ?_
      refine thenQ.normal ⟨((IntKind.u64.wrap (Int.tdiv u_t0_6 (10 : Int))), s12), (sI hzB9).symm, Less.t (by kernel_rfl)⟩
    · replace hzB9 := iF hzB9 b10
      refine Holds.exit ?_
      refine thenQ.exit ?_
      have hoB9_ := hoB9 _ (sI hzB9).symm
      subst hoB9_
      refine thenQ.exit ?_
      refine blockQ.out ?_
      refine thenQ.normal ⟨s_t3_7, h, Less.t (by kernel_rfl)⟩
  · rintro s_t3_2 hJ3
    replace hJ3 : r01_digits_J3 s_t3_2 = some r := hJ3
    unfold r01_digits_J3 at hJ3
    refine Holds.rg (ss := [.a, .a]) (cs := []) (⟨slots 25 0 [(2, vS s_t3_2)], [], [], []⟩) (by kernel_rfl) trivial ?_
    refine Holds.ret ?_
    refine bodyEnd (.inr rfl) (v := vS s_t3_2) (by kernel_rfl) (r := vS s_t3_2) (by kernel_rfl) (by kernel_rfl) ?_
    exact congrArg (fun (q : (List UInt8)) => (vS q : V)) (sI hJ3)
end Go.PL
