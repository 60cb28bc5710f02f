/- Functions of the program, as partial functions in Lean, with proofs. -/
import Derived.Test.YtlinpadogiggaaaDoorPlTB
import Derived.Test.YtlinpadogiggaaaDoorPlTF1
namespace Go.PL
open Go Go.RowKit Go.Proofs
set_option maxRecDepth 100000
set_option linter.all false
set_option maxHeartbeats 1000000
attribute [local irreducible] Holds thenQ blockQ
/-- cardgame/event.fielded -/
def event_fielded (a0 : SState) (a1 : Int) : Option (SObject × Bool) :=
  (zone_Find a0 a1).bind fun r1 =>
  (some (if r1.2 = true then r1.1.Zone == (0 : Int) else false)).bind fun b2 =>
  some (r1.1, b2)
def event_fielded_C (a0 : SState) (a1 : Int) (r : SObject × Bool) : Prop := PCall Tryd.prog I0 16 [vA encSState a0, vI a1] (· = .tup [vA encSObject r.1, vB r.2])
theorem event_fielded_ok {a0 : SState} {a1 : Int} {r : SObject × Bool} (h : event_fielded a0 a1 = some r) : event_fielded_C a0 a1 r := by
  refine PCall.body I0_stable (by kernel_rfl) Tryd.func16 rfl Tryd.ntmps16 (rs := [.cell 4 52, .tmp 5]) rfl rfl ?_
  intro w0 av old gv
  unfold event_fielded at h
  refine Holds.rg (ss := [.a, .a, .a]) (cs := []) (⟨slots 21 0 [(1, vI a1), (2, vP [2] (0)), (4, vP [4] (0))], [bx [4] [.int .i64 (0 : Int), .int .i64 (0 : Int), .int .i64 (0 : Int), .int .i64 (0 : Int), .int .i64 (0 : Int), .bool false, .bool false, .bool false, .bool false, .int .i64 (0 : Int), .int .i64 (((⟨(0 : Int), (0 : Int), (0 : Int)⟩ : A3 (Int))).x0), .int .i64 (((⟨(0 : Int), (0 : Int), (0 : Int)⟩ : A3 (Int))).x1), .int .i64 (((⟨(0 : Int), (0 : Int), (0 : Int)⟩ : A3 (Int))).x2), .int .i64 (0 : Int), .int .i64 (0 : Int), .int .i64 (0 : Int), .bool false, .int .i64 (0 : Int), .int .i64 (0 : Int)], bx [2] (encSState a0)], [], []⟩) (by kernel_rfl) trivial ?_
  obtain ⟨r1, hr1, h⟩ := bS h
  refine Holds.rg (ss := [.a, .a, (.c (.tup [vA encSObject r1.1, vB r1.2])), .a, .a, .a, .a, .a, .a]) (cs := [zone_Find_C a0 a1 r1, True ∧ 0 < [V.undef, V.undef].length, True ∧ 1 < [V.undef, V.undef].length]) (⟨slots 21 0 [(4, vP [4] (0)), (6, vP [6] (0)), (7, vB r1.2)], [bx [6] (encSObject r1.1), bx [4] [.int .i64 (0 : Int), .int .i64 (0 : Int), .int .i64 (0 : Int), .int .i64 (0 : Int), .int .i64 (0 : Int), .bool false, .bool false, .bool false, .bool false, .int .i64 (0 : Int), .int .i64 (((⟨(0 : Int), (0 : Int), (0 : Int)⟩ : A3 (Int))).x0), .int .i64 (((⟨(0 : Int), (0 : Int), (0 : Int)⟩ : A3 (Int))).x1), .int .i64 (((⟨(0 : Int), (0 : Int), (0 : Int)⟩ : A3 (Int))).x2), .int .i64 (0 : Int), .int .i64 (0 : Int), .int .i64 (0 : Int), .bool false, .int .i64 (0 : Int), .int .i64 (0 : Int)]], [], []⟩) (by kernel_rfl) ⟨(zone_Find_ok hr1), ⟨trivial, (by decide)⟩, ⟨trivial, (by decide)⟩, trivial⟩ ?_
  refine Holds.seq ?_
  obtain ⟨b2, hb2, h⟩ := bS h
  refine Holds.regN [0, 1, 2, 3, 6, 7, 14, 15, 30, 31, 62, 63, 126, 127, 255, 511, 191, 159, 143, 135] 511 [.a, .a, .a, .a, .a, .a, (.v (vB b2)), .a, .a] [[6], [4]] (fun n => ⟨[.undef, .undef, .undef, .undef, vP [4] (0), cond (Nat.testBit n 8) (vB b2) (.undef), vP [6] (0), vB r1.2, .undef, .undef, .undef, .undef, .undef, .undef, cond (Nat.testBit n 0) (vA encSObject r1.1) (.undef), cond (Nat.testBit n 1) (vB r1.2) (.undef), cond (Nat.testBit n 2) (vB r1.2) (.undef), cond (Nat.testBit n 3) (.g (r1.2 == true) (vP [6] (4))) (.undef), cond (Nat.testBit n 4) (.g (r1.2 == true) (vI r1.1.Zone)) (.undef), cond (Nat.testBit n 5) (.g (r1.2 == true) (vB (r1.1.Zone == (0 : Int)))) (.undef), cond (Nat.testBit n 6) (vB b2) (.undef)], List.filterMap id [some (bx [6] (encSObject r1.1)), cond (Nat.testBit n 7) (some (bx [4] (encSObject r1.1))) (some (bx [4] [.int .i64 (0 : Int), .int .i64 (0 : Int), .int .i64 (0 : Int), .int .i64 (0 : Int), .int .i64 (0 : Int), .bool false, .bool false, .bool false, .bool false, .int .i64 (0 : Int), .int .i64 (((⟨(0 : Int), (0 : Int), (0 : Int)⟩ : A3 (Int))).x0), .int .i64 (((⟨(0 : Int), (0 : Int), (0 : Int)⟩ : A3 (Int))).x1), .int .i64 (((⟨(0 : Int), (0 : Int), (0 : Int)⟩ : A3 (Int))).x2), .int .i64 (0 : Int), .int .i64 (0 : Int), .int .i64 (0 : Int), .bool false, .int .i64 (0 : Int), .int .i64 (0 : Int)]))], [], []⟩) [[], [], [], [], [(r1.2 == true) = true → andL [(r1.2 == true) = true → (r1.2 == true) = true]], [(r1.2 == true) = true → andL [(r1.2 == true) = true → (r1.2 == true) = true]], [r1.2 = true → (r1.2 == true) = true, (vB (if r1.2 = true then r1.1.Zone == (0 : Int) else false) : V) = vB b2], [], []] followsP (by kernel_rfl) (by kernel_rfl) (by decide) (Less.t (by kernel_rfl)) (by kernel_rfl) ⟨trivial, trivial, trivial, trivial, ⟨(fun hg => ⟨id, trivial⟩), trivial⟩, ⟨(fun hg => ⟨id, trivial⟩), trivial⟩, ⟨(fun q => (gT q)), (congrArg vB (sI hb2)), trivial⟩, trivial, trivial, trivial⟩ ?_
  refine thenQ.normal ?_
  refine Holds.less (st' := ⟨slots 21 0 [(4, vP [4] (0)), (5, vB b2)], [bx [4] (encSObject r1.1)], [], []⟩) (Less.t (by kernel_rfl)) ?_
  refine Holds.ret ?_
  refine bodyEnd (.inr rfl) (v := .tup [vA encSObject r1.1, vB b2]) (by kernel_rfl) (r := .tup [.agg (encSObject r1.1), vB b2]) (by kernel_rfl) (by kernel_rfl) ?_
  exact congrArg (fun (q : SObject × Bool) => (.tup [vA encSObject q.1, vB q.2] : V)) (sI h)
/-- cardgame/event.moves -/
def event_moves (a0 : SState) (a1 : SEvent) : Option (Bool) :=
  (zone_Find a0 a1.Object).bind fun r1 =>
  (some (if r1.2 = true then r1.1.Zone == a1.From else false)).bind fun b2 =>
  (some (if b2 = true then a1.To != a1.From else false)).bind fun b3 =>
  (some (if b3 = true then decide ((0 : Int) ≤ a1.To) else false)).bind fun b4 =>
  (some (if b4 = true then decide (a1.To ≤ (4 : Int)) else false)).bind fun b5 =>
  (some (if b5 = true then decide ((0 : Int) ≤ a1.Player) else false)).bind fun b6 =>
  (some (if b6 = true then decide (a1.Player < (a0.Players.length : Int)) else false)).bind fun b7 =>
  some b7
def event_moves_C (a0 : SState) (a1 : SEvent) (r : Bool) : Prop := PCall Tryd.prog I0 18 [vA encSState a0, vA encSEvent a1] (· = vB r)
theorem event_moves_ok {a0 : SState} {a1 : SEvent} {r : Bool} (h : event_moves a0 a1 = some r) : event_moves_C a0 a1 r := by
  refine PCall.body I0_stable (by kernel_rfl) Tryd.func18 rfl Tryd.ntmps18 (rs := [.tmp 4]) rfl rfl ?_
  intro w0 av old gv
  unfold event_moves at h
  refine Holds.rg (ss := [.a, .a, .a]) (cs := []) (⟨slots 52 0 [(2, vP [2] (0)), (3, vP [3] (0))], [bx [3] (encSEvent a1), bx [2] (encSState a0)], [], []⟩) (by kernel_rfl) trivial ?_
  obtain ⟨r1, hr1, h⟩ := bS h
  refine Holds.rg (ss := [.a, .a, .a, (.c (.tup [vA encSObject r1.1, vB r1.2])), .a, .a, .a, .a, .a, .a]) (cs := [zone_Find_C a0 a1.Object r1, True ∧ 0 < [V.undef, V.undef].length, True ∧ 1 < [V.undef, V.undef].length]) (⟨slots 52 0 [(2, vP [2] (0)), (3, vP [3] (0)), (5, vP [5] (0)), (6, vB r1.2)], [bx [5] (encSObject r1.1), bx [3] (encSEvent a1), bx [2] (encSState a0)], [], []⟩) (by kernel_rfl) ⟨(zone_Find_ok hr1), ⟨trivial, (by decide)⟩, ⟨trivial, (by decide)⟩, trivial⟩ ?_
  obtain ⟨b2, hb2, h⟩ := bS h
  obtain ⟨b3, hb3, h⟩ := bS h
  obtain ⟨b4, hb4, h⟩ := bS h
  obtain ⟨b5, hb5, h⟩ := bS h
  obtain ⟨b6, hb6, h⟩ := bS h
  obtain ⟨b7, hb7, h⟩ := bS h
  refine Holds.rg (ss := [.a, .a, .a, .a, .a, .a, .a, (.v (vB b2)), .a, .a, .a, .a, .a, .a, (.v (vB b3)), .a, .a, .a, .a, (.v (vB b4)), .a, .a, .a, .a, (.v (vB b5)), .a, .a, .a, .a, (.v (vB b6)), .a, .a, .a, .a, .a, .a, .a, (.v (vB b7)), .a]) (cs := [(r1.2 == true) = true → andL [(r1.2 == true) = true → (r1.2 == true) = true], (r1.2 == true) = true → andL [(r1.2 == true) = true → (r1.2 == true) = true], (r1.2 == true) = true → andL [(r1.2 == true) = true → (r1.2 == true) = true, (r1.2 == true) = true → (r1.2 == true) = true], r1.2 = true → (r1.2 == true) = true, (vB (if r1.2 = true then r1.1.Zone == a1.From else false) : V) = vB b2, (b2 == true) = true → andL [(b2 == true) = true → (b2 == true) = true], (b2 == true) = true → andL [(b2 == true) = true → (b2 == true) = true], (b2 == true) = true → andL [(b2 == true) = true → (b2 == true) = true, (b2 == true) = true → (b2 == true) = true], b2 = true → (b2 == true) = true, (vB (if b2 = true then a1.To != a1.From else false) : V) = vB b3, (b3 == true) = true → andL [(b3 == true) = true → (b3 == true) = true], (b3 == true) = true → andL [(b3 == true) = true → (b3 == true) = true], b3 = true → (b3 == true) = true, (vB (if b3 = true then decide ((0 : Int) ≤ a1.To) else false) : V) = vB b4, (b4 == true) = true → andL [(b4 == true) = true → (b4 == true) = true], (b4 == true) = true → andL [(b4 == true) = true → (b4 == true) = true], b4 = true → (b4 == true) = true, (vB (if b4 = true then decide (a1.To ≤ (4 : Int)) else false) : V) = vB b5, (b5 == true) = true → andL [(b5 == true) = true → (b5 == true) = true], (b5 == true) = true → andL [(b5 == true) = true → (b5 == true) = true], b5 = true → (b5 == true) = true, (vB (if b5 = true then decide ((0 : Int) ≤ a1.Player) else false) : V) = vB b6, (b6 == true) = true → andL [(b6 == true) = true → (b6 == true) = true], (b6 == true) = true → andL [(b6 == true) = true → (b6 == true) = true], (b6 == true) = true → andL [(b6 == true) = true → (b6 == true) = true], (b6 == true) = true → andL [(b6 == true) = true → (b6 == true) = true, (b6 == true) = true → (b6 == true) = true], b6 = true → (b6 == true) = true, (vB (if b6 = true then decide (a1.Player < (a0.Players.length : Int)) else false) : V) = vB b7]) (⟨slots 52 0 [(4, vB b7)], [], [], []⟩) (by kernel_rfl) ⟨(fun hg => ⟨id, trivial⟩), (fun hg => ⟨id, trivial⟩), (fun hg => ⟨id, id, trivial⟩), (fun q => (gT q)), (congrArg vB (sI hb2)), (fun hg => ⟨id, trivial⟩), (fun hg => ⟨id, trivial⟩), (fun hg => ⟨id, id, trivial⟩), (fun q => (gT q)), (congrArg vB (sI hb3)), (fun hg => ⟨id, trivial⟩), (fun hg => ⟨id, trivial⟩), (fun q => (gT q)), (congrArg vB (sI hb4)), (fun hg => ⟨id, trivial⟩), (fun hg => ⟨id, trivial⟩), (fun q => (gT q)), (congrArg vB (sI hb5)), (fun hg => ⟨id, trivial⟩), (fun hg => ⟨id, trivial⟩), (fun q => (gT q)), (congrArg vB (sI hb6)), (fun hg => ⟨id, trivial⟩), (fun hg => ⟨id, trivial⟩), (fun hg => ⟨id, trivial⟩), (fun hg => ⟨id, id, trivial⟩), (fun q => (gT q)), (congrArg vB (sI hb7)), trivial⟩ ?_
  refine Holds.ret ?_
  refine bodyEnd (.inr rfl) (v := vB b7) (by kernel_rfl) (r := vB b7) (by kernel_rfl) (by kernel_rfl) ?_
  exact congrArg (fun (q : Bool) => (vB q : V)) (sI h)
def r32_Text_J5  (s_t3_4 : List UInt8) : Option ((List UInt8)) :=
  some s_t3_4
def r32_Text_B11 (a0 : SEvent) (s_t3_8 : List UInt8) (i_t5_9 : Int) : Option (((List UInt8) × Int) ⊕ ((List UInt8))) :=
  (if (decide (i_t5_9 < (([a0.Source, a0.Object, a0.Player, a0.Amount, a0.From, a0.To, a0.Cause, a0.Counter, a0.Card] : List (Int)).length : Int))) = true then
    (idx ([a0.Source, a0.Object, a0.Player, a0.Amount, a0.From, a0.To, a0.Cause, a0.Counter, a0.Card] : List (Int)) i_t5_9).bind fun e13 =>
    (r01_Text e13).bind fun r14 =>
    (cat str_x20 r14).bind fun s15 =>
    (cat s_t3_8 s15).bind fun s16 =>
    some (.inl (s16, (wrap64 (i_t5_9 + (1 : Int)))))
  else
    some (.inr s_t3_8))
def r32_Text_J3 (a0 : SEvent) (s_t3_2 : List UInt8) : Option ((List UInt8)) :=
  (iter (fun (v : (List UInt8) × Int) => r32_Text_B11 a0 v.1 v.2) FU (s_t3_2, (0 : Int))).bind (fun o0 => r32_Text_J5 o0)
/-- cardgame/cardgameref32.Text -/
def r32_Text (a0 : SEvent) : Option ((List UInt8)) :=
  (r32_Name a0.Kind).bind fun r1 =>
  (if (r1 == ([] : List UInt8)) = true then
    r32_Text_J3 a0 str_x3f
  else
    r32_Text_J3 a0 r1)
def r32_Text_C (a0 : SEvent) (r : (List UInt8)) : Prop := PCall Tryd.prog I0 8 [vA encSEvent a0] (· = vS r)
theorem r32_Text_ok {a0 : SEvent} {r : (List UInt8)} (h : r32_Text a0 = some r) : r32_Text_C a0 r := by
  refine PCall.body I0_stable (by kernel_rfl) Tryd.func8 rfl Tryd.ntmps8 (rs := [.tmp 2]) rfl rfl ?_
  intro w0 av old gv
  unfold r32_Text at h
  refine Holds.rg (ss := [.a, .a]) (cs := []) (⟨slots 45 0 [(1, vP [1] (0))], [bx [1] (encSEvent a0)], [], []⟩) (by kernel_rfl) trivial ?_
  obtain ⟨r1, hr1, h⟩ := bS h
  refine Holds.rg (ss := [.a, .a, (.c (vS r1)), .a]) (cs := [r32_Name_C a0.Kind r1]) (⟨slots 45 0 [(1, vP [1] (0)), (3, vS r1)], [bx [1] (encSEvent a0)], [], []⟩) (by kernel_rfl) ⟨(r32_Name_ok hr1), trivial⟩ ?_
  refine Holds.seqJ (X := (List UInt8)) (fun v => ⟨slots 45 0 [(1, vP [1] (0)), (3, vS v)], [bx [1] (encSEvent a0)], [], []⟩) (fun v => r32_Text_J3 a0 v = some r) ?_ ?_
  · refine Holds.rg (ss := [.a, .a]) (cs := []) (⟨slots 45 0 [(1, vP [1] (0)), (3, vS r1), (10, vB (r1 == ([] : List UInt8)))], [bx [1] (encSEvent a0)], [], []⟩) (by kernel_rfl) trivial ?_
    refine Holds.ifB (r1 == ([] : List UInt8)) (by kernel_rfl) (fun b17 => ?_) (fun b17 => ?_)
    · replace h := iT h b17
      refine Holds.reg (ss := [.a]) (cs := []) (st' := ⟨slots 45 0 [(1, vP [1] (0)), (3, vS str_x3f), (10, vB (r1 == ([] : List UInt8)))], [bx [1] (encSEvent a0)], [], []⟩) (by kernel_rfl) trivial ?_
      refine thenQ.normal ⟨str_x3f, h, Less.t (by kernel_rfl)⟩
    · replace h := iF h b17
      refine Holds.skip ?_
      refine thenQ.normal ⟨r1, h, Less.t (by kernel_rfl)⟩
  · rintro s_t3_2 hJ3
    replace hJ3 : r32_Text_J3 a0 s_t3_2 = some r := hJ3
    unfold r32_Text_J3 at hJ3
    refine Holds.rg (ss := [.a, .a, .a, .a, .a, .a, .a, .a, .a, .a, .a, .a, .a, .a, .a, .a, .a, .a, .a, .a]) (cs := []) (⟨slots 45 0 [(3, vS s_t3_2), (4, vO [29])], [rw_ [29] 3 1 (eI .i64) ([a0.Source, a0.Object, a0.Player, a0.Amount, a0.From, a0.To, a0.Cause, a0.Counter, a0.Card] : List (Int))], [], []⟩) (by kernel_rfl) trivial ?_
    refine Holds.seqJ (X := (List UInt8)) (fun v => ⟨slots 45 0 [(3, vS v)], [], [], []⟩) (fun v => r32_Text_J5 v = some r) ?_ ?_
    · refine Holds.rg (ss := [.a]) (cs := []) (⟨slots 45 0 [(3, vS s_t3_2), (4, vO [29]), (5, vI (0 : Int))], [rw_ [29] 3 1 (eI .i64) ([a0.Source, a0.Object, a0.Player, a0.Amount, a0.From, a0.To, a0.Cause, a0.Counter, a0.Card] : List (Int))], [], []⟩) (by kernel_rfl) trivial ?_
      refine Holds.block ?_
      obtain ⟨oB11, hiB11, hJ3⟩ := bS hJ3
      refine Holds.iter (fun (v : (List UInt8) × Int) => ⟨slots 45 0 [(3, vS v.1), (4, vO [29]), (5, vI v.2)], [rw_ [29] 3 1 (eI .i64) ([a0.Source, a0.Object, a0.Player, a0.Amount, a0.From, a0.To, a0.Cause, a0.Counter, a0.Card] : List (Int))], [], []⟩) hiB11 (Less.t (by kernel_rfl)) ?_
      rintro ⟨s_t3_8, i_t5_9⟩ zB11 hzB11 hoB11
      replace hzB11 : r32_Text_B11 a0 s_t3_8 i_t5_9 = some zB11 := hzB11
      unfold r32_Text_B11 at hzB11
      refine Holds.seq ?_
      refine Holds.rg (ss := [.a, .a, .a, .a]) (cs := []) (⟨slots 45 0 [(3, vS s_t3_8), (4, vO [29]), (5, vI i_t5_9), (33, vB (decide (i_t5_9 < (([a0.Source, a0.Object, a0.Player, a0.Amount, a0.From, a0.To, a0.Cause, a0.Counter, a0.Card] : List (Int)).length : Int))))], [rw_ [29] 3 1 (eI .i64) ([a0.Source, a0.Object, a0.Player, a0.Amount, a0.From, a0.To, a0.Cause, a0.Counter, a0.Card] : List (Int))], [], []⟩) (by kernel_rfl) trivial ?_
      refine Holds.ifB (decide (i_t5_9 < (([a0.Source, a0.Object, a0.Player, a0.Amount, a0.From, a0.To, a0.Cause, a0.Counter, a0.Card] : List (Int)).length : Int))) (by kernel_rfl) (fun b12 => ?_) (fun b12 => ?_)
      · replace hzB11 := iT hzB11 b12
        refine Holds.skip ?_
        refine thenQ.normal ?_
        refine Holds.seq ?_
        refine Holds.block ?_
        obtain ⟨e13, he13, hzB11⟩ := bS hzB11
        obtain ⟨r14, hr14, hzB11⟩ := bS hzB11
        obtain ⟨s15, hs15, hzB11⟩ := bS hzB11
        obtain ⟨s16, hs16, hzB11⟩ := bS hzB11
        refine Holds.reg (ss := [.a, .a, .a, .a, (.v (vI e13)), (.c (vS r14)), (.v (vS s15)), (.v (vS s16)), .a]) (cs := [0 ≤ i_t5_9 ∧ i_t5_9 < (([a0.Source, a0.Object, a0.Player, a0.Amount, a0.From, a0.To, a0.Cause, a0.Counter, a0.Card] : List (Int)).length : Int), (i_t5_9).toNat * 1 + 1 ≤ (([a0.Source, a0.Object, a0.Player, a0.Amount, a0.From, a0.To, a0.Cause, a0.Counter, a0.Card] : List (Int)).flatMap (eI .i64)).length ∧ toV false ((i_t5_9).toNat * 1) 1 (([a0.Source, a0.Object, a0.Player, a0.Amount, a0.From, a0.To, a0.Cause, a0.Counter, a0.Card] : List (Int)).flatMap (eI .i64)) = vI e13, (vI e13 : V) = vI e13, r01_Text_C e13 r14, str_x20.length + r14.length ≤ maxLen, V.c (.str (str_x20 ++ r14)) = .c (.str s15), s_t3_8.length + s15.length ≤ maxLen, V.c (.str (s_t3_8 ++ s15)) = .c (.str s16)]) (st' := ⟨slots 45 0 [(3, vS s16), (4, vO [29]), (5, vI i_t5_9), (33, vB (decide (i_t5_9 < (([a0.Source, a0.Object, a0.Player, a0.Amount, a0.From, a0.To, a0.Cause, a0.Counter, a0.Card] : List (Int)).length : Int)))), (36, vS s_t3_8), (37, vO [29]), (38, vI i_t5_9), (39, vP [29] ((i_t5_9).toNat * 1)), (40, vI e13), (41, vS r14), (42, vS s15), (43, vS s16)], [rw_ [29] 3 1 (eI .i64) ([a0.Source, a0.Object, a0.Player, a0.Amount, a0.From, a0.To, a0.Cause, a0.Counter, a0.Card] : List (Int))], [], []⟩) (by kernel_rfl) ⟨(idx_b he13), (elem_ld (e := eI .i64) (N := 1) he13 (fun _ => rfl) (o := 0) (by first | rfl | omega) (by decide) (.inr (by decide)) (by kernel_rfl)), rfl, (r01_Text_ok hr14), (cat_b hs15), (congrArg (fun z => V.c (.str z)) (cat_x hs15).symm), (cat_b hs16), (congrArg (fun z => V.c (.str z)) (cat_x hs16).symm), trivial⟩ ?_
        refine blockQ.normal ?_
        refine thenQ.normal ?_
        refine Holds.reg (ss := [.a, .a, .a]) (cs := []) (st' := ⟨slots 45 0 [(3, vS s16), (4, vO [29]), (5, vI (wrap64 (i_t5_9 + (1 : Int)))), (33, vB (decide (i_t5_9 < (([a0.Source, a0.Object, a0.Player, a0.Amount, a0.From, a0.To, a0.Cause, a0.Counter, a0.Card] : List (Int)).length : Int)))), (34, vI i_t5_9), (35, vI (wrap64 (i_t5_9 + (1 : Int)))), (36, vS s_t3_8), (37, vO [29]), (38, vI i_t5_9), (39, vP [29] ((i_t5_9).toNat * 1)), (40, vI e13), (41, vS r14), (42, vS s15), (43, vS s16)], [rw_ [29] 3 1 (eI .i64) ([a0.Source, a0.Object, a0.Player, a0.Amount, a0.From, a0.To, a0.Cause, a0.Counter, a0.Card] : List (Int))], [], []⟩) (by kernel_rfl) trivial ?_
        refine thenQ.normal ⟨(s16, (wrap64 (i_t5_9 + (1 : Int)))), (sI hzB11).symm, Less.t (by kernel_rfl)⟩
      · replace hzB11 := iF hzB11 b12
        refine Holds.exit ?_
        refine thenQ.exit ?_
        have hoB11_ := hoB11 _ (sI hzB11).symm
        subst hoB11_
        refine thenQ.exit ?_
        refine blockQ.out ?_
        refine thenQ.normal ⟨s_t3_8, hJ3, Less.t (by kernel_rfl)⟩
    · rintro s_t3_4 hJ5
      replace hJ5 : r32_Text_J5 s_t3_4 = some r := hJ5
      unfold r32_Text_J5 at hJ5
      refine Holds.rg (ss := [.a, .a]) (cs := []) (⟨slots 45 0 [(2, vS s_t3_4)], [], [], []⟩) (by kernel_rfl) trivial ?_
      refine Holds.ret ?_
      refine bodyEnd (.inr rfl) (v := vS s_t3_4) (by kernel_rfl) (r := vS s_t3_4) (by kernel_rfl) (by kernel_rfl) ?_
      exact congrArg (fun (q : (List UInt8)) => (vS q : V)) (sI hJ5)
end Go.PL
