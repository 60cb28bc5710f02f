/- Functions of the program, as partial functions in Lean, with proofs. -/
import Derived.Test.YtlinpadogiggaaaDoorPlTB
import Derived.Test.YtlinpadogiggaaaDoorPlTF0
import Derived.Test.YtlinpadogiggaaaDoorPlTF2
namespace Go.PL
open Go Go.RowKit Go.Proofs
set_option maxRecDepth 100000
set_option linter.all false
set_option maxHeartbeats 1000000
attribute [local irreducible] Holds thenQ blockQ
/-- cardgame/event.hurts -/
def event_hurts (a0 : SState) (a1 : SEvent) : Option (Bool) :=
  (event_amount a1).bind fun r1 =>
  (if (!r1) = true then
    some false
  else
    (if (a1.Object == (0 : Int)) = true then
      (event_living a0 a1.Player).bind fun r4 =>
      some r4
    else
      (event_fielded a0 a1.Object).bind fun r5 =>
      some r5.2))
def event_hurts_C (a0 : SState) (a1 : SEvent) (r : Bool) : Prop := PCall Tryd.prog I0 17 [vA encSState a0, vA encSEvent a1] (· = vB r)
theorem event_hurts_ok {a0 : SState} {a1 : SEvent} {r : Bool} (h : event_hurts a0 a1 = some r) : event_hurts_C a0 a1 r := by
  refine PCall.body I0_stable (by kernel_rfl) Tryd.func17 rfl Tryd.ntmps17 (rs := [.tmp 4]) rfl rfl ?_
  intro w0 av old gv
  unfold event_hurts at h
  refine Holds.rg (ss := [.a, .a, .a]) (cs := []) (⟨slots 25 0 [(2, vP [2] (0)), (3, vP [3] (0))], [bx [3] (encSEvent a1), bx [2] (encSState a0)], [], []⟩) (by kernel_rfl) trivial ?_
  refine Holds.seq ?_
  obtain ⟨r1, hr1, h⟩ := bS h
  refine Holds.rg (ss := [.a, (.c (vB r1)), .a]) (cs := [event_amount_C a1 r1]) (⟨slots 25 0 [(2, vP [2] (0)), (3, vP [3] (0)), (9, vB (!r1))], [bx [3] (encSEvent a1), bx [2] (encSState a0)], [], []⟩) (by kernel_rfl) ⟨(event_amount_ok hr1), trivial⟩ ?_
  refine Holds.ifB (!r1) (by kernel_rfl) (fun b2 => ?_) (fun b2 => ?_)
  · replace h := iT h b2
    refine Holds.rg (ss := [.a]) (cs := []) (⟨slots 25 0 [(4, vB false)], [], [], []⟩) (by kernel_rfl) trivial ?_
    refine Holds.ret ?_
    refine thenQ.ret ?_
    refine bodyEnd (.inr rfl) (v := vB false) (by kernel_rfl) (r := vB false) (by kernel_rfl) (by kernel_rfl) ?_
    exact congrArg (fun (q : Bool) => (vB q : V)) (sI h)
  · replace h := iF h b2
    refine Holds.skip ?_
    refine thenQ.normal ?_
    refine Holds.seq ?_
    refine Holds.rg (ss := [.a, .a, .a]) (cs := []) (⟨slots 25 0 [(2, vP [2] (0)), (3, vP [3] (0)), (12, vB (a1.Object == (0 : Int)))], [bx [3] (encSEvent a1), bx [2] (encSState a0)], [], []⟩) (by kernel_rfl) trivial ?_
    refine Holds.ifB (a1.Object == (0 : Int)) (by kernel_rfl) (fun b3 => ?_) (fun b3 => ?_)
    · replace h := iT h b3
      obtain ⟨r4, hr4, h⟩ := bS h
      refine Holds.rg (ss := [.a, .a, .a, (.c (vB r4)), .a]) (cs := [event_living_C a0 a1.Player r4]) (⟨slots 25 0 [(4, vB r4)], [], [], []⟩) (by kernel_rfl) ⟨(event_living_ok hr4), trivial⟩ ?_
      refine Holds.ret ?_
      refine thenQ.ret ?_
      refine bodyEnd (.inr rfl) (v := vB r4) (by kernel_rfl) (r := vB r4) (by kernel_rfl) (by kernel_rfl) ?_
      exact congrArg (fun (q : Bool) => (vB q : V)) (sI h)
    · replace h := iF h b3
      refine Holds.skip ?_
      refine thenQ.normal ?_
      obtain ⟨r5, hr5, h⟩ := bS h
      refine Holds.rg (ss := [.a, .a, .a, (.c (.tup [vA encSObject r5.1, vB r5.2])), .a, .a, .a, .a, .a, .a]) (cs := [event_fielded_C a0 a1.Object r5, True ∧ 0 < [V.undef, V.undef].length, True ∧ 1 < [V.undef, V.undef].length]) (⟨slots 25 0 [(6, vB r5.2)], [], [], []⟩) (by kernel_rfl) ⟨(event_fielded_ok hr5), ⟨trivial, (by decide)⟩, ⟨trivial, (by decide)⟩, trivial⟩ ?_
      refine Holds.rg (ss := [.a, .a]) (cs := []) (⟨slots 25 0 [(4, vB r5.2)], [], [], []⟩) (by kernel_rfl) trivial ?_
      refine Holds.ret ?_
      refine bodyEnd (.inr rfl) (v := vB r5.2) (by kernel_rfl) (r := vB r5.2) (by kernel_rfl) (by kernel_rfl) ?_
      exact congrArg (fun (q : Bool) => (vB q : V)) (sI h)
/-- cardgame/event.counts -/
def event_counts (a0 : SState) (a1 : SEvent) : Option (Bool) :=
  (event_fielded a0 a1.Object).bind fun r1 =>
  (some (if r1.2 = true then decide ((0 : Int) ≤ a1.Counter) else false)).bind fun b2 =>
  (some (if b2 = true then decide (a1.Counter < (3 : Int)) else false)).bind fun b3 =>
  (gd (b3 == true) (event_amount a1)).bind fun r4 =>
  (some (if b3 = true then r4 else false)).bind fun b5 =>
  some b5
def event_counts_C (a0 : SState) (a1 : SEvent) (r : Bool) : Prop := PCall Tryd.prog I0 21 [vA encSState a0, vA encSEvent a1] (· = vB r)
theorem event_counts_ok {a0 : SState} {a1 : SEvent} {r : Bool} (h : event_counts a0 a1 = some r) : event_counts_C a0 a1 r := by
  refine PCall.body I0_stable (by kernel_rfl) Tryd.func21 rfl Tryd.ntmps21 (rs := [.tmp 4]) rfl rfl ?_
  intro w0 av old gv
  unfold event_counts at h
  refine Holds.rg (ss := [.a, .a, .a]) (cs := []) (⟨slots 29 0 [(2, vP [2] (0)), (3, vP [3] (0))], [bx [3] (encSEvent a1), bx [2] (encSState a0)], [], []⟩) (by kernel_rfl) trivial ?_
  obtain ⟨r1, hr1, h⟩ := bS h
  refine Holds.rg (ss := [.a, .a, .a, (.c (.tup [vA encSObject r1.1, vB r1.2])), .a, .a, .a, .a, .a, .a]) (cs := [event_fielded_C a0 a1.Object r1, True ∧ 0 < [V.undef, V.undef].length, True ∧ 1 < [V.undef, V.undef].length]) (⟨slots 29 0 [(3, vP [3] (0)), (6, vB r1.2)], [bx [3] (encSEvent a1)], [], []⟩) (by kernel_rfl) ⟨(event_fielded_ok hr1), ⟨trivial, (by decide)⟩, ⟨trivial, (by decide)⟩, trivial⟩ ?_
  obtain ⟨b2, hb2, h⟩ := bS h
  obtain ⟨b3, hb3, h⟩ := bS h
  obtain ⟨r4, hr4, h⟩ := bS h
  obtain ⟨b5, hb5, h⟩ := bS h
  refine Holds.rg (ss := [.a, .a, .a, .a, .a, (.v (vB b2)), .a, .a, .a, .a, (.v (vB b3)), .a, .a, (.c (vB r4)), (.v (vB b5)), .a]) (cs := [(r1.2 == true) = true → andL [(r1.2 == true) = true → (r1.2 == true) = true], (r1.2 == true) = true → andL [(r1.2 == true) = true → (r1.2 == true) = true], r1.2 = true → (r1.2 == true) = true, (vB (if r1.2 = true then decide ((0 : Int) ≤ a1.Counter) else false) : V) = vB b2, (b2 == true) = true → andL [(b2 == true) = true → (b2 == true) = true], (b2 == true) = true → andL [(b2 == true) = true → (b2 == true) = true], b2 = true → (b2 == true) = true, (vB (if b2 = true then decide (a1.Counter < (3 : Int)) else false) : V) = vB b3, (b3 == true) = true → andL [(b3 == true) = true → (b3 == true) = true] ∧ event_amount_C a1 r4, b3 = true → (b3 == true) = true, (vB (if b3 = true then r4 else false) : V) = vB b5]) (⟨slots 29 0 [(4, vB b5)], [], [], []⟩) (by kernel_rfl) ⟨(fun hg => ⟨id, trivial⟩), (fun hg => ⟨id, trivial⟩), (fun q => (gT q)), (congrArg vB (sI hb2)), (fun hg => ⟨id, trivial⟩), (fun hg => ⟨id, trivial⟩), (fun q => (gT q)), (congrArg vB (sI hb3)), (fun hg => ⟨⟨id, trivial⟩, event_amount_ok (gd_t hr4 hg)⟩), (fun q => (gT q)), (congrArg vB (sI hb5)), trivial⟩ ?_
  refine Holds.ret ?_
  refine bodyEnd (.inr rfl) (v := vB b5) (by kernel_rfl) (r := vB b5) (by kernel_rfl) (by kernel_rfl) ?_
  exact congrArg (fun (q : Bool) => (vB q : V)) (sI h)
end Go.PL
