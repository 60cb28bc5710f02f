/- Functions of the program, as partial functions in Lean, with proofs. -/
import Derived.Test.YtlinpadogiggaaaDoorPlTB
import Derived.Test.YtlinpadogiggaaaDoorPlTF0
import Derived.Test.YtlinpadogiggaaaDoorPlTF1
import Derived.Test.YtlinpadogiggaaaDoorPlTF2
import Derived.Test.YtlinpadogiggaaaDoorPlTF3
namespace Go.PL
open Go Go.RowKit Go.Proofs
set_option maxRecDepth 100000
set_option linter.all false
set_option maxHeartbeats 1000000
attribute [local irreducible] Holds thenQ blockQ
def event_Is_J21 (a0 : List (SCard)) (a1 : SState) (a2 : SEvent) (r1 : SObject × Bool) (vt68_20 : Bool) : Option (Bool) :=
  (if vt68_20 = true then
    (event_counts a1 a2).bind fun r23 =>
    some r23
  else
    (if (a2.Kind == (10 : Int)) = true then
      (event_creates a0 a1 a2).bind fun r25 =>
      some r25
    else
      (if (a2.Kind == (11 : Int)) = true then
        (zone_Find a1 a2.Object).bind fun r27 =>
        (some (if r27.2 = true then r27.1.Zone == (5 : Int) else false)).bind fun b28 =>
        (gd (b28 == true) (event_living a1 a2.Player)).bind fun r29 =>
        (some (if b28 = true then r29 else false)).bind fun b30 =>
        some b30
      else
        (if (a2.Kind == (12 : Int)) = true then
          (gd (r1.2 == true) (event_living a1 a2.Player)).bind fun r32 =>
          (some (if r1.2 = true then r32 else false)).bind fun b33 =>
          some b33
        else
          (if (a2.Kind == (13 : Int)) = true then
            (event_fielded a1 a2.Source).bind fun r35 =>
            (some (if r1.2 = true then r35.2 else false)).bind fun b36 =>
            some b36
          else
            some false)))))
def event_Is_J11 (a0 : List (SCard)) (a1 : SState) (a2 : SEvent) (r1 : SObject × Bool) (vt41_10 : Bool) : Option (Bool) :=
  (if vt41_10 = true then
    (event_living a1 a2.Player).bind fun r13 =>
    (gd (r13 == true) (event_amount a2)).bind fun r14 =>
    (some (if r13 = true then r14 else false)).bind fun b15 =>
    some b15
  else
    (if (a2.Kind == (6 : Int)) = true then
      (some (if r1.2 = true then !r1.1.Tapped else false)).bind fun b17 =>
      some b17
    else
      (if (a2.Kind == (7 : Int)) = true then
        (some (if r1.2 = true then r1.1.Tapped else false)).bind fun b19 =>
        some b19
      else
        (if (a2.Kind == (8 : Int)) = true then
          event_Is_J21 a0 a1 a2 r1 (a2.Kind == (8 : Int))
        else
          event_Is_J21 a0 a1 a2 r1 (a2.Kind == (9 : Int))))))
def event_Is_J7 (a0 : List (SCard)) (a1 : SState) (a2 : SEvent) (r1 : SObject × Bool) (vt32_6 : Bool) : Option (Bool) :=
  (if vt32_6 = true then
    (event_living a1 a2.Player).bind fun r9 =>
    some r9
  else
    (if (a2.Kind == (4 : Int)) = true then
      event_Is_J11 a0 a1 a2 r1 (a2.Kind == (4 : Int))
    else
      (if (a2.Kind == (5 : Int)) = true then
        event_Is_J11 a0 a1 a2 r1 (a2.Kind == (5 : Int))
      else
        event_Is_J11 a0 a1 a2 r1 (a2.Kind == (16 : Int)))))
/-- cardgame/event.Is -/
def event_Is (a0 : List (SCard)) (a1 : SState) (a2 : SEvent) : Option (Bool) :=
  (event_fielded a1 a2.Object).bind fun r1 =>
  (if (a2.Kind == (1 : Int)) = true then
    (event_hurts a1 a2).bind fun r3 =>
    some r3
  else
    (if (a2.Kind == (2 : Int)) = true then
      (event_moves a1 a2).bind fun r5 =>
      some r5
    else
      (if (a2.Kind == (3 : Int)) = true then
        event_Is_J7 a0 a1 a2 r1 (a2.Kind == (3 : Int))
      else
        (if (a2.Kind == (14 : Int)) = true then
          event_Is_J7 a0 a1 a2 r1 (a2.Kind == (14 : Int))
        else
          (if (a2.Kind == (15 : Int)) = true then
            event_Is_J7 a0 a1 a2 r1 (a2.Kind == (15 : Int))
          else
            event_Is_J7 a0 a1 a2 r1 (a2.Kind == (17 : Int)))))))
def event_Is_C (a0 : List (SCard)) (a1 : SState) (a2 : SEvent) (r : Bool) : Prop := PCall Tryd.prog I0 10 [vL encSCard a0, vA encSState a1, vA encSEvent a2] (· = vB r)
theorem event_Is_ok {a0 : List (SCard)} {a1 : SState} {a2 : SEvent} {r : Bool} (h : event_Is a0 a1 a2 = some r) : event_Is_C a0 a1 a2 r := by
  refine PCall.body I0_stable (by kernel_rfl) Tryd.func10 rfl Tryd.ntmps10 (rs := [.tmp 6]) rfl rfl ?_
  intro w0 av old gv
  unfold event_Is at h
  refine Holds.rg (ss := [.a, .a, .a]) (cs := []) (⟨slots 123 0 [(0, vL encSCard a0), (4, vP [4] (0)), (5, vP [5] (0))], [bx [5] (encSEvent a2), bx [4] (encSState a1)], [], []⟩) (by kernel_rfl) trivial ?_
  obtain ⟨r1, hr1, h⟩ := bS h
  refine Holds.rg (ss := [.a, .a, .a, (.c (.tup [vA encSObject r1.1, vB r1.2])), .a, .a, .a, .a, .a, .a]) (cs := [event_fielded_C a1 a2.Object r1, True ∧ 0 < [V.undef, V.undef].length, True ∧ 1 < [V.undef, V.undef].length]) (⟨slots 123 0 [(0, vL encSCard a0), (4, vP [4] (0)), (5, vP [5] (0)), (7, vP [7] (0)), (8, vB r1.2)], [bx [7] (encSObject r1.1), bx [5] (encSEvent a2), bx [4] (encSState a1)], [], []⟩) (by kernel_rfl) ⟨(event_fielded_ok hr1), ⟨trivial, (by decide)⟩, ⟨trivial, (by decide)⟩, trivial⟩ ?_
  refine Holds.seq ?_
  refine Holds.rg (ss := [.a, .a]) (cs := []) (⟨slots 123 0 [(0, vL encSCard a0), (4, vP [4] (0)), (5, vP [5] (0)), (7, vP [7] (0)), (8, vB r1.2), (21, vI a2.Kind)], [bx [7] (encSObject r1.1), bx [5] (encSEvent a2), bx [4] (encSState a1)], [], []⟩) (by kernel_rfl) trivial ?_
  refine Holds.block ?_
  refine Holds.rg (ss := [.a, .a]) (cs := []) (⟨slots 123 0 [(0, vL encSCard a0), (4, vP [4] (0)), (5, vP [5] (0)), (7, vP [7] (0)), (8, vB r1.2), (21, vI a2.Kind), (22, vB (a2.Kind == (1 : Int)))], [bx [7] (encSObject r1.1), bx [5] (encSEvent a2), bx [4] (encSState a1)], [], []⟩) (by kernel_rfl) trivial ?_
  refine Holds.ifB (a2.Kind == (1 : Int)) (by kernel_rfl) (fun b2 => ?_) (fun b2 => ?_)
  · replace h := iT h b2
    obtain ⟨r3, hr3, h⟩ := bS h
    refine Holds.rg (ss := [.a, .a, (.c (vB r3)), .a]) (cs := [event_hurts_C a1 a2 r3]) (⟨slots 123 0 [(6, vB r3)], [], [], []⟩) (by kernel_rfl) ⟨(event_hurts_ok hr3), trivial⟩ ?_
    refine Holds.ret ?_
    refine blockQ.ret ?_
    refine thenQ.ret ?_
    refine bodyEnd (.inr rfl) (v := vB r3) (by kernel_rfl) (r := vB r3) (by kernel_rfl) (by kernel_rfl) ?_
    exact congrArg (fun (q : Bool) => (vB q : V)) (sI h)
  · replace h := iF h b2
    refine Holds.rg (ss := [.a, .a]) (cs := []) (⟨slots 123 0 [(0, vL encSCard a0), (4, vP [4] (0)), (5, vP [5] (0)), (7, vP [7] (0)), (8, vB r1.2), (21, vI a2.Kind), (27, vB (a2.Kind == (2 : Int)))], [bx [7] (encSObject r1.1), bx [5] (encSEvent a2), bx [4] (encSState a1)], [], []⟩) (by kernel_rfl) trivial ?_
    refine Holds.ifB (a2.Kind == (2 : Int)) (by kernel_rfl) (fun b4 => ?_) (fun b4 => ?_)
    · replace h := iT h b4
      obtain ⟨r5, hr5, h⟩ := bS h
      refine Holds.rg (ss := [.a, .a, (.c (vB r5)), .a]) (cs := [event_moves_C a1 a2 r5]) (⟨slots 123 0 [(6, vB r5)], [], [], []⟩) (by kernel_rfl) ⟨(event_moves_ok hr5), trivial⟩ ?_
      refine Holds.ret ?_
      refine blockQ.ret ?_
      refine thenQ.ret ?_
      refine bodyEnd (.inr rfl) (v := vB r5) (by kernel_rfl) (r := vB r5) (by kernel_rfl) (by kernel_rfl) ?_
      exact congrArg (fun (q : Bool) => (vB q : V)) (sI h)
    · replace h := iF h b4
      refine Holds.seqJ (X := Bool) (fun v => ⟨slots 123 0 [(0, vL encSCard a0), (4, vP [4] (0)), (5, vP [5] (0)), (7, vP [7] (0)), (8, vB r1.2), (21, vI a2.Kind), (32, vB v)], [bx [7] (encSObject r1.1), bx [5] (encSEvent a2), bx [4] (encSState a1)], [], []⟩) (fun v => event_Is_J7 a0 a1 a2 r1 v = some r) ?_ ?_
      · refine Holds.rg (ss := [.a, .a]) (cs := []) (⟨slots 123 0 [(0, vL encSCard a0), (4, vP [4] (0)), (5, vP [5] (0)), (7, vP [7] (0)), (8, vB r1.2), (21, vI a2.Kind), (32, vB (a2.Kind == (3 : Int)))], [bx [7] (encSObject r1.1), bx [5] (encSEvent a2), bx [4] (encSState a1)], [], []⟩) (by kernel_rfl) trivial ?_
        refine Holds.ifB (a2.Kind == (3 : Int)) (by kernel_rfl) (fun b40 => ?_) (fun b40 => ?_)
        · replace h := iT h b40
          refine Holds.skip ?_
          refine thenQ.normal ⟨(a2.Kind == (3 : Int)), h, Less.t (by kernel_rfl)⟩
        · replace h := iF h b40
          refine Holds.rg (ss := [.a, .a]) (cs := []) (⟨slots 123 0 [(0, vL encSCard a0), (4, vP [4] (0)), (5, vP [5] (0)), (7, vP [7] (0)), (8, vB r1.2), (21, vI a2.Kind), (32, vB (a2.Kind == (14 : Int)))], [bx [7] (encSObject r1.1), bx [5] (encSEvent a2), bx [4] (encSState a1)], [], []⟩) (by kernel_rfl) trivial ?_
          refine Holds.ifB (a2.Kind == (14 : Int)) (by kernel_rfl) (fun b41 => ?_) (fun b41 => ?_)
          · replace h := iT h b41
            refine Holds.skip ?_
            refine thenQ.normal ⟨(a2.Kind == (14 : Int)), h, Less.t (by kernel_rfl)⟩
          · replace h := iF h b41
            refine Holds.rg (ss := [.a, .a]) (cs := []) (⟨slots 123 0 [(0, vL encSCard a0), (4, vP [4] (0)), (5, vP [5] (0)), (7, vP [7] (0)), (8, vB r1.2), (21, vI a2.Kind), (32, vB (a2.Kind == (15 : Int)))], [bx [7] (encSObject r1.1), bx [5] (encSEvent a2), bx [4] (encSState a1)], [], []⟩) (by kernel_rfl) trivial ?_
            refine Holds.ifB (a2.Kind == (15 : Int)) (by kernel_rfl) (fun b42 => ?_) (fun b42 => ?_)
            · replace h := iT h b42
              refine Holds.skip ?_
              refine thenQ.normal ⟨(a2.Kind == (15 : Int)), h, Less.t (by kernel_rfl)⟩
            · replace h := iF h b42
              refine Holds.reg (ss := [.a, .a]) (cs := []) (st' := ⟨slots 123 0 [(0, vL encSCard a0), (4, vP [4] (0)), (5, vP [5] (0)), (7, vP [7] (0)), (8, vB r1.2), (21, vI a2.Kind), (32, vB (a2.Kind == (17 : Int))), (36, vB (a2.Kind == (17 : Int)))], [bx [7] (encSObject r1.1), bx [5] (encSEvent a2), bx [4] (encSState a1)], [], []⟩) (by kernel_rfl) trivial ?_
              refine thenQ.normal ⟨(a2.Kind == (17 : Int)), h, Less.t (by kernel_rfl)⟩
      · rintro vt32_6 hJ7
        replace hJ7 : event_Is_J7 a0 a1 a2 r1 vt32_6 = some r := hJ7
        unfold event_Is_J7 at hJ7
        refine Holds.ifB vt32_6 (by kernel_rfl) (fun b8 => ?_) (fun b8 => ?_)
        · replace hJ7 := iT hJ7 b8
          obtain ⟨r9, hr9, hJ7⟩ := bS hJ7
          refine Holds.rg (ss := [.a, .a, .a, (.c (vB r9)), .a]) (cs := [event_living_C a1 a2.Player r9]) (⟨slots 123 0 [(6, vB r9)], [], [], []⟩) (by kernel_rfl) ⟨(event_living_ok hr9), trivial⟩ ?_
          refine Holds.ret ?_
          refine blockQ.ret ?_
          refine thenQ.ret ?_
          refine bodyEnd (.inr rfl) (v := vB r9) (by kernel_rfl) (r := vB r9) (by kernel_rfl) (by kernel_rfl) ?_
          exact congrArg (fun (q : Bool) => (vB q : V)) (sI hJ7)
        · replace hJ7 := iF hJ7 b8
          refine Holds.seqJ (X := Bool) (fun v => ⟨slots 123 0 [(0, vL encSCard a0), (4, vP [4] (0)), (5, vP [5] (0)), (7, vP [7] (0)), (8, vB r1.2), (21, vI a2.Kind), (41, vB v)], [bx [7] (encSObject r1.1), bx [5] (encSEvent a2), bx [4] (encSState a1)], [], []⟩) (fun v => event_Is_J11 a0 a1 a2 r1 v = some r) ?_ ?_
          · refine Holds.rg (ss := [.a, .a]) (cs := []) (⟨slots 123 0 [(0, vL encSCard a0), (4, vP [4] (0)), (5, vP [5] (0)), (7, vP [7] (0)), (8, vB r1.2), (21, vI a2.Kind), (41, vB (a2.Kind == (4 : Int)))], [bx [7] (encSObject r1.1), bx [5] (encSEvent a2), bx [4] (encSState a1)], [], []⟩) (by kernel_rfl) trivial ?_
            refine Holds.ifB (a2.Kind == (4 : Int)) (by kernel_rfl) (fun b38 => ?_) (fun b38 => ?_)
            · replace hJ7 := iT hJ7 b38
              refine Holds.skip ?_
              refine thenQ.normal ⟨(a2.Kind == (4 : Int)), hJ7, Less.t (by kernel_rfl)⟩
            · replace hJ7 := iF hJ7 b38
              refine Holds.rg (ss := [.a, .a]) (cs := []) (⟨slots 123 0 [(0, vL encSCard a0), (4, vP [4] (0)), (5, vP [5] (0)), (7, vP [7] (0)), (8, vB r1.2), (21, vI a2.Kind), (41, vB (a2.Kind == (5 : Int)))], [bx [7] (encSObject r1.1), bx [5] (encSEvent a2), bx [4] (encSState a1)], [], []⟩) (by kernel_rfl) trivial ?_
              refine Holds.ifB (a2.Kind == (5 : Int)) (by kernel_rfl) (fun b39 => ?_) (fun b39 => ?_)
              · replace hJ7 := iT hJ7 b39
                refine Holds.skip ?_
                refine thenQ.normal ⟨(a2.Kind == (5 : Int)), hJ7, Less.t (by kernel_rfl)⟩
              · replace hJ7 := iF hJ7 b39
                refine Holds.reg (ss := [.a, .a]) (cs := []) (st' := ⟨slots 123 0 [(0, vL encSCard a0), (4, vP [4] (0)), (5, vP [5] (0)), (7, vP [7] (0)), (8, vB r1.2), (21, vI a2.Kind), (41, vB (a2.Kind == (16 : Int))), (44, vB (a2.Kind == (16 : Int)))], [bx [7] (encSObject r1.1), bx [5] (encSEvent a2), bx [4] (encSState a1)], [], []⟩) (by kernel_rfl) trivial ?_
                refine thenQ.normal ⟨(a2.Kind == (16 : Int)), hJ7, Less.t (by kernel_rfl)⟩
          · rintro vt41_10 hJ11
            replace hJ11 : event_Is_J11 a0 a1 a2 r1 vt41_10 = some r := hJ11
            unfold event_Is_J11 at hJ11
            refine Holds.ifB vt41_10 (by kernel_rfl) (fun b12 => ?_) (fun b12 => ?_)
            · replace hJ11 := iT hJ11 b12
              obtain ⟨r13, hr13, hJ11⟩ := bS hJ11
              obtain ⟨r14, hr14, hJ11⟩ := bS hJ11
              obtain ⟨b15, hb15, hJ11⟩ := bS hJ11
              refine Holds.rg (ss := [.a, .a, .a, (.c (vB r13)), .a, .a, (.c (vB r14)), (.v (vB b15)), .a]) (cs := [event_living_C a1 a2.Player r13, (r13 == true) = true → andL [(r13 == true) = true → (r13 == true) = true] ∧ event_amount_C a2 r14, r13 = true → (r13 == true) = true, (vB (if r13 = true then r14 else false) : V) = vB b15]) (⟨slots 123 0 [(6, vB b15)], [], [], []⟩) (by kernel_rfl) ⟨(event_living_ok hr13), (fun hg => ⟨⟨id, trivial⟩, event_amount_ok (gd_t hr14 hg)⟩), (fun q => (gT q)), (congrArg vB (sI hb15)), trivial⟩ ?_
              refine Holds.ret ?_
              refine blockQ.ret ?_
              refine thenQ.ret ?_
              refine bodyEnd (.inr rfl) (v := vB b15) (by kernel_rfl) (r := vB b15) (by kernel_rfl) (by kernel_rfl) ?_
              exact congrArg (fun (q : Bool) => (vB q : V)) (sI hJ11)
            · replace hJ11 := iF hJ11 b12
              refine Holds.rg (ss := [.a, .a]) (cs := []) (⟨slots 123 0 [(0, vL encSCard a0), (4, vP [4] (0)), (5, vP [5] (0)), (7, vP [7] (0)), (8, vB r1.2), (21, vI a2.Kind), (53, vB (a2.Kind == (6 : Int)))], [bx [7] (encSObject r1.1), bx [5] (encSEvent a2), bx [4] (encSState a1)], [], []⟩) (by kernel_rfl) trivial ?_
              refine Holds.ifB (a2.Kind == (6 : Int)) (by kernel_rfl) (fun b16 => ?_) (fun b16 => ?_)
              · replace hJ11 := iT hJ11 b16
                obtain ⟨b17, hb17, hJ11⟩ := bS hJ11
                refine Holds.rg (ss := [.a, .a, .a, .a, .a, (.v (vB b17)), .a]) (cs := [(r1.2 == true) = true → andL [(r1.2 == true) = true → (r1.2 == true) = true], (r1.2 == true) = true → andL [(r1.2 == true) = true → (r1.2 == true) = true], r1.2 = true → (r1.2 == true) = true, (vB (if r1.2 = true then !r1.1.Tapped else false) : V) = vB b17]) (⟨slots 123 0 [(6, vB b17)], [], [], []⟩) (by kernel_rfl) ⟨(fun hg => ⟨id, trivial⟩), (fun hg => ⟨id, trivial⟩), (fun q => (gT q)), (congrArg vB (sI hb17)), trivial⟩ ?_
                refine Holds.ret ?_
                refine blockQ.ret ?_
                refine thenQ.ret ?_
                refine bodyEnd (.inr rfl) (v := vB b17) (by kernel_rfl) (r := vB b17) (by kernel_rfl) (by kernel_rfl) ?_
                exact congrArg (fun (q : Bool) => (vB q : V)) (sI hJ11)
              · replace hJ11 := iF hJ11 b16
                refine Holds.rg (ss := [.a, .a]) (cs := []) (⟨slots 123 0 [(0, vL encSCard a0), (4, vP [4] (0)), (5, vP [5] (0)), (7, vP [7] (0)), (8, vB r1.2), (21, vI a2.Kind), (61, vB (a2.Kind == (7 : Int)))], [bx [7] (encSObject r1.1), bx [5] (encSEvent a2), bx [4] (encSState a1)], [], []⟩) (by kernel_rfl) trivial ?_
                refine Holds.ifB (a2.Kind == (7 : Int)) (by kernel_rfl) (fun b18 => ?_) (fun b18 => ?_)
                · replace hJ11 := iT hJ11 b18
                  obtain ⟨b19, hb19, hJ11⟩ := bS hJ11
                  refine Holds.rg (ss := [.a, .a, .a, .a, (.v (vB b19)), .a]) (cs := [(r1.2 == true) = true → andL [(r1.2 == true) = true → (r1.2 == true) = true], r1.2 = true → (r1.2 == true) = true, (vB (if r1.2 = true then r1.1.Tapped else false) : V) = vB b19]) (⟨slots 123 0 [(6, vB b19)], [], [], []⟩) (by kernel_rfl) ⟨(fun hg => ⟨id, trivial⟩), (fun q => (gT q)), (congrArg vB (sI hb19)), trivial⟩ ?_
                  refine Holds.ret ?_
                  refine blockQ.ret ?_
                  refine thenQ.ret ?_
                  refine bodyEnd (.inr rfl) (v := vB b19) (by kernel_rfl) (r := vB b19) (by kernel_rfl) (by kernel_rfl) ?_
                  exact congrArg (fun (q : Bool) => (vB q : V)) (sI hJ11)
                · replace hJ11 := iF hJ11 b18
                  refine Holds.seqJ (X := Bool) (fun v => ⟨slots 123 0 [(0, vL encSCard a0), (4, vP [4] (0)), (5, vP [5] (0)), (8, vB r1.2), (21, vI a2.Kind), (68, vB v)], [bx [5] (encSEvent a2), bx [4] (encSState a1)], [], []⟩) (fun v => event_Is_J21 a0 a1 a2 r1 v = some r) ?_ ?_
                  · refine Holds.rg (ss := [.a, .a]) (cs := []) (⟨slots 123 0 [(0, vL encSCard a0), (4, vP [4] (0)), (5, vP [5] (0)), (8, vB r1.2), (21, vI a2.Kind), (68, vB (a2.Kind == (8 : Int)))], [bx [5] (encSEvent a2), bx [4] (encSState a1)], [], []⟩) (by kernel_rfl) trivial ?_
                    refine Holds.ifB (a2.Kind == (8 : Int)) (by kernel_rfl) (fun b37 => ?_) (fun b37 => ?_)
                    · replace hJ11 := iT hJ11 b37
                      refine Holds.skip ?_
                      refine thenQ.normal ⟨(a2.Kind == (8 : Int)), hJ11, Less.t (by kernel_rfl)⟩
                    · replace hJ11 := iF hJ11 b37
                      refine Holds.reg (ss := [.a, .a]) (cs := []) (st' := ⟨slots 123 0 [(0, vL encSCard a0), (4, vP [4] (0)), (5, vP [5] (0)), (8, vB r1.2), (21, vI a2.Kind), (68, vB (a2.Kind == (9 : Int))), (70, vB (a2.Kind == (9 : Int)))], [bx [5] (encSEvent a2), bx [4] (encSState a1)], [], []⟩) (by kernel_rfl) trivial ?_
                      refine thenQ.normal ⟨(a2.Kind == (9 : Int)), hJ11, Less.t (by kernel_rfl)⟩
                  · rintro vt68_20 hJ21
                    replace hJ21 : event_Is_J21 a0 a1 a2 r1 vt68_20 = some r := hJ21
                    unfold event_Is_J21 at hJ21
                    refine Holds.ifB vt68_20 (by kernel_rfl) (fun b22 => ?_) (fun b22 => ?_)
                    · replace hJ21 := iT hJ21 b22
                      obtain ⟨r23, hr23, hJ21⟩ := bS hJ21
                      refine Holds.rg (ss := [.a, .a, (.c (vB r23)), .a]) (cs := [event_counts_C a1 a2 r23]) (⟨slots 123 0 [(6, vB r23)], [], [], []⟩) (by kernel_rfl) ⟨(event_counts_ok hr23), trivial⟩ ?_
                      refine Holds.ret ?_
                      refine blockQ.ret ?_
                      refine thenQ.ret ?_
                      refine bodyEnd (.inr rfl) (v := vB r23) (by kernel_rfl) (r := vB r23) (by kernel_rfl) (by kernel_rfl) ?_
                      exact congrArg (fun (q : Bool) => (vB q : V)) (sI hJ21)
                    · replace hJ21 := iF hJ21 b22
                      refine Holds.rg (ss := [.a, .a]) (cs := []) (⟨slots 123 0 [(0, vL encSCard a0), (4, vP [4] (0)), (5, vP [5] (0)), (8, vB r1.2), (21, vI a2.Kind), (74, vB (a2.Kind == (10 : Int)))], [bx [5] (encSEvent a2), bx [4] (encSState a1)], [], []⟩) (by kernel_rfl) trivial ?_
                      refine Holds.ifB (a2.Kind == (10 : Int)) (by kernel_rfl) (fun b24 => ?_) (fun b24 => ?_)
                      · replace hJ21 := iT hJ21 b24
                        obtain ⟨r25, hr25, hJ21⟩ := bS hJ21
                        refine Holds.rg (ss := [.a, .a, .a, (.c (vB r25)), .a]) (cs := [event_creates_C a0 a1 a2 r25]) (⟨slots 123 0 [(6, vB r25)], [], [], []⟩) (by kernel_rfl) ⟨(event_creates_ok hr25), trivial⟩ ?_
                        refine Holds.ret ?_
                        refine blockQ.ret ?_
                        refine thenQ.ret ?_
                        refine bodyEnd (.inr rfl) (v := vB r25) (by kernel_rfl) (r := vB r25) (by kernel_rfl) (by kernel_rfl) ?_
                        exact congrArg (fun (q : Bool) => (vB q : V)) (sI hJ21)
                      · replace hJ21 := iF hJ21 b24
                        refine Holds.rg (ss := [.a, .a]) (cs := []) (⟨slots 123 0 [(4, vP [4] (0)), (5, vP [5] (0)), (8, vB r1.2), (21, vI a2.Kind), (80, vB (a2.Kind == (11 : Int)))], [bx [5] (encSEvent a2), bx [4] (encSState a1)], [], []⟩) (by kernel_rfl) trivial ?_
                        refine Holds.ifB (a2.Kind == (11 : Int)) (by kernel_rfl) (fun b26 => ?_) (fun b26 => ?_)
                        · replace hJ21 := iT hJ21 b26
                          obtain ⟨r27, hr27, hJ21⟩ := bS hJ21
                          refine Holds.rg (ss := [.a, .a, .a, (.c (.tup [vA encSObject r27.1, vB r27.2])), .a, .a, .a, .a, .a, .a]) (cs := [zone_Find_C a1 a2.Object r27, True ∧ 0 < [V.undef, V.undef].length, True ∧ 1 < [V.undef, V.undef].length]) (⟨slots 123 0 [(4, vP [4] (0)), (5, vP [5] (0)), (9, vP [9] (0)), (10, vB r27.2)], [bx [9] (encSObject r27.1), bx [5] (encSEvent a2), bx [4] (encSState a1)], [], []⟩) (by kernel_rfl) ⟨(zone_Find_ok hr27), ⟨trivial, (by decide)⟩, ⟨trivial, (by decide)⟩, trivial⟩ ?_
                          obtain ⟨b28, hb28, hJ21⟩ := bS hJ21
                          obtain ⟨r29, hr29, hJ21⟩ := bS hJ21
                          obtain ⟨b30, hb30, hJ21⟩ := bS hJ21
                          refine Holds.rg (ss := [.a, .a, .a, .a, .a, (.v (vB b28)), .a, .a, .a, .a, (.c (vB r29)), (.v (vB b30)), .a]) (cs := [(r27.2 == true) = true → andL [(r27.2 == true) = true → (r27.2 == true) = true], (r27.2 == true) = true → andL [(r27.2 == true) = true → (r27.2 == true) = true], r27.2 = true → (r27.2 == true) = true, (vB (if r27.2 = true then r27.1.Zone == (5 : Int) else false) : V) = vB b28, (b28 == true) = true → andL [(b28 == true) = true → (b28 == true) = true], (b28 == true) = true → andL [(b28 == true) = true → (b28 == true) = true, (b28 == true) = true → (b28 == true) = true] ∧ event_living_C a1 a2.Player r29, b28 = true → (b28 == true) = true, (vB (if b28 = true then r29 else false) : V) = vB b30]) (⟨slots 123 0 [(6, vB b30)], [], [], []⟩) (by kernel_rfl) ⟨(fun hg => ⟨id, trivial⟩), (fun hg => ⟨id, trivial⟩), (fun q => (gT q)), (congrArg vB (sI hb28)), (fun hg => ⟨id, trivial⟩), (fun hg => ⟨⟨id, id, trivial⟩, event_living_ok (gd_t hr29 hg)⟩), (fun q => (gT q)), (congrArg vB (sI hb30)), trivial⟩ ?_
                          refine Holds.ret ?_
                          refine blockQ.ret ?_
                          refine thenQ.ret ?_
                          refine bodyEnd (.inr rfl) (v := vB b30) (by kernel_rfl) (r := vB b30) (by kernel_rfl) (by kernel_rfl) ?_
                          exact congrArg (fun (q : Bool) => (vB q : V)) (sI hJ21)
                        · replace hJ21 := iF hJ21 b26
                          refine Holds.rg (ss := [.a, .a]) (cs := []) (⟨slots 123 0 [(4, vP [4] (0)), (5, vP [5] (0)), (8, vB r1.2), (21, vI a2.Kind), (101, vB (a2.Kind == (12 : Int)))], [bx [5] (encSEvent a2), bx [4] (encSState a1)], [], []⟩) (by kernel_rfl) trivial ?_
                          refine Holds.ifB (a2.Kind == (12 : Int)) (by kernel_rfl) (fun b31 => ?_) (fun b31 => ?_)
                          · replace hJ21 := iT hJ21 b31
                            obtain ⟨r32, hr32, hJ21⟩ := bS hJ21
                            obtain ⟨b33, hb33, hJ21⟩ := bS hJ21
                            refine Holds.rg (ss := [.a, .a, .a, .a, .a, (.c (vB r32)), (.v (vB b33)), .a]) (cs := [(r1.2 == true) = true → andL [(r1.2 == true) = true → (r1.2 == true) = true], (r1.2 == true) = true → andL [(r1.2 == true) = true → (r1.2 == true) = true, (r1.2 == true) = true → (r1.2 == true) = true] ∧ event_living_C a1 a2.Player r32, r1.2 = true → (r1.2 == true) = true, (vB (if r1.2 = true then r32 else false) : V) = vB b33]) (⟨slots 123 0 [(6, vB b33)], [], [], []⟩) (by kernel_rfl) ⟨(fun hg => ⟨id, trivial⟩), (fun hg => ⟨⟨id, id, trivial⟩, event_living_ok (gd_t hr32 hg)⟩), (fun q => (gT q)), (congrArg vB (sI hb33)), trivial⟩ ?_
                            refine Holds.ret ?_
                            refine blockQ.ret ?_
                            refine thenQ.ret ?_
                            refine bodyEnd (.inr rfl) (v := vB b33) (by kernel_rfl) (r := vB b33) (by kernel_rfl) (by kernel_rfl) ?_
                            exact congrArg (fun (q : Bool) => (vB q : V)) (sI hJ21)
                          · replace hJ21 := iF hJ21 b31
                            refine Holds.rg (ss := [.a, .a]) (cs := []) (⟨slots 123 0 [(4, vP [4] (0)), (5, vP [5] (0)), (8, vB r1.2), (110, vB (a2.Kind == (13 : Int)))], [bx [5] (encSEvent a2), bx [4] (encSState a1)], [], []⟩) (by kernel_rfl) trivial ?_
                            refine Holds.ifB (a2.Kind == (13 : Int)) (by kernel_rfl) (fun b34 => ?_) (fun b34 => ?_)
                            · replace hJ21 := iT hJ21 b34
                              obtain ⟨r35, hr35, hJ21⟩ := bS hJ21
                              refine Holds.rg (ss := [.a, .a, .a, (.c (.tup [vA encSObject r35.1, vB r35.2])), .a, .a, .a, .a, .a, .a]) (cs := [event_fielded_C a1 a2.Source r35, True ∧ 0 < [V.undef, V.undef].length, True ∧ 1 < [V.undef, V.undef].length]) (⟨slots 123 0 [(8, vB r1.2), (12, vB r35.2)], [], [], []⟩) (by kernel_rfl) ⟨(event_fielded_ok hr35), ⟨trivial, (by decide)⟩, ⟨trivial, (by decide)⟩, trivial⟩ ?_
                              obtain ⟨b36, hb36, hJ21⟩ := bS hJ21
                              refine Holds.rg (ss := [.a, .a, .a, (.v (vB b36)), .a]) (cs := [r1.2 = true → (r1.2 == true) = true, (vB (if r1.2 = true then r35.2 else false) : V) = vB b36]) (⟨slots 123 0 [(6, vB b36)], [], [], []⟩) (by kernel_rfl) ⟨(fun q => (gT q)), (congrArg vB (sI hb36)), trivial⟩ ?_
                              refine Holds.ret ?_
                              refine blockQ.ret ?_
                              refine thenQ.ret ?_
                              refine bodyEnd (.inr rfl) (v := vB b36) (by kernel_rfl) (r := vB b36) (by kernel_rfl) (by kernel_rfl) ?_
                              exact congrArg (fun (q : Bool) => (vB q : V)) (sI hJ21)
                            · replace hJ21 := iF hJ21 b34
                              refine Holds.skip ?_
                              refine blockQ.normal ?_
                              refine thenQ.normal ?_
                              refine Holds.rg (ss := [.a]) (cs := []) (⟨slots 123 0 [(6, vB false)], [], [], []⟩) (by kernel_rfl) trivial ?_
                              refine Holds.ret ?_
                              refine bodyEnd (.inr rfl) (v := vB false) (by kernel_rfl) (r := vB false) (by kernel_rfl) (by kernel_rfl) ?_
                              exact congrArg (fun (q : Bool) => (vB q : V)) (sI hJ21)
end Go.PL
