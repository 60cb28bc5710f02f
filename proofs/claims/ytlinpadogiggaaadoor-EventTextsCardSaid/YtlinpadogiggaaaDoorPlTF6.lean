/- Functions of the program, as partial functions in Lean, with proofs. -/
import Derived.Test.YtlinpadogiggaaaDoorPlTB
import Derived.Test.YtlinpadogiggaaaDoorPlTF0
import Derived.Test.YtlinpadogiggaaaDoorPlTF1
import Derived.Test.YtlinpadogiggaaaDoorPlTF2
import Derived.Test.YtlinpadogiggaaaDoorPlTF5
namespace Go.PL
open Go Go.RowKit Go.Proofs
set_option maxRecDepth 100000
set_option linter.all false
set_option maxHeartbeats 1000000
attribute [local irreducible] Holds thenQ blockQ
/-- cardgame/cardgamelaw32.EventTexts -/
def law32_EventTexts (a0 : SEvent) : Option (Bool) :=
  (law32_alive).bind fun r1 =>
  (gd (r1 == true) (event_Name a0.Kind)).bind fun r2 =>
  (gd (r1 == true) (r32_Name a0.Kind)).bind fun r3 =>
  (some (if r1 = true then r2 == r3 else false)).bind fun b4 =>
  (gd (b4 == true) (event_Text a0)).bind fun r5 =>
  (gd (b4 == true) (r32_Text a0)).bind fun r6 =>
  (some (if b4 = true then r5 == r6 else false)).bind fun b7 =>
  some b7
def law32_EventTexts_C (a0 : SEvent) (r : Bool) : Prop := PCall Tryd.prog I0 3 [vA encSEvent a0] (· = vB r)
theorem law32_EventTexts_ok {a0 : SEvent} {r : Bool} (h : law32_EventTexts a0 = some r) : law32_EventTexts_C a0 r := by
  refine PCall.body I0_stable (by kernel_rfl) Tryd.func3 rfl Tryd.ntmps3 (rs := [.tmp 2]) rfl rfl ?_
  intro w0 av old gv
  unfold law32_EventTexts at h
  refine Holds.rg (ss := [.a, .a]) (cs := []) (⟨slots 20 0 [(1, vP [1] (0))], [bx [1] (encSEvent a0)], [], []⟩) (by kernel_rfl) trivial ?_
  obtain ⟨r1, hr1, h⟩ := bS h
  obtain ⟨r2, hr2, h⟩ := bS h
  obtain ⟨r3, hr3, h⟩ := bS h
  obtain ⟨b4, hb4, h⟩ := bS h
  obtain ⟨r5, hr5, h⟩ := bS h
  obtain ⟨r6, hr6, h⟩ := bS h
  obtain ⟨b7, hb7, h⟩ := bS h
  refine Holds.rgQ (ss := [(.c (vB r1)), .a, .a, .a, (.c (vS r2)), .a, .a, (.c (vS r3)), .a, (.v (vB b4)), .a, .a, (.c (vS r5)), .a, (.c (vS r6)), .a, (.v (vB b7)), .a]) (cs := [law32_alive_C r1, (r1 == true) = true → andL [(r1 == true) = true → (r1 == true) = true], (r1 == true) = true → andL [(r1 == true) = true → (r1 == true) = true] ∧ event_Name_C a0.Kind r2, (r1 == true) = true → andL [(r1 == true) = true → (r1 == true) = true], (r1 == true) = true → andL [(r1 == true) = true → (r1 == true) = true] ∧ r32_Name_C a0.Kind r3, (r1 == true) = true → andL [(r1 == true) = true → (r1 == true) = true, (r1 == true) = true → (r1 == true) = true], r1 = true → (r1 == true) = true, (vB (if r1 = true then r2 == r3 else false) : V) = vB b4, (b4 == true) = true → andL [(b4 == true) = true → (b4 == true) = true] ∧ event_Text_C a0 r5, (b4 == true) = true → andL [(b4 == true) = true → (b4 == true) = true] ∧ r32_Text_C a0 r6, (b4 == true) = true → andL [(b4 == true) = true → (b4 == true) = true, (b4 == true) = true → (b4 == true) = true], b4 = true → (b4 == true) = true, (vB (if b4 = true then r5 == r6 else false) : V) = vB b7]) (⟨slots 20 0 [(2, vB b7)], [], [], []⟩) followsP (by kernel_rfl) (by kernel_rfl) ⟨(law32_alive_ok hr1), (fun hg => ⟨id, trivial⟩), (fun hg => ⟨⟨id, trivial⟩, event_Name_ok (gd_t hr2 hg)⟩), (fun hg => ⟨id, trivial⟩), (fun hg => ⟨⟨id, trivial⟩, r32_Name_ok (gd_t hr3 hg)⟩), (fun hg => ⟨id, id, trivial⟩), (fun q => (gT q)), (congrArg vB (sI hb4)), (fun hg => ⟨⟨id, trivial⟩, event_Text_ok (gd_t hr5 hg)⟩), (fun hg => ⟨⟨id, trivial⟩, r32_Text_ok (gd_t hr6 hg)⟩), (fun hg => ⟨id, id, trivial⟩), (fun q => (gT q)), (congrArg vB (sI hb7)), trivial⟩ ?_
  refine Holds.ret ?_
  refine bodyEnd (.inr rfl) (v := vB b7) (by kernel_rfl) (r := vB b7) (by kernel_rfl) (by kernel_rfl) ?_
  exact congrArg (fun (q : Bool) => (vB q : V)) (sI h)
end Go.PL
