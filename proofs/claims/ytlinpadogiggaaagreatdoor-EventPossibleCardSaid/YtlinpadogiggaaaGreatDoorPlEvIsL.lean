/- Plain law of EventIs: event.Is is the reference's Is in a state whose ids rise. -/
import Derived.Test.YtlinpadogiggaaaGreatDoorPlEwW3
import Derived.Test.YtlinpadogiggaaaGreatDoorPlEvF17
namespace Go.PL
open Go
set_option maxRecDepth 100000
set_option linter.all false
theorem alive_true : law32_alive = some true := by kernel_rfl
theorem find_eq (s : SState) (i : Int) : zone_Find s i = r25_Find s i := rfl
theorem living_eq (s : SState) (p : Int) : event_living s p = r32_living s p := rfl
/-- Where an object lies. -/
theorem place_W {a0 : SState} {a1 : Int} (k_a0 : lkSState a0) : W (r25_place a0 a1) (fun r => -1 ≤ r ∧ r < a0.Objects.length ∧ (0 ≤ r → (a0.Objects.getD r.toNat default).Id = a1)) := by
  unfold r25_place
  have ll_1 : a0.Objects.length ≤ 140737488355328 := lkL_len (by decide) (lkSState_Objects k_a0)
  refine W.it (fun (v : Int) => 0 ≤ v ∧ v ≤ a0.Objects.length) (fun v => ((a0.Objects.length : Int) - v).toNat) ⟨by omega, by omega⟩ (by omega) (fun v hv => ?_)
  obtain ⟨v1, v2⟩ := hv
  unfold r25_place_B5
  refine W.if (fun hi => ?_) (fun hi => ?_)
  · simp only [bz] at hi
    refine W.bd (W.idx (by omega)) (fun e7 q7 => ?_)
    refine W.if (fun hh => ?_) (fun hh => ?_)
    · simp only [bz] at hh
      refine W.ex (W.rt ⟨by omega, by omega, fun _ => ?_⟩)
      rw [← q7.2.1]; exact hh
    · have w2 := wrap64_id (x := v + 1) (by omega) (by omega)
      exact W.nx ⟨by omega, by omega⟩ (by omega)
  · exact W.ex (W.rt ⟨by omega, by omega, fun h => by omega⟩)
theorem find_W {a0 : SState} {a1 : Int} (k_a0 : lkSState a0) : W (r25_Find a0 a1) (fun r => r.2 = true → r.1.Id = a1 ∧ ∃ i : Int, 0 ≤ i ∧ i < a0.Objects.length ∧ r.1 = a0.Objects.getD i.toNat default) := by
  unfold r25_Find
  refine W.bd (place_W k_a0) (fun r1 q => ?_)
  refine W.if (fun hh => W.rt (fun h => by cases h)) (fun hh => ?_)
  simp only [bz] at hh
  refine W.bd (W.idx ⟨by omega, by omega⟩) (fun e3 q3 => ?_)
  refine W.rt (fun _ => ⟨?_, r1, by omega, q.2.1, q3.2.1⟩)
  show e3.Id = a1
  rw [q3.2.1]; exact q.2.2 (by omega)
def amt (e : SEvent) : Bool := if decide ((1 : Int) ≤ e.Amount) = true then decide (e.Amount ≤ (1000000 : Int)) else false
theorem amount_eq (e : SEvent) : event_amount e = some (amt e) := rfl
end Go.PL
