/- Plain law of EventIs: event.Is is the reference's Is in a state whose ids rise. -/
import Derived.Test.YtlinpadogiggaaaGreatDoorPlEwW3
import Derived.Test.YtlinpadogiggaaaGreatDoorPlEvF17
namespace Go.PL
open Go
set_option maxRecDepth 100000
set_option linter.all false
theorem alive_true : law32_alive = some true := by kernel_rfl
theorem find_eq (s : SState) (i : Int) : zone_Find s i = r25_Find s i := rfl
theorem living_eq (s : SState) (p : Int) : event_living s p = r32_living s p := rfl
/-- Where an object lies. -/
theorem place_W {a0 : SState} {a1 : Int} (k_a0 : lkSState a0) : W (r25_place a0 a1) (fun r => -1 ≤ r ∧ r < a0.Objects.length ∧ (0 ≤ r → (a0.Objects.getD r.toNat default).Id = a1)) := by
  unfold r25_place
  have ll_1 : a0.Objects.length ≤ 140737488355328 := lkL_len (by decide) (lkSState_Objects k_a0)
  refine W.it (fun (v : Int) => 0 ≤ v ∧ v ≤ a0.Objects.length) (fun v => ((a0.Objects.length : Int) - v).toNat) ⟨by omega, by omega⟩ (by omega) (fun v hv => ?_)
  obtain ⟨v1, v2⟩ := hv
  unfold r25_place_B5
  refine W.if (fun hi => ?_) (fun hi => ?_)
  · simp only [bz] at hi
    refine W.bd (W.idx (by omega)) (fun e7 q7 => ?_)
    refine W.if (fun hh => ?_) (fun hh => ?_)
    · simp only [bz] at hh
      refine W.ex (W.rt ⟨by omega, by omega, fun _ => ?_⟩)
      rw [← q7.2.1]; exact hh
    · have w2 := wrap64_id (x := v + 1) (by omega) (by omega)
      exact W.nx ⟨by omega, by omega⟩ (by omega)
  · exact W.ex (W.rt ⟨by omega, by omega, fun h => by omega⟩)
theorem find_W {a0 : SState} {a1 : Int} (k_a0 : lkSState a0) : W (r25_Find a0 a1) (fun r => r.2 = true → r.1.Id = a1 ∧ ∃ i : Int, 0 ≤ i ∧ i < a0.Objects.length ∧ r.1 = a0.Objects.getD i.toNat default) := by
  unfold r25_Find
  refine W.bd (place_W k_a0) (fun r1 q => ?_)
  refine W.if (fun hh => W.rt (fun h => by cases h)) (fun hh => ?_)
  simp only [bz] at hh
  refine W.bd (W.idx ⟨by omega, by omega⟩) (fun e3 q3 => ?_)
  refine W.rt (fun _ => ⟨?_, r1, by omega, q.2.1, q3.2.1⟩)
  show e3.Id = a1
  rw [q3.2.1]; exact q.2.2 (by omega)
theorem find_pos {a0 : SState} {a1 : Int} (k_a0 : lkSState a0) (hr : Rising a0.Objects) : W (r25_Find a0 a1) (fun r => r.2 = true → 1 ≤ a1) := by
  refine W.imp (find_W k_a0) (fun r h h2 => ?_)
  obtain ⟨h3, i, h4, h5, h6⟩ := h h2
  have := (hr i h4 h5).1
  rw [← h6, h3] at this
  exact this
def amt (e : SEvent) : Bool := if decide ((1 : Int) ≤ e.Amount) = true then decide (e.Amount ≤ (1000000 : Int)) else false
theorem amount_eq (e : SEvent) : event_amount e = some (amt e) := rfl
theorem ramount_eq (e : SEvent) : r32_amount e.Amount = some (amt e) := rfl
set_option maxHeartbeats 2000000 in
theorem is_eq {cs : List SCard} {s : SState} {e : SEvent} (k : lkSState s) (hr : Rising s.Objects) : event_Is cs s e = r32_Is cs s e := by
  obtain ⟨r1, h1, hz⟩ := find_pos k hr (a1 := e.Object)
  obtain ⟨l, h2, _⟩ := r32_living_W k (a1 := e.Player)
  obtain ⟨r3, h3, _⟩ := find_W k (a1 := e.Source)
  obtain ⟨o, ok⟩ := r1
  obtain ⟨o3, ok3⟩ := r3
  have hf : event_fielded s e.Object = some (o, if ok = true then o.Zone == (0 : Int) else false) := by unfold event_fielded; rw [find_eq, h1]; rfl
  have hf3 : event_fielded s e.Source = some (o3, if ok3 = true then o3.Zone == (0 : Int) else false) := by unfold event_fielded; rw [find_eq, h3]; rfl
  have hi3 : r32_in s e.Source 0 = some (if ok3 = true then o3.Zone == (0 : Int) else false) := by unfold r32_in; rw [h3]; rfl
  unfold event_Is r32_Is
  rw [hf, h1, h2]
  simp only [Option.bind_some, event_Is_J7, event_Is_J11, event_Is_J21, r32_Is_J16, r32_Is_J19, r32_Is_J28, event_hurts, event_moves, event_counts, event_creates, find_eq, living_eq, amount_eq, ramount_eq, hf, hf3, hi3, h1, h2, gd]
  by_cases k1 : e.Kind = 1
  · simp only [k1]
    by_cases ho : e.Object = 0
    · have : ok = false := by
        cases ok
        · rfl
        · have := hz rfl; omega
      subst this
      cases l <;> cases amt e <;> simp [ho]
    · cases ok <;> cases amt e <;> simp [ho] <;> rfl
  by_cases k2 : e.Kind = 2
  · simp only [k2]
    cases ok <;> simp
    by_cases hq : o.Zone = e.From
    · simp [hq]
    · have hq2 : ¬ e.From = o.Zone := fun h => hq h.symm
      simp [hq, hq2]
  by_cases k3 : e.Kind = 3
  · simp [k3]
  by_cases k14 : e.Kind = 14
  · simp [k14]
  by_cases k15 : e.Kind = 15
  · simp [k15]
  by_cases k17 : e.Kind = 17
  · simp [k17]
  by_cases k4 : e.Kind = 4
  · cases l <;> simp [k4]
  by_cases k5 : e.Kind = 5
  · cases l <;> simp [k5]
  by_cases k16 : e.Kind = 16
  · cases l <;> simp [k16]
  by_cases k6 : e.Kind = 6
  · cases ok <;> simp [k6]
  by_cases k7 : e.Kind = 7
  · cases ok <;> simp [k7]
  by_cases k8 : e.Kind = 8
  · cases ok <;> simp [k8]
  by_cases k9 : e.Kind = 9
  · cases ok <;> simp [k9]
  by_cases k10 : e.Kind = 10
  · cases l <;> simp [k10]
  by_cases k11 : e.Kind = 11
  · by_cases z : o.Zone = 5 <;> cases ok <;> cases l <;> cases ok3 <;> simp [k11, z]
  by_cases k12 : e.Kind = 12
  · by_cases z : o.Zone = 0 <;> cases ok <;> cases l <;> cases ok3 <;> simp [k12, z]
  by_cases k13 : e.Kind = 13
  · by_cases z : o.Zone = 0 <;> cases ok <;> cases l <;> cases ok3 <;> simp [k13, z]
  simp [k1, k2, k3, k4, k5, k6, k7, k8, k9, k10, k11, k12, k13, k14, k15, k16, k17]
theorem law_EventIs {cs : List SCard} {s : SState} {e : SEvent} (kc : lkL 176 lkSCard cs) (k : lkSState s) : law32_EventIs cs s e = some true := by
  obtain ⟨v, hv, hr⟩ := law32_valid_W kc k
  unfold law32_EventIs
  rw [hv]
  cases v
  · simp [gd]
  · obtain ⟨b, hb, _⟩ := event_Is_W (a2 := e) kc k
    have hb2 := hb
    rw [is_eq k (hr rfl)] at hb2
    rw [alive_true, hb, hb2]
    simp [gd]
end Go.PL
