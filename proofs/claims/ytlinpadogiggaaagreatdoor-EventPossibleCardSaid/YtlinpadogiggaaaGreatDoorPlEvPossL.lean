/- Plain laws of EventPossible and EventAmounts. -/
import Derived.Test.YtlinpadogiggaaaGreatDoorPlEvIsL
namespace Go.PL
open Go
set_option maxRecDepth 100000
set_option linter.all false
/-- What an event's possibility hangs on: the object (o, ok), whether the player lives (l), whether the source is on the battlefield (h3). -/
def tkn (cs : List SCard) (c : Int) : Bool := decide (0 ≤ c) && (decide (c < cs.length) && (cs.getD c.toNat default).Token)
def amB (n : Int) : Bool := decide (1 ≤ n) && decide (n ≤ 1000000)
def evP (cs : List SCard) (s : SState) (e : SEvent) (o : SObject) (ok l h3 : Bool) : Bool :=
  if e.Kind = 1 then amB e.Amount && (if e.Object = 0 then l else ok && o.Zone == 0)
  else if e.Kind = 2 then ok && (o.Zone == e.From && (e.To != e.From && (decide (0 ≤ e.To) && (decide (e.To ≤ 4) && (decide (0 ≤ e.Player) && decide (e.Player < s.Players.length))))))
  else if e.Kind = 3 ∨ e.Kind = 14 ∨ e.Kind = 15 ∨ e.Kind = 17 then l
  else if e.Kind = 4 ∨ e.Kind = 5 ∨ e.Kind = 16 then l && amB e.Amount
  else if e.Kind = 6 then (ok && o.Zone == 0) && !o.Tapped
  else if e.Kind = 7 then (ok && o.Zone == 0) && o.Tapped
  else if e.Kind = 8 ∨ e.Kind = 9 then (ok && o.Zone == 0) && (decide (0 ≤ e.Counter) && (decide (e.Counter < 3) && amB e.Amount))
  else if e.Kind = 10 then l && (tkn cs e.Card && amB e.Amount)
  else if e.Kind = 11 then ok && (o.Zone == 5 && l)
  else if e.Kind = 12 then (ok && o.Zone == 0) && l
  else if e.Kind = 13 then (ok && o.Zone == 0) && h3
  else false
theorem amt_amB (e : SEvent) : amt e = amB e.Amount := by unfold amt amB; by_cases h : 1 ≤ e.Amount <;> simp [h]
theorem creates_eq {cs : List SCard} {s : SState} {e : SEvent} {l : Bool} (h2 : r32_living s e.Player = some l) : event_creates cs s e = some (l && (tkn cs e.Card && amB e.Amount)) := by
  unfold event_creates
  rw [living_eq, h2]
  simp only [Option.bind_some, amount_eq, gd, tkn, amt_amB, idx]
  cases l
  · simp
  · by_cases a : 0 ≤ e.Card
    · by_cases b : e.Card < cs.length
      · generalize (cs.getD e.Card.toNat default) = c at *; cases hc : c.Token <;> simp [a, b, hc]
      · simp [a, b]
    · simp [a]
set_option maxHeartbeats 2000000 in
theorem is_val {cs : List SCard} {s : SState} {e : SEvent} {o o3 : SObject} {ok ok3 l : Bool} (h1 : r25_Find s e.Object = some (o, ok)) (h2 : r32_living s e.Player = some l) (h3 : r25_Find s e.Source = some (o3, ok3)) :
    event_Is cs s e = some (evP cs s e o ok l (ok3 && o3.Zone == 0)) := by
  have hf : event_fielded s e.Object = some (o, if ok = true then o.Zone == (0 : Int) else false) := by unfold event_fielded; rw [find_eq, h1]; rfl
  have hf3 : event_fielded s e.Source = some (o3, if ok3 = true then o3.Zone == (0 : Int) else false) := by unfold event_fielded; rw [find_eq, h3]; rfl
  unfold event_Is evP
  rw [hf]
  simp only [Option.bind_some, event_Is_J7, event_Is_J11, event_Is_J21, event_hurts, event_moves, event_counts, creates_eq h2, find_eq, living_eq, amount_eq, hf, hf3, h1, h2, gd, amt_amB]
  by_cases k1 : e.Kind = 1
  · simp only [k1]
    by_cases ho : e.Object = 0
    · cases l <;> cases amB e.Amount <;> simp [ho]
    · cases ok <;> cases amB e.Amount <;> simp [ho]
  by_cases k2 : e.Kind = 2
  · simp only [k2]
    cases ok
    · simp
    · by_cases q1 : o.Zone = e.From <;> by_cases q2 : e.To = e.From <;> by_cases q3 : 0 ≤ e.To <;> by_cases q4 : e.To ≤ 4 <;> by_cases q5 : 0 ≤ e.Player <;> simp [q1, q2, q3, q4, q5]
  by_cases k3 : e.Kind = 3
  · simp [k3]
  by_cases k14 : e.Kind = 14
  · simp [k14]
  by_cases k15 : e.Kind = 15
  · simp [k15]
  by_cases k17 : e.Kind = 17
  · simp [k17]
  by_cases k4 : e.Kind = 4
  · cases l <;> simp [k4]
  by_cases k5 : e.Kind = 5
  · cases l <;> simp [k5]
  by_cases k16 : e.Kind = 16
  · cases l <;> simp [k16]
  by_cases k6 : e.Kind = 6
  · cases ok <;> by_cases z : o.Zone = 0 <;> simp [k6, z]
  by_cases k7 : e.Kind = 7
  · cases ok <;> by_cases z : o.Zone = 0 <;> simp [k7, z]
  by_cases k8 : e.Kind = 8
  · cases ok <;> by_cases z : o.Zone = 0 <;> by_cases q1 : 0 ≤ e.Counter <;> by_cases q2 : e.Counter < 3 <;> simp [k8, z, q1, q2]
  by_cases k9 : e.Kind = 9
  · cases ok <;> by_cases z : o.Zone = 0 <;> by_cases q1 : 0 ≤ e.Counter <;> by_cases q2 : e.Counter < 3 <;> simp [k9, z, q1, q2]
  by_cases k10 : e.Kind = 10
  · simp [k10]
  by_cases k11 : e.Kind = 11
  · by_cases z : o.Zone = 5 <;> cases ok <;> cases l <;> simp [k11, z]
  by_cases k12 : e.Kind = 12
  · by_cases z : o.Zone = 0 <;> cases ok <;> cases l <;> simp [k12, z]
  by_cases k13 : e.Kind = 13
  · by_cases z : o.Zone = 0 <;> by_cases z3 : o3.Zone = 0 <;> cases ok <;> cases ok3 <;> simp [k13, z, z3]
  simp [k1, k2, k3, k4, k5, k6, k7, k8, k9, k10, k11, k12, k13, k14, k15, k16, k17]
/-- Where an object lies, or that there is none. -/
theorem place_W2 {a0 : SState} {a1 : Int} (k_a0 : lkSState a0) : W (r25_place a0 a1) (fun r => -1 ≤ r ∧ r < a0.Objects.length ∧ (0 ≤ r → (a0.Objects.getD r.toNat default).Id = a1) ∧ (r < 0 → ∀ i : Int, 0 ≤ i → i < a0.Objects.length → (a0.Objects.getD i.toNat default).Id ≠ a1)) := by
  unfold r25_place
  have ll_1 : a0.Objects.length ≤ 140737488355328 := lkL_len (by decide) (lkSState_Objects k_a0)
  refine W.it (fun (v : Int) => 0 ≤ v ∧ v ≤ a0.Objects.length ∧ ∀ i : Int, 0 ≤ i → i < v → (a0.Objects.getD i.toNat default).Id ≠ a1) (fun v => ((a0.Objects.length : Int) - v).toNat) ⟨by omega, by omega, fun i _ _ => by omega⟩ (by omega) (fun v hv => ?_)
  obtain ⟨v1, v2, v3⟩ := hv
  unfold r25_place_B5
  refine W.if (fun hi => ?_) (fun hi => ?_)
  · simp only [bz] at hi
    refine W.bd (W.idx (by omega)) (fun e7 q7 => ?_)
    refine W.if (fun hh => ?_) (fun hh => ?_)
    · simp only [bz] at hh
      refine W.ex (W.rt ⟨by omega, by omega, fun _ => ?_, fun h => by omega⟩)
      rw [← q7.2.1]; exact hh
    · simp only [bz] at hh
      have w2 := wrap64_id (x := v + 1) (by omega) (by omega)
      refine W.nx ⟨by omega, by omega, fun i h1 h2 => ?_⟩ (by omega)
      by_cases h : i = v
      · subst h; rw [← q7.2.1]; exact hh
      · exact v3 i h1 (by omega)
  · simp only [bz] at hi
    exact W.ex (W.rt ⟨by omega, by omega, fun h => by omega, fun _ i h1 h2 => v3 i h1 (by omega)⟩)
theorem find_W2 {a0 : SState} {a1 : Int} (k_a0 : lkSState a0) : W (r25_Find a0 a1) (fun r => (r.2 = true → r.1.Id = a1 ∧ ∃ i : Int, 0 ≤ i ∧ i < a0.Objects.length ∧ r.1 = a0.Objects.getD i.toNat default) ∧ (r.2 = false → ∀ i : Int, 0 ≤ i → i < a0.Objects.length → (a0.Objects.getD i.toNat default).Id ≠ a1)) := by
  unfold r25_Find
  refine W.bd (place_W2 k_a0) (fun r1 q => ?_)
  refine W.if (fun hh => ?_) (fun hh => ?_)
  · simp only [bz] at hh
    exact W.rt ⟨fun h => (by cases h), fun _ => q.2.2.2 hh⟩
  · simp only [bz] at hh
    refine W.bd (W.idx ⟨by omega, by omega⟩) (fun e3 q3 => ?_)
    refine W.rt ⟨fun _ => ⟨?_, r1, by omega, q.2.1, q3.2.1⟩, fun h => (by cases h)⟩
    show e3.Id = a1
    rw [q3.2.1]; exact q.2.2.1 (by omega)
theorem rising_lt {l : List SObject} (hr : Rising l) : ∀ (k : Nat) (i : Int), 0 ≤ i → i + 1 + k < l.length → (l.getD i.toNat default).Id < (l.getD (i + 1 + k).toNat default).Id
  | 0, i, h0, h1 => by
    have := (hr (i + 1) (by omega) (by omega)).2 (by omega)
    simpa using this
  | k + 1, i, h0, h1 => by
    have a := rising_lt hr k i h0 (by omega)
    have b := (hr (i + 1 + (k + 1 : Nat)) (by omega) (by omega)).2 (by omega)
    have e : i + 1 + ((k + 1 : Nat) : Int) - 1 = i + 1 + k := by omega
    rw [e] at b
    omega
theorem rising_inj {l : List SObject} (hr : Rising l) {i j : Int} (hi : 0 ≤ i ∧ i < l.length) (hj : 0 ≤ j ∧ j < l.length) (h : (l.getD i.toNat default).Id = (l.getD j.toNat default).Id) : i = j := by
  rcases Int.lt_trichotomy i j with h1 | h1 | h1
  · have := rising_lt hr (j - i - 1).toNat i (by omega) (by omega)
    have e : i + 1 + ((j - i - 1).toNat : Int) = j := by omega
    rw [e] at this; omega
  · exact h1
  · have := rising_lt hr (i - j - 1).toNat j (by omega) (by omega)
    have e : j + 1 + ((i - j - 1).toNat : Int) = i := by omega
    rw [e] at this; omega
/-- The loop of EventPossible tells what Find tells. -/
theorem poss_loop {cs : List SCard} {s : SState} {e : SEvent} {o : SObject} {ok : Bool} (k : lkSState s) (hr : Rising s.Objects)
    (h1 : ok = true → o.Id = e.Object ∧ ∃ i : Int, 0 ≤ i ∧ i < s.Objects.length ∧ o = s.Objects.getD i.toNat default)
    (h2 : ok = false → ∀ i : Int, 0 ≤ i → i < s.Objects.length → (s.Objects.getD i.toNat default).Id ≠ e.Object)
    (hJ : W (law32_EventPossible_J7 cs s e ok (ok && o.Zone == 0) (ok && o.Tapped)) (fun r => r = true)) :
    W ((iter (fun (v : Bool × Bool × Bool × Int) => law32_EventPossible_B53 s e v.1 v.2.1 v.2.2.1 v.2.2.2) FU (false, false, false, (0 : Int))).bind (fun o0 => law32_EventPossible_J7 cs s e o0.1 o0.2.1 o0.2.2)) (fun r => r = true) := by
  have ll_1 : s.Objects.length ≤ 140737488355328 := lkL_len (by decide) (lkSState_Objects k)
  refine W.it (fun (v : Bool × Bool × Bool × Int) => 0 ≤ v.2.2.2 ∧ v.2.2.2 ≤ s.Objects.length ∧ ((v.1 = false ∧ v.2.1 = false ∧ v.2.2.1 = false ∧ ∀ i : Int, 0 ≤ i → i < v.2.2.2 → (s.Objects.getD i.toNat default).Id ≠ e.Object) ∨ (v.1 = true ∧ ok = true ∧ v.2.1 = (o.Zone == 0) ∧ v.2.2.1 = o.Tapped))) (fun v => ((s.Objects.length : Int) - v.2.2.2).toNat) ⟨by simp, by simp, .inl ⟨rfl, rfl, rfl, fun i _ h => by simp at h; omega⟩⟩ (by simp; omega) (fun v hv => ?_)
  obtain ⟨va, vb, vc, vi⟩ := v
  obtain ⟨v1, v2, v3⟩ := hv
  simp only at v1 v2 v3
  show W (law32_EventPossible_B53 s e va vb vc vi) _
  unfold law32_EventPossible_B53
  refine W.if (fun hi => ?_) (fun hi => ?_)
  · simp only [bz] at hi
    have w2 := wrap64_id (x := vi + 1) (by omega) (by omega)
    refine W.bd (W.idx (by omega)) (fun e7 q7 => ?_)
    refine W.if (fun hh => ?_) (fun hh => ?_)
    · simp only [bz] at hh
      unfold law32_EventPossible_J58
      refine W.nx ⟨by simp only; omega, by simp only; omega, .inr ⟨rfl, ?_⟩⟩ (by simp only; omega)
      have ho : ok = true := by
        cases ho : ok
        · exact absurd (by rw [← q7.2.1]; exact hh) (h2 ho vi v1 hi)
        · rfl
      obtain ⟨h3, i, h4, h5, h6⟩ := h1 ho
      have e1 : i = vi := rising_inj hr ⟨h4, h5⟩ ⟨v1, hi⟩ (by rw [← h6, ← q7.2.1, h3, hh])
      have e2 : e7 = o := by rw [h6, e1, ← q7.2.1]
      subst e2
      exact ⟨ho, rfl, rfl⟩
    · simp only [bz] at hh
      unfold law32_EventPossible_J58
      refine W.nx ⟨by simp only; omega, by simp only; omega, ?_⟩ (by simp only; omega)
      rcases v3 with ⟨a, b, c, d⟩ | d
      · refine .inl ⟨a, b, c, fun i h1 h2 => ?_⟩
        simp only at h2
        by_cases h : i = vi
        · subst h; rw [← q7.2.1]; exact hh
        · exact d i h1 (by omega)
      · exact .inr d
  · simp only [bz] at hi
    refine W.ex ?_
    show W (law32_EventPossible_J7 cs s e va vb vc) _
    rcases v3 with ⟨a, b, c, d⟩ | ⟨a, b, c, d⟩
    · have ho : ok = false := by
        cases ho : ok
        · rfl
        · obtain ⟨h3, i, h4, h5, h6⟩ := h1 ho
          exact absurd (by rw [← h6]; exact h3) (d i h4 (by omega))
      subst ho a b c
      exact hJ
    · subst a b c d
      exact hJ
theorem name_val {k : Int} (h1 : 1 ≤ k) (h2 : k ≤ 17) : ∃ n, event_Name k = some n ∧ (n == ([] : List UInt8)) = false := by
  have : k = 1 ∨ k = 2 ∨ k = 3 ∨ k = 4 ∨ k = 5 ∨ k = 6 ∨ k = 7 ∨ k = 8 ∨ k = 9 ∨ k = 10 ∨ k = 11 ∨ k = 12 ∨ k = 13 ∨ k = 14 ∨ k = 15 ∨ k = 16 ∨ k = 17 := by omega
  rcases this with rfl | rfl | rfl | rfl | rfl | rfl | rfl | rfl | rfl | rfl | rfl | rfl | rfl | rfl | rfl | rfl | rfl <;> exact ⟨_, rfl, by decide⟩
theorem evP_kind {cs : List SCard} {s : SState} {e : SEvent} {o : SObject} {ok l h3 : Bool} (h : evP cs s e o ok l h3 = true) : 1 ≤ e.Kind ∧ e.Kind ≤ 17 := by
  unfold evP at h
  repeat' (split at h; omega)
  cases h
theorem poss_end {cs : List SCard} {s : SState} {e : SEvent} (k : lkSState s) (kc : lkL 176 lkSCard cs) {o : SObject} {ok : Bool} (h1 : r25_Find s e.Object = some (o, ok)) :
    W (law32_EventPossible_J7 cs s e ok (ok && o.Zone == 0) (ok && o.Tapped)) (fun r => r = true) := by
  obtain ⟨l, h2, _⟩ := r32_living_W k (a1 := e.Player)
  obtain ⟨⟨o3, ok3⟩, h3, _⟩ := find_W k (a1 := e.Source)
  obtain ⟨⟨ox, okx⟩, hx, _⟩ := find_W k (a1 := 1073741824)
  have a1 := is_val (cs := cs) (e := { e with Kind := (6 : Int) }) h1 h2 h3
  have a2 := is_val (cs := cs) (e := { e with Kind := (7 : Int) }) h1 h2 h3
  have a3 := is_val (cs := cs) (e := e) h1 h2 h3
  have a4 := is_val (cs := cs) (e := { e with Object := (1073741824 : Int) }) hx h2 h3
  unfold law32_EventPossible_J7
  rw [a1, a2, a3]
  have b1 : evP cs s { e with Kind := (6 : Int) } o ok l (ok3 && o3.Zone == 0) = ((ok && o.Zone == 0) && !o.Tapped) := rfl
  have b2 : evP cs s { e with Kind := (7 : Int) } o ok l (ok3 && o3.Zone == 0) = ((ok && o.Zone == 0) && o.Tapped) := rfl
  rw [b1, b2]
  have key : W (law32_EventPossible_J22 cs s e ok (ok && o.Zone == 0) (evP cs s e o ok l (ok3 && o3.Zone == 0)) (decide (e.Kind = 2 ∨ e.Kind = 6 ∨ e.Kind = 7 ∨ e.Kind = 8 ∨ e.Kind = 9 ∨ e.Kind = 11 ∨ e.Kind = 12 ∨ e.Kind = 13))) (fun r => r = true) := by
    unfold law32_EventPossible_J22
    rw [alive_true, a4]
    by_cases hk : e.Kind = 2 ∨ e.Kind = 6 ∨ e.Kind = 7 ∨ e.Kind = 8 ∨ e.Kind = 9 ∨ e.Kind = 11 ∨ e.Kind = 12 ∨ e.Kind = 13
    · simp only [decide_eq_true hk, if_true, Option.bind_some]
      refine ⟨_, rfl, ?_⟩
      cases ok
      · have : evP cs s e o false l (ok3 && o3.Zone == 0) = false := by
          unfold evP
          rcases hk with h | h | h | h | h | h | h | h <;> simp [h]
        simp [this]
      · simp
    · simp only [decide_eq_false hk, if_false, Option.bind_some]
      by_cases k1 : e.Kind = 1
      · simp only [k1]
        refine ⟨_, rfl, ?_⟩
        unfold evP
        by_cases ho : e.Object = 0 <;> by_cases z : o.Zone = 0 <;> cases ok <;> simp [k1, ho, z]
      · have hb : (e.Kind == 1) = false := by simpa using k1
        simp only [hb, gd]
        have : evP cs s { e with Object := (1073741824 : Int) } ox okx l (ok3 && o3.Zone == 0) = evP cs s e o ok l (ok3 && o3.Zone == 0) := by
          simp only [not_or] at hk
          simp [evP, k1, hk]
        rw [this]
        refine ⟨true, ?_, rfl⟩
        simp
  have hn : ∃ n, gd ((evP cs s e o ok l (ok3 && o3.Zone == 0)) == true) (event_Name e.Kind) = some n ∧ ((if evP cs s e o ok l (ok3 && o3.Zone == 0) = true then n == ([] : List UInt8) else false) = false) := by
    cases hv : evP cs s e o ok l (ok3 && o3.Zone == 0)
    · exact ⟨_, gd_false _, rfl⟩
    · have := evP_kind hv
      obtain ⟨n, h1, h2⟩ := name_val this.1 this.2
      exact ⟨n, by rw [show (true == true) = true from rfl, gd_true]; exact h1, by simpa using h2⟩
  obtain ⟨n, hn1, hn2⟩ := hn
  have hft : (if (if evP cs s e o ok l (ok3 && o3.Zone == 0) = true then e.Kind == (2 : Int) else false) = true then e.From == e.To else false) = false := by
    cases hv : evP cs s e o ok l (ok3 && o3.Zone == 0)
    · simp
    · by_cases h : e.Kind = 2
      · unfold evP at hv
        rw [if_neg (by omega), if_pos h] at hv
        simp only [Bool.and_eq_true, bne_iff_ne] at hv
        have := hv.2.2.1
        simp [h]
        exact fun h => this h.symm
      · simp [h]
  simp only [Option.bind_some]
  have c1 : (((ok && o.Zone == 0) && !o.Tapped) != (if (ok && o.Zone == 0) = true then !(ok && o.Tapped) else false)) = false := by
    cases ok <;> cases (o.Zone == 0) <;> cases o.Tapped <;> rfl
  have c2 : (((ok && o.Zone == 0) && o.Tapped) != (if (ok && o.Zone == 0) = true then (ok && o.Tapped) else false)) = false := by
    cases ok <;> cases (o.Zone == 0) <;> cases o.Tapped <;> rfl
  rw [c1]
  simp only [gd, Option.bind_some, show (false == false) = true from rfl, if_true, c2]
  simp only [gd] at hn1
  rw [hn1]
  simp only [Option.bind_some, hn2, hft]
  by_cases k2 : e.Kind = 2
  · simpa [k2] using key
  by_cases k6 : e.Kind = 6
  · simpa [k6] using key
  by_cases k7 : e.Kind = 7
  · simpa [k7] using key
  by_cases k8 : e.Kind = 8
  · simpa [k8] using key
  by_cases k9 : e.Kind = 9
  · simpa [k9] using key
  by_cases k11 : e.Kind = 11
  · simpa [k11] using key
  by_cases k12 : e.Kind = 12
  · simpa [k12] using key
  by_cases k13 : e.Kind = 13
  · simpa [k13] using key
  · have hb : (e.Kind == 13) = false := by simpa using k13
    simpa [k2, k6, k7, k8, k9, k11, k12, k13, hb] using key
theorem law_EventPossible {cs : List SCard} {s : SState} {e : SEvent} (kc : lkL 176 lkSCard cs) (k : lkSState s) : law32_EventPossible cs s e = some true := by
  obtain ⟨v, hv, hr⟩ := law32_valid_W kc k
  unfold law32_EventPossible
  rw [hv]
  cases v
  · simp [alive_true]
  · obtain ⟨⟨o, ok⟩, h1, q1, q2⟩ := find_W2 k (a1 := e.Object)
    obtain ⟨r, hl, rfl⟩ := poss_loop (cs := cs) (e := e) k (hr rfl) q1 q2 (poss_end k kc h1)
    simpa using hl
end Go.PL
