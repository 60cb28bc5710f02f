/- Plain laws of EventPossible and EventAmounts. -/
import Derived.Test.YtlinpadogiggaaaGreatDoorPlEvIsL
namespace Go.PL
open Go
set_option maxRecDepth 100000
set_option linter.all false
/-- What an event's possibility hangs on: the object (o, ok), whether the player lives (l), whether the source is on the battlefield (h3). -/
def tkn (cs : List SCard) (c : Int) : Bool := decide (0 ≤ c) && (decide (c < cs.length) && (cs.getD c.toNat default).Token)
def amB (n : Int) : Bool := decide (1 ≤ n) && decide (n ≤ 1000000)
def evP (cs : List SCard) (s : SState) (e : SEvent) (o : SObject) (ok l h3 : Bool) : Bool :=
  if e.Kind = 1 then amB e.Amount && (if e.Object = 0 then l else ok && o.Zone == 0)
  else if e.Kind = 2 then ok && (o.Zone == e.From && (e.To != e.From && (decide (0 ≤ e.To) && (decide (e.To ≤ 4) && (decide (0 ≤ e.Player) && decide (e.Player < s.Players.length))))))
  else if e.Kind = 3 ∨ e.Kind = 14 ∨ e.Kind = 15 ∨ e.Kind = 17 then l
  else if e.Kind = 4 ∨ e.Kind = 5 ∨ e.Kind = 16 then l && amB e.Amount
  else if e.Kind = 6 then (ok && o.Zone == 0) && !o.Tapped
  else if e.Kind = 7 then (ok && o.Zone == 0) && o.Tapped
  else if e.Kind = 8 ∨ e.Kind = 9 then (ok && o.Zone == 0) && (decide (0 ≤ e.Counter) && (decide (e.Counter < 3) && amB e.Amount))
  else if e.Kind = 10 then l && (tkn cs e.Card && amB e.Amount)
  else if e.Kind = 11 then ok && (o.Zone == 5 && l)
  else if e.Kind = 12 then (ok && o.Zone == 0) && l
  else if e.Kind = 13 then (ok && o.Zone == 0) && h3
  else false
theorem amt_amB (e : SEvent) : amt e = amB e.Amount := by unfold amt amB; by_cases h : 1 ≤ e.Amount <;> simp [h]
theorem creates_eq {cs : List SCard} {s : SState} {e : SEvent} {l : Bool} (h2 : r32_living s e.Player = some l) : event_creates cs s e = some (l && (tkn cs e.Card && amB e.Amount)) := by
  unfold event_creates
  rw [living_eq, h2]
  simp only [Option.bind_some, amount_eq, gd, tkn, amt_amB, idx]
  cases l
  · simp
  · by_cases a : 0 ≤ e.Card
    · by_cases b : e.Card < cs.length
      · generalize (cs.getD e.Card.toNat default) = c at *; cases hc : c.Token <;> simp [a, b, hc]
      · simp [a, b]
    · simp [a]
set_option maxHeartbeats 2000000 in
theorem is_val {cs : List SCard} {s : SState} {e : SEvent} {o o3 : SObject} {ok ok3 l : Bool} (h1 : r25_Find s e.Object = some (o, ok)) (h2 : r32_living s e.Player = some l) (h3 : r25_Find s e.Source = some (o3, ok3)) :
    event_Is cs s e = some (evP cs s e o ok l (ok3 && o3.Zone == 0)) := by
  have hf : event_fielded s e.Object = some (o, if ok = true then o.Zone == (0 : Int) else false) := by unfold event_fielded; rw [find_eq, h1]; rfl
  have hf3 : event_fielded s e.Source = some (o3, if ok3 = true then o3.Zone == (0 : Int) else false) := by unfold event_fielded; rw [find_eq, h3]; rfl
  unfold event_Is evP
  rw [hf]
  simp only [Option.bind_some, event_Is_J7, event_Is_J11, event_Is_J21, event_hurts, event_moves, event_counts, creates_eq h2, find_eq, living_eq, amount_eq, hf, hf3, h1, h2, gd, amt_amB]
  by_cases k1 : e.Kind = 1
  · simp only [k1]
    by_cases ho : e.Object = 0
    · cases l <;> cases amB e.Amount <;> simp [ho]
    · cases ok <;> cases amB e.Amount <;> simp [ho]
  by_cases k2 : e.Kind = 2
  · simp only [k2]
    cases ok
    · simp
    · by_cases q1 : o.Zone = e.From <;> by_cases q2 : e.To = e.From <;> by_cases q3 : 0 ≤ e.To <;> by_cases q4 : e.To ≤ 4 <;> by_cases q5 : 0 ≤ e.Player <;> simp [q1, q2, q3, q4, q5]
  by_cases k3 : e.Kind = 3
  · simp [k3]
  by_cases k14 : e.Kind = 14
  · simp [k14]
  by_cases k15 : e.Kind = 15
  · simp [k15]
  by_cases k17 : e.Kind = 17
  · simp [k17]
  by_cases k4 : e.Kind = 4
  · cases l <;> simp [k4]
  by_cases k5 : e.Kind = 5
  · cases l <;> simp [k5]
  by_cases k16 : e.Kind = 16
  · cases l <;> simp [k16]
  by_cases k6 : e.Kind = 6
  · cases ok <;> by_cases z : o.Zone = 0 <;> simp [k6, z]
  by_cases k7 : e.Kind = 7
  · cases ok <;> by_cases z : o.Zone = 0 <;> simp [k7, z]
  by_cases k8 : e.Kind = 8
  · cases ok <;> by_cases z : o.Zone = 0 <;> by_cases q1 : 0 ≤ e.Counter <;> by_cases q2 : e.Counter < 3 <;> simp [k8, z, q1, q2]
  by_cases k9 : e.Kind = 9
  · cases ok <;> by_cases z : o.Zone = 0 <;> by_cases q1 : 0 ≤ e.Counter <;> by_cases q2 : e.Counter < 3 <;> simp [k9, z, q1, q2]
  by_cases k10 : e.Kind = 10
  · simp [k10]
  by_cases k11 : e.Kind = 11
  · by_cases z : o.Zone = 5 <;> cases ok <;> cases l <;> simp [k11, z]
  by_cases k12 : e.Kind = 12
  · by_cases z : o.Zone = 0 <;> cases ok <;> cases l <;> simp [k12, z]
  by_cases k13 : e.Kind = 13
  · by_cases z : o.Zone = 0 <;> by_cases z3 : o3.Zone = 0 <;> cases ok <;> cases ok3 <;> simp [k13, z, z3]
  simp [k1, k2, k3, k4, k5, k6, k7, k8, k9, k10, k11, k12, k13, k14, k15, k16, k17]
theorem law_EventAmounts {cs : List SCard} {s : SState} {e : SEvent} (kc : lkL 176 lkSCard cs) (k : lkSState s) : law32_EventAmounts cs s e = some true := by
  obtain ⟨v, hv, hr⟩ := law32_valid_W kc k
  obtain ⟨l, h2, _⟩ := r32_living_W k (a1 := e.Player)
  obtain ⟨⟨o3, ok3⟩, h3, _⟩ := find_W k (a1 := e.Source)
  obtain ⟨⟨o, ok⟩, h1, _⟩ := find_W k (a1 := e.Object)
  have key : ∀ b, (b = true → e.Kind = 1 ∨ e.Kind = 4 ∨ e.Kind = 5 ∨ e.Kind = 16 ∨ e.Kind = 8 ∨ e.Kind = 9 ∨ e.Kind = 10) → law32_EventAmounts_J2 cs s e b = some true := by
    intro b hb
    unfold law32_EventAmounts_J2
    rw [hv, alive_true]
    cases b
    · simp
    · cases v
      · simp
      · have a0 := is_val (cs := cs) (e := e) h1 h2 h3
        have a1 := is_val (cs := cs) (e := { e with Amount := (1 : Int) }) h1 h2 h3
        have a2 := is_val (cs := cs) (e := { e with Amount := (1000000 : Int) }) h1 h2 h3
        have a3 := is_val (cs := cs) (e := { e with Amount := (0 : Int) }) h1 h2 h3
        have a4 := is_val (cs := cs) (e := { e with Amount := (1000001 : Int) }) h1 h2 h3
        rw [a0, a1, a2, a3, a4]
        have u1 : amB 1 = true := rfl
        have u2 : amB 1000000 = true := rfl
        have u3 : amB 0 = false := rfl
        have u4 : amB 1000001 = false := rfl
        have hk := hb rfl
        have E : ∀ n, evP cs s { e with Amount := n } o ok l (ok3 && o3.Zone == 0) = (evP cs s { e with Amount := 1 } o ok l (ok3 && o3.Zone == 0) && amB n) := by
          intro n
          unfold evP
          rcases hk with h | h | h | h | h | h | h
          · simp [h, u1]; cases amB n <;> simp
          · simp [h, u1]
          · simp [h, u1]
          · simp [h, u1]
          · simp only [h, u1]; cases amB n <;> simp
          · simp only [h, u1]; cases amB n <;> simp
          · simp only [h, u1]; cases amB n <;> simp
        have E0 := E e.Amount
        rw [E 1000000, E 0, E 1000001, show evP cs s e o ok l (ok3 && o3.Zone == 0) = _ from E0, u2, u3, u4]
        have hm : (if decide ((1 : Int) ≤ e.Amount) = true then decide (e.Amount ≤ (1000000 : Int)) else false) = amB e.Amount := amt_amB e
        rw [hm]
        generalize evP cs s { e with Amount := (1 : Int) } o ok l (ok3 && o3.Zone == 0) = x
        cases x <;> cases amB e.Amount <;> rfl
  unfold law32_EventAmounts
  by_cases j1 : e.Kind = 1
  · simpa [j1] using key true (fun _ => by omega)
  by_cases j4 : e.Kind = 4
  · simpa [j4] using key true (fun _ => by omega)
  by_cases j5 : e.Kind = 5
  · simpa [j5] using key true (fun _ => by omega)
  by_cases j16 : e.Kind = 16
  · simpa [j16] using key true (fun _ => by omega)
  by_cases j8 : e.Kind = 8
  · simpa [j8] using key true (fun _ => by omega)
  by_cases j9 : e.Kind = 9
  · simpa [j9] using key true (fun _ => by omega)
  · have := key (e.Kind == 10) (fun h => by simp at h; omega)
    simpa [j1, j4, j5, j16, j8, j9] using this
end Go.PL
