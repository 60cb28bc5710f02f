/- Plain laws of the state chapter: whose turn comes next. -/
import Derived.Test.YtipchejgnmnffaaGreatDoorPlStN
namespace Go.PL
open Go
set_option maxRecDepth 100000
set_option linter.all false
set_option maxHeartbeats 1000000
def livN (l : List SPlayer) (k : Nat) : List Int := ((List.range k).filter (fun i => !(l.getD i default).Lost)).map (fun i : Nat => Int.ofNat i)
def liv (l : List SPlayer) : List Int := livN l l.length
theorem loopA {σ ρ β : Type} {B : σ → Option (σ ⊕ ρ)} {S : Nat → σ} {r : ρ} {k : ρ → Option β} {q : Option β} {s0 : σ} (j : Nat) (hj : j < 9223372036854775807) (h0 : s0 = S 0) (hs : ∀ i, i < j → B (S i) = some (.inl (S (i + 1)))) (he : B (S j) = some (.inr r)) (hk : k r = q) : (iter B FU s0).bind k = q := by
  rw [iter_at S j hj hs he h0]; exact hk
theorem idx_cons {α : Type} [Inhabited α] (e : α) (es : List α) : idx (e :: es) 0 = some e := idx_nat (k := 0) (by simp)
theorem livN_len (l : List SPlayer) (k : Nat) : (livN l k).length ≤ k := by
  unfold livN
  rw [List.length_map]
  exact Nat.le_trans (List.length_filter_le _ _) (by simp)
theorem livN_succ (l : List SPlayer) (k : Nat) : livN l (k + 1) = if (l.getD k default).Lost = true then livN l k else livN l k ++ [(k : Int)] := by
  unfold livN
  rw [List.range_succ, List.filter_append, List.map_append]
  cases h : (l.getD k default).Lost
  · rw [if_neg (by simp), List.filter_cons, if_pos (by rw [h]; rfl)]
    rfl
  · rw [if_pos rfl, List.filter_cons, if_neg (by rw [h]; simp)]
    simp
theorem getD_of {α : Type} [Inhabited α] {l : List α} {i : Nat} (h : i < l.length) : l.getD i default = l[i] := by
  rw [List.getD_eq_getElem?_getD, List.getElem?_eq_getElem h]; rfl
theorem okPl {s : SState} (ho : okSState s) : s.Players.length * 152 ≤ reachBytes := by
  unfold okSState at ho
  exact ho.1.1
theorem app1 {α : Type} {b : Nat} {l m : List α} (h : (l.length + m.length) * b ≤ 140737488355328) (hb : 1 ≤ b) : app b l m = some (l ++ m) := by
  refine app_some ⟨h, ?_⟩
  have : (l.length + m.length) * 1 ≤ (l.length + m.length) * b := Nat.mul_le_mul_left _ hb
  unfold maxLen
  omega
theorem livEq1 {s : SState} (ho : okSState s) : state_Living s = some (liv s.Players) := by
  have hp := okPl ho
  unfold reachBytes at hp
  unfold state_Living
  refine loopA (S := fun i => ((i : Int), livN s.Players i)) (r := liv s.Players) s.Players.length (by omega) rfl (fun i hi => ?_) ?_ rfl
  · dsimp only
    unfold state_Living_B8 state_Living_J11
    rw [if_pos (by simpa using hi), idx_nat hi]
    have hl := livN_len s.Players i
    simp only [Option.bind_some, livN_succ, getD_of hi, wrap64_id (x := (i : Int) + 1) (by omega) (by omega)]
    rw [app1 (by simp only [List.length_cons, List.length_nil]; omega) (by decide)]
    cases s.Players[i].Lost <;> simp
  · dsimp only
    unfold state_Living_B8
    rw [if_neg (by simp)]; rfl
theorem livEq2 {s : SState} (ho : okSState s) : r26_Living s = some (liv s.Players) := by
  have hp := okPl ho
  unfold reachBytes at hp
  unfold r26_Living
  refine loopA (S := fun i => ((i : Int), livN s.Players i)) (r := liv s.Players) s.Players.length (by omega) rfl (fun i hi => ?_) ?_ rfl
  · dsimp only
    unfold r26_Living_B8 r26_Living_J11
    rw [if_pos (by simpa using hi), idx_nat hi]
    have hl := livN_len s.Players i
    simp only [Option.bind_some, livN_succ, getD_of hi, wrap64_id (x := (i : Int) + 1) (by omega) (by omega)]
    rw [app1 (by simp only [List.length_cons, List.length_nil]; omega) (by decide)]
    cases s.Players[i].Lost <;> simp
  · dsimp only
    unfold r26_Living_B8
    rw [if_neg (by simp)]; rfl
theorem liv_mem {l : List SPlayer} {x : Int} : x ∈ liv l ↔ ∃ i : Nat, i < l.length ∧ x = (i : Int) ∧ (l.getD i default).Lost = false := by
  unfold liv livN
  rw [List.mem_map]
  constructor
  · rintro ⟨i, h, rfl⟩
    rw [List.mem_filter, List.mem_range] at h
    exact ⟨i, h.1, rfl, by simpa using h.2⟩
  · rintro ⟨i, h, rfl, h2⟩
    exact ⟨i, by rw [List.mem_filter, List.mem_range]; exact ⟨h, by simpa using h2⟩, rfl⟩
theorem liv_len (l : List SPlayer) : (liv l).length ≤ l.length := livN_len l _
/-- Those after p, then those before. -/
def oth (L : List Int) (p : Int) : List Int := L.filter (fun e => decide (p < e)) ++ L.filter (fun e => decide (e < p))
theorem filt_take {α : Type} {f : α → Bool} {L : List α} {i : Nat} (h : i < L.length) : (L.take (i + 1)).filter f = (L.take i).filter f ++ (if f L[i] = true then [L[i]] else []) := by
  rw [List.take_succ_eq_append_getElem h, List.filter_append]
  congr 1
  cases hf : f L[i] <;> simp [List.filter_cons, hf]
theorem filt_len {α : Type} {f : α → Bool} {L : List α} {i : Nat} : ((L.take i).filter f).length ≤ L.length := Nat.le_trans (List.length_filter_le _ _) (by rw [List.length_take]; omega)
theorem cmpI (a b : Int) : cmp_Compare_int a b = some (if a < b then -1 else if b < a then 1 else 0) := by
  unfold cmp_Compare_int cmp_isNaN_int
  simp only [Option.bind_some, bne_self_eq_false, Bool.false_eq_true, if_false, decide_eq_true_eq]
  split
  · rfl
  · split <;> rfl
theorem othEq1 {s : SState} (ho : okSState s) (p : Int) : state_Others_J2 s p = some (oth (liv s.Players) p) := by
  have hp := okPl ho
  unfold reachBytes at hp
  unfold state_Others_J2
  rw [livEq1 ho]
  have hL := liv_len s.Players
  generalize liv s.Players = L at hL
  simp only [Option.bind_some]
  refine loopA (S := fun i => ((i : Int), (L.take i).filter (fun e => decide (e < p)), (L.take i).filter (fun e => decide (p < e)))) (r := (L.filter (fun e => decide (e < p)), L.filter (fun e => decide (p < e)))) L.length (by omega) rfl (fun i hi => ?_) ?_ ?_
  rotate_left 2
  · dsimp only
    unfold state_Others_J5 oth
    have h1 : (L.filter (fun e => decide (e < p))).length ≤ L.length := List.length_filter_le _ _
    have h2 : (L.filter (fun e => decide (p < e))).length ≤ L.length := List.length_filter_le _ _
    rw [app1 (by omega) (by decide)]
    rfl
  · dsimp only
    unfold state_Others_B16 state_Others_J20
    have h1 := filt_len (f := fun e : Int => decide (e < p)) (L := L) (i := i)
    have h2 := filt_len (f := fun e : Int => decide (p < e)) (L := L) (i := i)
    rw [if_pos (by simpa using hi), idx_nat hi]
    simp only [Option.bind_some, cmpI, filt_take hi, wrap64_id (x := (i : Int) + 1) (by omega) (by omega)]
    rw [app1 (by simp only [List.length_cons, List.length_nil]; omega) (by decide), app1 (by simp only [List.length_cons, List.length_nil]; omega) (by decide)]
    simp only [Option.bind_some]
    by_cases c1 : L[i] < p
    · have c2 : ¬ p < L[i] := by omega
      simp [c1, c2]
    · by_cases c2 : p < L[i]
      · simp [c1, c2]
      · simp [c1, c2]
  · dsimp only
    unfold state_Others_B16
    rw [if_neg (by simp), List.take_length]
theorem inI (a b c : Int) : r26_in a b c = some (decide (b ≤ a) && decide (a ≤ c)) := by
  unfold r26_in
  simp only [ifA, Option.bind_some]
theorem plI {s : SState} (ho : okSState s) (p : Int) : r26_player s p = some (decide (0 ≤ p ∧ p < (s.Players.length : Int))) := by
  have hp := okPl ho
  unfold reachBytes at hp
  unfold r26_player
  rw [wrap64_id (by omega) (by omega), inI]
  simp only [Option.bind_some]
  refine congrArg some ?_
  rw [Bool.eq_iff_iff]
  simp only [Bool.and_eq_true, decide_eq_true_eq]
  omega
theorem othEq2' {s : SState} (ho : okSState s) (p : Int) : r26_Others s p = some ((liv s.Players).filter (fun e => decide (0 ≤ p ∧ p < (s.Players.length : Int)) && decide (p < e)) ++ (liv s.Players).filter (fun e => !decide (0 ≤ p ∧ p < (s.Players.length : Int)) || decide (e < p))) := by
  have hp := okPl ho
  unfold reachBytes at hp
  have hpl := plI ho p
  unfold r26_Others
  rw [livEq2 ho]
  have hL := liv_len s.Players
  generalize liv s.Players = L at hL
  generalize decide (0 ≤ p ∧ p < (s.Players.length : Int)) = q at hpl ⊢
  simp only [Option.bind_some]
  refine loopA (S := fun i => ((i : Int), (L.take i).filter (fun e => q && decide (p < e)))) (r := L.filter (fun e => q && decide (p < e))) L.length (by omega) rfl (fun i hi => ?_) ?_ ?_
  rotate_left 2
  · unfold r26_Others_J3
    have h2 : (L.filter (fun e => q && decide (p < e))).length ≤ L.length := List.length_filter_le _ _
    generalize L.filter (fun e => q && decide (p < e)) = M at h2
    refine loopA (S := fun i => ((i : Int), M ++ (L.take i).filter (fun e => !q || decide (e < p)))) (r := M ++ L.filter (fun e => !q || decide (e < p))) L.length (by omega) (by simp) (fun i hi => ?_) ?_ rfl
    · dsimp only
      unfold r26_Others_B11 r26_Others_J14
      have h1 := filt_len (f := fun e : Int => !q || decide (e < p)) (L := L) (i := i)
      rw [if_pos (by simpa using hi), idx_nat hi, hpl]
      simp only [Option.bind_some, gdS, filt_take hi, wrap64_id (x := (i : Int) + 1) (by omega) (by omega)]
      rw [app1 (by simp only [List.length_cons, List.length_nil, List.length_append]; omega) (by decide)]
      by_cases c1 : L[i] < p <;> cases q <;> simp [c1]
    · dsimp only
      unfold r26_Others_B11
      rw [if_neg (by simp), List.take_length]
  · dsimp only
    unfold r26_Others_B26 r26_Others_J29
    have h1 := filt_len (f := fun e : Int => q && decide (p < e)) (L := L) (i := i)
    rw [if_pos (by simpa using hi), idx_nat hi, hpl]
    simp only [Option.bind_some, gdS, filt_take hi, wrap64_id (x := (i : Int) + 1) (by omega) (by omega)]
    rw [app1 (by simp only [List.length_cons, List.length_nil]; omega) (by decide)]
    by_cases c1 : p < L[i] <;> cases q <;> simp [c1]
  · dsimp only
    unfold r26_Others_B26
    rw [if_neg (by simp), List.take_length]
theorem othAll {l : List SPlayer} : oth (liv l) (-1) = liv l := by
  unfold oth
  rw [List.filter_eq_self.2, List.filter_eq_nil_iff.2, List.append_nil]
  · intro a ha
    obtain ⟨i, _, rfl, _⟩ := liv_mem.1 ha
    simp <;> omega
  · intro a ha
    obtain ⟨i, _, rfl, _⟩ := liv_mem.1 ha
    simp <;> omega
/-- Who is asked for. -/
def who (s : SState) (p : Int) : Int := if 0 ≤ p ∧ p < (s.Players.length : Int) then p else -1
theorem oth1 {s : SState} (ho : okSState s) (p : Int) : state_Others s p = some (oth (liv s.Players) (who s p)) := by
  unfold state_Others who
  simp only [Option.bind_some, ifO, othEq1 ho]
  by_cases h : 0 ≤ p ∧ p < (s.Players.length : Int)
  · rw [if_pos h, if_neg (by simp; omega)]
  · rw [if_neg h, if_pos (by simp; omega)]
theorem oth2 {s : SState} (ho : okSState s) (p : Int) : r26_Others s p = some (oth (liv s.Players) (who s p)) := by
  rw [othEq2' ho]
  unfold who
  by_cases h : 0 ≤ p ∧ p < (s.Players.length : Int)
  · rw [if_pos h]
    simp only [h, and_self, decide_true, Bool.true_and, Bool.not_true, Bool.false_or]
    rfl
  · rw [if_neg h, othAll]
    simp only [h, decide_false, Bool.false_and, Bool.not_false, Bool.true_or]
    rw [List.filter_eq_self.2 (fun _ _ => rfl), List.filter_eq_nil_iff.2 (fun _ _ => by simp), List.nil_append]
/-- The next one. -/
def aft (s : SState) (p : Int) : Int := match oth (liv s.Players) (who s p) with
  | e :: _ => e
  | [] => if (0 ≤ p ∧ p < (s.Players.length : Int)) ∧ (s.Players.getD p.toNat default).Lost = false then p else -1
theorem aft1 {s : SState} (ho : okSState s) (p : Int) : state_After s p = some (aft s p) := by
  unfold state_After aft
  rw [oth1 ho]
  simp only [Option.bind_some]
  cases oth (liv s.Players) (who s p) with
  | cons e es =>
    rw [if_pos (by simp <;> omega), idx_cons]
    rfl
  | nil =>
    rw [if_neg (by simp)]
    by_cases h : 0 ≤ p ∧ p < (s.Players.length : Int)
    · rw [idx_some h]
      simp only [h, decide_true, if_true, beq_self_eq_true, gdS, Option.bind_some, true_and]
      cases (s.Players.getD p.toNat default).Lost <;> rfl
    · have e : (if decide (0 ≤ p) = true then decide (p < (s.Players.length : Int)) else false) = false := by
        simp; omega
      simp only [e, Option.bind_some, h, false_and, if_false]
      rfl
theorem aft2 {s : SState} (ho : okSState s) (p : Int) : r26_After s p = some (aft s p) := by
  unfold r26_After aft
  rw [oth2 ho]
  simp only [Option.bind_some]
  cases oth (liv s.Players) (who s p) with
  | cons e es =>
    rw [if_pos (by simp <;> omega), idx_cons]
    rfl
  | nil =>
    rw [if_neg (by simp), plI ho]
    by_cases h : 0 ≤ p ∧ p < (s.Players.length : Int)
    · rw [idx_some h]
      simp only [h, decide_true, if_true, beq_self_eq_true, gdS, Option.bind_some, true_and, and_self]
      cases (s.Players.getD p.toNat default).Lost <;> rfl
    · simp only [h, decide_false, Option.bind_some, false_and, if_false]
      rfl
theorem livLen {s : SState} (ho : okSState s) : (liv s.Players).length < 9223372036854775807 := by
  have := okPl ho
  have := liv_len s.Players
  unfold reachBytes at *
  omega
theorem othLen {s : SState} (ho : okSState s) (p : Int) : (oth (liv s.Players) p).length < 9223372036854775807 := by
  have := okPl ho
  have := liv_len s.Players
  unfold reachBytes at *
  unfold oth
  have h1 := List.length_filter_le (fun e : Int => decide (e < p)) (liv s.Players)
  have h2 := List.length_filter_le (fun e : Int => decide (p < e)) (liv s.Players)
  rw [List.length_append]
  omega
theorem law_StateTurns {s : SState} {p : Int} (ho : okSState s) : law26_StateTurns s p = some true := by
  unfold law26_StateTurns
  obtain ⟨c, hc⟩ := lightT ho
  simp only [hc, livEq1 ho, livEq2 ho, aft1 ho, aft2 ho, oth1 ho, oth2 ho, r03Eq (livLen ho), r03Eq (othLen ho (who s p)), gdS, alive26, Option.bind_some]
  cases c <;> simp [r03Eq (othLen ho (who s p)), gdS]
end Go.PL
