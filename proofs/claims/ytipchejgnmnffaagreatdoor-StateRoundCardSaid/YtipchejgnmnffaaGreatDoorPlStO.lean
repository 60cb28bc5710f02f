/- Plain laws of the state chapter: whose turn comes next. -/
import Derived.Test.YtipchejgnmnffaaGreatDoorPlStN
namespace Go.PL
open Go
set_option maxRecDepth 100000
set_option linter.all false
set_option maxHeartbeats 1000000
def livN (l : List SPlayer) (k : Nat) : List Int := ((List.range k).filter (fun i => !(l.getD i default).Lost)).map (fun i : Nat => Int.ofNat i)
def liv (l : List SPlayer) : List Int := livN l l.length
theorem loopA {σ ρ β : Type} {B : σ → Option (σ ⊕ ρ)} {S : Nat → σ} {r : ρ} {k : ρ → Option β} {q : Option β} {s0 : σ} (j : Nat) (hj : j < 9223372036854775807) (h0 : s0 = S 0) (hs : ∀ i, i < j → B (S i) = some (.inl (S (i + 1)))) (he : B (S j) = some (.inr r)) (hk : k r = q) : (iter B FU s0).bind k = q := by
  rw [iter_at S j hj hs he h0]; exact hk
theorem idx_cons {α : Type} [Inhabited α] (e : α) (es : List α) : idx (e :: es) 0 = some e := idx_nat (k := 0) (by simp)
theorem livN_len (l : List SPlayer) (k : Nat) : (livN l k).length ≤ k := by
  unfold livN
  rw [List.length_map]
  exact Nat.le_trans (List.length_filter_le _ _) (by simp)
theorem livN_succ (l : List SPlayer) (k : Nat) : livN l (k + 1) = if (l.getD k default).Lost = true then livN l k else livN l k ++ [(k : Int)] := by
  unfold livN
  rw [List.range_succ, List.filter_append, List.map_append]
  cases h : (l.getD k default).Lost
  · rw [if_neg (by simp), List.filter_cons, if_pos (by rw [h]; rfl)]
    rfl
  · rw [if_pos rfl, List.filter_cons, if_neg (by rw [h]; simp)]
    simp
theorem getD_of {α : Type} [Inhabited α] {l : List α} {i : Nat} (h : i < l.length) : l.getD i default = l[i] := by
  rw [List.getD_eq_getElem?_getD, List.getElem?_eq_getElem h]; rfl
theorem okPl {s : SState} (ho : okSState s) : s.Players.length * 152 ≤ reachBytes := by
  unfold okSState at ho
  exact ho.1.1
theorem app1 {α : Type} {b : Nat} {l m : List α} (h : (l.length + m.length) * b ≤ 140737488355328) (hb : 1 ≤ b) : app b l m = some (l ++ m) := by
  refine app_some ⟨h, ?_⟩
  have : (l.length + m.length) * 1 ≤ (l.length + m.length) * b := Nat.mul_le_mul_left _ hb
  unfold maxLen
  omega
theorem livEq1 {s : SState} (ho : okSState s) : state_Living s = some (liv s.Players) := by
  have hp := okPl ho
  unfold reachBytes at hp
  unfold state_Living
  refine loopA (S := fun i => ((i : Int), livN s.Players i)) (r := liv s.Players) s.Players.length (by omega) rfl (fun i hi => ?_) ?_ rfl
  · dsimp only
    unfold state_Living_B8 state_Living_J11
    rw [if_pos (by simpa using hi), idx_nat hi]
    have hl := livN_len s.Players i
    simp only [Option.bind_some, livN_succ, getD_of hi, wrap64_id (x := (i : Int) + 1) (by omega) (by omega)]
    rw [app1 (by simp only [List.length_cons, List.length_nil]; omega) (by decide)]
    cases s.Players[i].Lost <;> simp
  · dsimp only
    unfold state_Living_B8
    rw [if_neg (by simp)]; rfl
theorem liv_mem {l : List SPlayer} {x : Int} : x ∈ liv l ↔ ∃ i : Nat, i < l.length ∧ x = (i : Int) ∧ (l.getD i default).Lost = false := by
  unfold liv livN
  rw [List.mem_map]
  constructor
  · rintro ⟨i, h, rfl⟩
    rw [List.mem_filter, List.mem_range] at h
    exact ⟨i, h.1, rfl, by simpa using h.2⟩
  · rintro ⟨i, h, rfl, h2⟩
    exact ⟨i, by rw [List.mem_filter, List.mem_range]; exact ⟨h, by simpa using h2⟩, rfl⟩
theorem liv_sorted (l : List SPlayer) : (liv l).Pairwise (· < ·) := by
  unfold liv livN
  rw [List.pairwise_map]
  refine List.Pairwise.imp ?_ (List.Pairwise.filter _ List.pairwise_lt_range)
  intro a b h
  exact Int.ofNat_lt.2 h
theorem liv_len (l : List SPlayer) : (liv l).length ≤ l.length := livN_len l _
/-- Those after p, then those before. -/
def oth (L : List Int) (p : Int) : List Int := L.filter (fun e => decide (p < e)) ++ L.filter (fun e => decide (e < p))
theorem filt_take {α : Type} {f : α → Bool} {L : List α} {i : Nat} (h : i < L.length) : (L.take (i + 1)).filter f = (L.take i).filter f ++ (if f L[i] = true then [L[i]] else []) := by
  rw [List.take_succ_eq_append_getElem h, List.filter_append]
  congr 1
  cases hf : f L[i] <;> simp [List.filter_cons, hf]
theorem filt_len {α : Type} {f : α → Bool} {L : List α} {i : Nat} : ((L.take i).filter f).length ≤ L.length := Nat.le_trans (List.length_filter_le _ _) (by rw [List.length_take]; omega)
theorem cmpI (a b : Int) : cmp_Compare_int a b = some (if a < b then -1 else if b < a then 1 else 0) := by
  unfold cmp_Compare_int cmp_isNaN_int
  simp only [Option.bind_some, bne_self_eq_false, Bool.false_eq_true, if_false, decide_eq_true_eq]
  split
  · rfl
  · split <;> rfl
theorem othEq1 {s : SState} (ho : okSState s) (p : Int) : state_Others_J2 s p = some (oth (liv s.Players) p) := by
  have hp := okPl ho
  unfold reachBytes at hp
  unfold state_Others_J2
  rw [livEq1 ho]
  have hL := liv_len s.Players
  generalize liv s.Players = L at hL
  simp only [Option.bind_some]
  refine loopA (S := fun i => ((i : Int), (L.take i).filter (fun e => decide (e < p)), (L.take i).filter (fun e => decide (p < e)))) (r := (L.filter (fun e => decide (e < p)), L.filter (fun e => decide (p < e)))) L.length (by omega) rfl (fun i hi => ?_) ?_ ?_
  rotate_left 2
  · dsimp only
    unfold state_Others_J5 oth
    have h1 : (L.filter (fun e => decide (e < p))).length ≤ L.length := List.length_filter_le _ _
    have h2 : (L.filter (fun e => decide (p < e))).length ≤ L.length := List.length_filter_le _ _
    rw [app1 (by omega) (by decide)]
    rfl
  · dsimp only
    unfold state_Others_B16 state_Others_J20
    have h1 := filt_len (f := fun e : Int => decide (e < p)) (L := L) (i := i)
    have h2 := filt_len (f := fun e : Int => decide (p < e)) (L := L) (i := i)
    rw [if_pos (by simpa using hi), idx_nat hi]
    simp only [Option.bind_some, cmpI, filt_take hi, wrap64_id (x := (i : Int) + 1) (by omega) (by omega)]
    rw [app1 (by simp only [List.length_cons, List.length_nil]; omega) (by decide), app1 (by simp only [List.length_cons, List.length_nil]; omega) (by decide)]
    simp only [Option.bind_some]
    by_cases c1 : L[i] < p
    · have c2 : ¬ p < L[i] := by omega
      simp [c1, c2]
    · by_cases c2 : p < L[i]
      · simp [c1, c2]
      · simp [c1, c2]
  · dsimp only
    unfold state_Others_B16
    rw [if_neg (by simp), List.take_length]
/-- Who is asked for. -/
def who (s : SState) (p : Int) : Int := if 0 ≤ p ∧ p < (s.Players.length : Int) then p else -1
theorem oth1 {s : SState} (ho : okSState s) (p : Int) : state_Others s p = some (oth (liv s.Players) (who s p)) := by
  unfold state_Others who
  simp only [Option.bind_some, ifO, othEq1 ho]
  by_cases h : 0 ≤ p ∧ p < (s.Players.length : Int)
  · rw [if_pos h, if_neg (by simp; omega)]
  · rw [if_neg h, if_pos (by simp; omega)]
/-- The next one. -/
def aft (s : SState) (p : Int) : Int := match oth (liv s.Players) (who s p) with
  | e :: _ => e
  | [] => if (0 ≤ p ∧ p < (s.Players.length : Int)) ∧ (s.Players.getD p.toNat default).Lost = false then p else -1
theorem aft1 {s : SState} (ho : okSState s) (p : Int) : state_After s p = some (aft s p) := by
  unfold state_After aft
  rw [oth1 ho]
  simp only [Option.bind_some]
  cases oth (liv s.Players) (who s p) with
  | cons e es =>
    rw [if_pos (by simp <;> omega), idx_cons]
    rfl
  | nil =>
    rw [if_neg (by simp)]
    by_cases h : 0 ≤ p ∧ p < (s.Players.length : Int)
    · rw [idx_some h]
      simp only [h, decide_true, if_true, beq_self_eq_true, gdS, Option.bind_some, true_and]
      cases (s.Players.getD p.toNat default).Lost <;> rfl
    · have e : (if decide (0 ≤ p) = true then decide (p < (s.Players.length : Int)) else false) = false := by
        simp; omega
      simp only [e, Option.bind_some, h, false_and, if_false]
      rfl
theorem livLen {s : SState} (ho : okSState s) : (liv s.Players).length < 9223372036854775807 := by
  have := okPl ho
  have := liv_len s.Players
  unfold reachBytes at *
  omega
theorem split3 {A B : List Int} {x : Int} (h : (A ++ x :: B).Pairwise (· < ·)) : oth (A ++ x :: B) x = B ++ A := by
  rw [List.pairwise_append] at h
  obtain ⟨_, h3, h4⟩ := h
  rw [List.pairwise_cons] at h3
  have h5 : ∀ a ∈ A, a < x := fun a ha => h4 a ha x (by simp)
  unfold oth
  congr 1
  · rw [List.filter_append, List.filter_cons, if_neg (by simp), List.filter_eq_nil_iff.2, List.filter_eq_self.2, List.nil_append]
    · intro a ha; simpa using h3.1 a ha
    · intro a ha; have := h5 a ha; simp <;> omega
  · rw [List.filter_append, List.filter_cons, if_neg (by simp), List.filter_eq_self.2, List.filter_eq_nil_iff.2, List.append_nil]
    · intro a ha; have := h3.1 a ha; simp <;> omega
    · intro a ha; simpa using h5 a ha
theorem sorted_split {L : List Int} (h : L.Pairwise (· < ·)) {i : Nat} (hi : i < L.length) : oth L L[i] = L.drop (i + 1) ++ L.take i := by
  have e : L = L.take i ++ L[i] :: L.drop (i + 1) := by rw [List.getElem_cons_drop, List.take_append_drop]
  have h3 := split3 (A := L.take i) (x := L[i]) (B := L.drop (i + 1)) (by rw [← e]; exact h)
  rw [← e] at h3
  exact h3
theorem whoIn {s : SState} {x : Int} (h : x ∈ liv s.Players) : who s x = x ∧ (0 ≤ x ∧ x < (s.Players.length : Int)) ∧ (s.Players.getD x.toNat default).Lost = false := by
  obtain ⟨i, hi, rfl, hl⟩ := liv_mem.1 h
  have h1 : 0 ≤ (i : Int) ∧ (i : Int) < (s.Players.length : Int) := by omega
  refine ⟨?_, h1, hl⟩
  unfold who; rw [if_pos h1]
theorem othAt {s : SState} {i : Nat} (hi : i < (liv s.Players).length) : oth (liv s.Players) (who s (liv s.Players)[i]) = (liv s.Players).drop (i + 1) ++ (liv s.Players).take i := by
  rw [(whoIn (List.getElem_mem hi)).1]
  exact sorted_split (liv_sorted _) hi
theorem aftAt {s : SState} {i : Nat} (hi : i < (liv s.Players).length) : aft s (liv s.Players)[i] = (liv s.Players).getD ((i + 1) % (liv s.Players).length) default := by
  have hw := whoIn (List.getElem_mem hi)
  unfold aft
  rw [othAt hi]
  by_cases h1 : i + 1 < (liv s.Players).length
  · rw [List.drop_eq_getElem_cons h1, Nat.mod_eq_of_lt h1, getD_of h1]
    rfl
  · have e : i + 1 = (liv s.Players).length := by omega
    rw [e, List.drop_length, Nat.mod_self, List.nil_append]
    cases i with
    | zero =>
      rw [List.take_zero]
      dsimp only
      rw [if_pos ⟨hw.2.1, hw.2.2⟩, getD_of (by omega)]
    | succ i =>
      have h0 : 0 < (liv s.Players).length := by omega
      have : (liv s.Players).take (i + 1) = (liv s.Players)[0] :: ((liv s.Players).drop 1).take i := by
        generalize liv s.Players = L at *
        cases L with
        | nil => simp at h0
        | cons a L => simp
      rw [this, getD_of h0]
theorem law_StateRound {s : SState} (ho : okSState s) : law26_StateRound s = some true := by
  unfold law26_StateRound
  obtain ⟨c, hc⟩ := lightT ho
  have hlen := livLen ho
  simp only [hc, livEq1 ho, alive26, Option.bind_some]
  cases c
  · simp
  · rw [if_neg (by simp)]
    by_cases hL : (liv s.Players).length = 0
    · rw [if_pos (by simpa using hL)]
      have hnil : liv s.Players = [] := List.length_eq_zero_iff.1 hL
      have ho0 : oth (liv s.Players) (who s 0) = [] := by rw [hnil]; rfl
      have ha : aft s 0 = -1 := by
        unfold aft
        rw [ho0]
        dsimp only
        rw [if_neg]
        rintro ⟨h1, h2⟩
        have : (0 : Int) ∈ liv s.Players := liv_mem.2 ⟨0, by omega, rfl, h2⟩
        rw [hnil] at this
        cases this
      simp only [aft1 ho, oth1 ho, ho0, ha, gdS, Option.bind_some]
      rfl
    · rw [if_neg (by simpa using hL)]
      have h0 : 0 < (liv s.Players).length := by omega
      have e0 : idx (liv s.Players) 0 = some (liv s.Players)[0] := idx_nat h0
      rw [e0]
      simp only [Option.bind_some]
      refine loopA (S := fun i => ((liv s.Players).getD (i % (liv s.Players).length) default, (i : Int))) (r := .inr (liv s.Players)[0]) (liv s.Players).length hlen ?_ (fun i hi => ?_) ?_ ?_
      · rw [Nat.zero_mod, getD_of h0]; rfl
      · dsimp only
        unfold law26_StateRound_B22
        rw [if_pos (by simpa using hi), idx_nat hi, Nat.mod_eq_of_lt hi, getD_of hi, wrap64_id (x := (i : Int) + 1) (by omega) (by omega), wrap64_id (by omega) (by omega), aft1 ho, aftAt hi, oth1 ho, othAt hi]
        simp only [Option.bind_some, gdS, bne_self_eq_false, Bool.false_eq_true, if_false, beq_self_eq_true, if_true]
        rw [if_neg (by simp only [List.length_append, List.length_drop, List.length_take, bne_iff_ne, ne_eq]; omega)]
        simp
      · dsimp only
        unfold law26_StateRound_B22
        rw [if_neg (by simp), Nat.mod_self, getD_of h0]
      · show law26_StateRound_J13 (liv s.Players) (liv s.Players)[0] = some true
        unfold law26_StateRound_J13
        rw [e0]
        simp only [Option.bind_some, gdS, alive26, beq_self_eq_true, if_true]
end Go.PL
