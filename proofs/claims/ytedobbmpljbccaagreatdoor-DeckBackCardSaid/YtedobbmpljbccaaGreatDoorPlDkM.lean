/- Plain laws of the deck chapter: sizes, checks, texts; DeckChecks, DeckTexts. -/
import Derived.Test.YtedobbmpljbccaaGreatDoorPlDkL
namespace Go.PL
open Go
set_option maxRecDepth 100000
set_option linter.all false
set_option maxHeartbeats 1000000
def cl (x : Int) : Int := if (1000000 : Int) < (if x < (-1000000 : Int) then (-1000000 : Int) else x) then (1000000 : Int) else (if x < (-1000000 : Int) then (-1000000 : Int) else x)
theorem cl1 (x : Int) : num_Clamp x = some (cl x) := rfl
theorem cl2 (x : Int) : r01_Clamp x = some (cl x) := by
  unfold r01_Clamp cl
  simp only [decide_eq_true_eq]
  repeat' split
  all_goals first | rfl | (congr 1; omega) | omega
theorem cl_le (x : Int) : -1000000 ≤ cl x ∧ cl x ≤ 1000000 := by
  unfold cl; repeat' split
  all_goals omega
theorem cl_id {x : Int} (h : -1000000 ≤ x ∧ x ≤ 1000000) : cl x = x := by
  unfold cl; repeat' split
  all_goals omega
theorem add1 (a b : Int) : num_Add a b = some (cl (cl a + cl b)) := by
  unfold num_Add
  have h1 := cl_le a
  have h2 := cl_le b
  simp only [cl1, Option.bind_some, wrap64_id (x := cl a + cl b) (by omega) (by omega)]
def szN (l : List Int) : Nat → Int
  | 0 => 0
  | k + 1 => cl (cl (szN l k) + cl (if (0 : Int) < l.getD k default then l.getD k default else 0))
theorem size1 {d : SDeck} (h : d.Counts.length ≤ 300) : deck_Size d = some (szN d.Counts d.Counts.length) := by
  unfold deck_Size
  refine loopA (S := fun i => ((i : Int), szN d.Counts i)) (r := szN d.Counts d.Counts.length) d.Counts.length (by omega) rfl (fun i hi => ?_) ?_ rfl
  · dsimp only
    unfold deck_Size_B8
    rw [if_pos (by simpa using hi), idx_nat hi]
    simp only [Option.bind_some, add1, szN, getD_of hi, wrap64_id (x := (i : Int) + 1) (by omega) (by omega)]
    rfl
  · dsimp only
    unfold deck_Size_B8; rw [if_neg (by simp)]
theorem intsEq {a b : List Int} (h : a.length < 9223372036854775807) : r23_Ints a b = some (decide (a = b)) := by
  unfold r23_Ints
  refine cmpF h (fun i h1 h2 => ?_) ?_
  · unfold r23_Ints_B5
    rw [if_pos (by simpa using h1), idx_nat h1, idx_nat h2]
    exact fin1 (beqD _ _) (by omega)
  · unfold r23_Ints_B5; rw [if_neg (by simp)]

/-! Checks. -/
def basicC (k : SCard) : Bool := decide (k.Line.Super = 1 ∨ k.Line.Super = 3)
def chk (l : List SCard) (d : SDeck) (f : SFormat) (i : Nat) : Bool :=
  (!basicC (l.getD (d.Cards.getD i default).toNat default) && decide (f.Copies < d.Counts.getD i default)) || decide (0 ≤ fndS f.Banned (l.getD (d.Cards.getD i default).toNat default).Name)
theorem basic1 {k : SCard} (h : 0 ≤ k.Line.Super ∧ k.Line.Super ≤ 3) : ((bAnd .i64 k.Line.Super (1 : Int)) == (0 : Int)) = !basicC k := by
  unfold basicC
  have : k.Line.Super = 0 ∨ k.Line.Super = 1 ∨ k.Line.Super = 2 ∨ k.Line.Super = 3 := by omega
  rcases this with q | q | q | q <;> rw [q] <;> decide
section
variable {l : List SCard} {d : SDeck} {f : SFormat}
theorem fm_card (fm : Fm l d) {i : Nat} (hi : i < d.Cards.length) : idx l (d.Cards.getD i default) = some (l.getD (d.Cards.getD i default).toNat default) ∧ (d.Cards.getD i default).toNat < l.length := by
  have := fm.card i hi
  exact ⟨idx_some (by omega), by omega⟩
theorem chk1 (vc : VC l) (fm : Fm l d) (hn : d.Cards.length ≤ 300) (hb : f.Banned.length ≤ 100) : iter (fun (v : Int) => deck_Check_B10 l d f v) FU 0 = some (if (List.range d.Cards.length).any (chk l d f) = true then .inl () else .inr ()) := by
  refine seekU d.Cards.length (by omega) (fun i hi => ?_) ?_
  · have hk := fm_card fm hi
    have hs := (vc.card _ hk.2).2
    unfold deck_Check_B10 chk
    rw [if_pos (by simpa using hi), idx_D hi, wrapS' (by omega)]
    simp only [Option.bind_some]
    rw [hk.1]
    have hx : ∀ s, word_Index f.Banned s = some (fndS f.Banned s) := fun s => index1 (by omega)
    simp only [Option.bind_some, basic1 hs, idx_D (l := d.Counts) (i := i) (by have := fm.len; omega), gdS, hx]
    generalize l.getD (d.Cards.getD i default).toNat default = k
    generalize d.Counts.getD i default = n
    cases basicC k
    · by_cases h1 : f.Copies < n
      · simp [h1]
      · simp only [h1, Bool.not_false, beq_self_eq_true, if_true, decide_false, Bool.true_and, Bool.false_or, Bool.false_eq_true, if_false]
        split <;> rfl
    · simp only [Bool.not_true, Bool.false_and, Bool.false_or, Bool.false_eq_true, if_false, beq_self_eq_true, if_true]
      split <;> rfl
  · unfold deck_Check_B10; rw [if_neg (by simp)]
def checkS (l : List SCard) (d : SDeck) (f : SFormat) : Int :=
  if formedS l d = true then
    if 250 < szN d.Counts d.Counts.length then 5
    else if szN d.Counts d.Counts.length < f.Least ∨ f.Most < szN d.Counts d.Counts.length then 10
    else if (List.range d.Cards.length).any (chk l d f) = true then 10 else 0
  else 1
theorem check1 (vc : VC l) (hn : d.Cards.length ≤ 300) (hm : d.Counts.length ≤ 300) (hb : f.Banned.length ≤ 100) : deck_Check l d f = some (checkS l d f) := by
  unfold deck_Check checkS
  rw [formed1 (by omega)]
  cases hf : formedS l d
  · rfl
  · have fm := fm_of hf
    simp only [Option.bind_some, Bool.not_true, Bool.false_eq_true, if_false, size1 hm, if_true]
    generalize szN d.Counts d.Counts.length = z
    by_cases h1 : 250 < z
    · simp [h1]
    · rw [if_neg (by simpa using h1), if_neg h1]
      by_cases h2 : z < f.Least ∨ f.Most < z
      · rw [if_pos h2, if_pos (by simp; omega)]
      · rw [if_neg h2, if_neg (by simp; omega), chk1 vc fm hn hb]
        cases (List.range d.Cards.length).any (chk l d f) <;> rfl
/-! Names. -/
theorem W.sidxE {l : List UInt8} {i : Int} (h : 0 ≤ i ∧ i < l.length) : W (PL.sidx l i) (fun e => e = (l.getD i.toNat 0).toNat) := ⟨_, if_pos h, rfl⟩
theorem low_W {c : Int} : W (r02_low c) (fun r => r = true → 97 ≤ c ∧ c ≤ 122) := by
  unfold r02_low
  refine W.lt (fun b hb => W.rt (fun h => ?_))
  rw [hb] at h; simp only [bz] at h; exact h
theorem is_W {s : List UInt8} (hl : s.length ≤ 1000) : W (r02_Is s) (fun r => r = true → (1 ≤ s.length ∧ s.length ≤ 32) ∧ ∀ c ∈ s, c.toNat ≠ 10 ∧ c.toNat ≠ 32) := by
  unfold r02_Is
  refine W.lt (fun b1 bb_1 => ?_)
  refine W.gb (fun gg_2 => by simp only [bb_1, bz] at gg_2; exact W.sidx (by omega)) (fun c2 q_c2 => ?_)
  refine W.gb (fun gg_4 => by exact low_W) (fun r3 q_r3 => ?_)
  refine W.lt (fun b4 bb_5 => ?_)
  refine W.gb (fun gg_6 => by simp only [bb_1, bb_5, bz] at gg_6; exact W.sidx (by have ww_8 : wrap64 ((s.length : Int) - (1 : Int)) = (s.length : Int) - (1 : Int) := wrap64_id (by omega) (by omega); omega)) (fun c5 q_c5 => ?_)
  refine W.lt (fun b6 bb_9 => ?_)
  refine W.if (fun hh_10 => W.rt (fun h => by cases h)) (fun hh_10 => ?_)
  simp only [bb_1, bb_5, bb_9, bz] at hh_10
  refine W.it (fun (v : Int) => 0 ≤ v ∧ v ≤ (s.length : Int) ∧ ∀ j : Nat, (j : Int) < v → (s.getD j 0).toNat ≠ 10 ∧ (s.getD j 0).toNat ≠ 32) (fun v => ((s.length : Int) - v).toNat) ⟨by omega, by omega, fun j hj => by omega⟩ (by omega) (fun v hv => ?_)
  obtain ⟨v1, v2, v3⟩ := hv
  unfold r02_Is_B11
  refine W.if (fun hi => ?_) (fun hi => W.ex (W.rt (fun _ => ?_)))
  · simp only [bz] at hi
    refine W.bd (W.sidxE (by omega)) (fun c13 q13 => ?_)
    refine W.bd low_W (fun r14 q14 => ?_)
    refine W.gb (fun gg => W.sidxE (by omega)) (fun c15 q15 => ?_)
    refine W.gb (fun gg => W.sidxE (by omega)) (fun c16 q16 => ?_)
    refine W.lt (fun b17 h17 => ?_)
    refine W.lt (fun b18 h18 => ?_)
    refine W.gb (fun gg => W.sidxE (by omega)) (fun c19 q19 => ?_)
    refine W.lt (fun b20 h20 => ?_)
    refine W.if (fun _ => W.ex (W.rt (fun h => by cases h))) (fun h20' => ?_)
    have hx : (s.getD v.toNat 0).toNat ≠ 10 ∧ (s.getD v.toNat 0).toNat ≠ 32 := by
      cases r14
      · have e15 := q15 (by simp)
        by_cases h48 : c15 < 48
        · have e17 : b17 = true := by rw [h17]; simp [h48]
          have e18 : b18 = true := by rw [h18, e17]; rfl
          have e19 := q19 (by rw [e18]; rfl)
          rw [h20, e18] at h20'
          simp only [bz, if_true] at h20'
          omega
        · have e16 := q16 (by simp; omega)
          omega
      · have := q14 rfl
        omega
    have hnx : ∀ j : Nat, (j : Int) < v + 1 → (s.getD j 0).toNat ≠ 10 ∧ (s.getD j 0).toNat ≠ 32 := fun j hj => by
      by_cases hj' : (j : Int) < v
      · exact v3 j hj'
      · obtain rfl : j = v.toNat := by omega
        exact hx
    refine W.gb (fun gg => W.sidx (by omega)) (fun c22 q22 => ?_)
    refine W.lt (fun b23 h23 => ?_)
    refine W.gb (fun gg => by simp only [h23, bz] at gg; exact W.sidx (by have ww : wrap64 (v - (1 : Int)) = v - (1 : Int) := wrap64_id (by omega) (by omega); omega)) (fun c24 q24 => ?_)
    refine W.lt (fun b25 h25 => ?_)
    refine W.if (fun _ => W.ex (W.rt (fun h => by cases h))) (fun _ => ?_)
    rw [wrap64_id (x := v + 1) (by omega) (by omega)]
    exact W.nx ⟨by omega, by omega, hnx⟩ (by omega)
  · simp only [bz] at hi
    refine ⟨by omega, fun c hc => ?_⟩
    obtain ⟨i, h1, rfl⟩ := List.mem_iff_getElem.1 hc
    have := v3 i (by omega)
    rwa [List.getD_eq_getElem?_getD, List.getElem?_eq_getElem h1] at this
theorem is_facts {s : List UInt8} (hl : s.length ≤ 140737488355328) (h : r02_Is s = some true) : 1 ≤ s.length ∧ s.length ≤ 32 ∧ ∀ c ∈ s, c ≠ 10 ∧ c ≠ 32 := by
  have hs : s.length ≤ 1000 := by
    by_cases h2 : 32 < (s.length : Int)
    · unfold r02_Is at h
      simp [h2, gd] at h
    · omega
  obtain ⟨r, hr, q⟩ := is_W hs
  rw [h] at hr; injection hr with hr; subst hr
  obtain ⟨q1, q2⟩ := q rfl
  refine ⟨q1.1, q1.2, fun c hc => ?_⟩
  have := q2 c hc
  exact ⟨fun e => this.1 (by rw [e]; rfl), fun e => this.2 (by rw [e]; rfl)⟩
end
end Go.PL
