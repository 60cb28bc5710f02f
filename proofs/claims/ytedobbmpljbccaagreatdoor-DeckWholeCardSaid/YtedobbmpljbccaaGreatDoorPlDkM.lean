/- Plain laws of the deck chapter: sizes, checks, texts; DeckChecks, DeckTexts. -/
import Derived.Test.YtedobbmpljbccaaGreatDoorPlDkL
namespace Go.PL
open Go
set_option maxRecDepth 100000
set_option linter.all false
set_option maxHeartbeats 1000000
def cl (x : Int) : Int := if (1000000 : Int) < (if x < (-1000000 : Int) then (-1000000 : Int) else x) then (1000000 : Int) else (if x < (-1000000 : Int) then (-1000000 : Int) else x)
theorem cl1 (x : Int) : num_Clamp x = some (cl x) := rfl
theorem cl2 (x : Int) : r01_Clamp x = some (cl x) := by
  unfold r01_Clamp cl
  simp only [decide_eq_true_eq]
  repeat' split
  all_goals first | rfl | (congr 1; omega) | omega
theorem cl_le (x : Int) : -1000000 ≤ cl x ∧ cl x ≤ 1000000 := by
  unfold cl; repeat' split
  all_goals omega
theorem cl_id {x : Int} (h : -1000000 ≤ x ∧ x ≤ 1000000) : cl x = x := by
  unfold cl; repeat' split
  all_goals omega
theorem add1 (a b : Int) : num_Add a b = some (cl (cl a + cl b)) := by
  unfold num_Add
  have h1 := cl_le a
  have h2 := cl_le b
  simp only [cl1, Option.bind_some, wrap64_id (x := cl a + cl b) (by omega) (by omega)]
def szN (l : List Int) : Nat → Int
  | 0 => 0
  | k + 1 => cl (cl (szN l k) + cl (if (0 : Int) < l.getD k default then l.getD k default else 0))
theorem size1 {d : SDeck} (h : d.Counts.length ≤ 300) : deck_Size d = some (szN d.Counts d.Counts.length) := by
  unfold deck_Size
  refine loopA (S := fun i => ((i : Int), szN d.Counts i)) (r := szN d.Counts d.Counts.length) d.Counts.length (by omega) rfl (fun i hi => ?_) ?_ rfl
  · dsimp only
    unfold deck_Size_B8
    rw [if_pos (by simpa using hi), idx_nat hi]
    simp only [Option.bind_some, add1, szN, getD_of hi, wrap64_id (x := (i : Int) + 1) (by omega) (by omega)]
    rfl
  · dsimp only
    unfold deck_Size_B8; rw [if_neg (by simp)]
/-! Checks. -/
def basicC (k : SCard) : Bool := decide (k.Line.Super = 1 ∨ k.Line.Super = 3)
def chk (l : List SCard) (d : SDeck) (f : SFormat) (i : Nat) : Bool :=
  (!basicC (l.getD (d.Cards.getD i default).toNat default) && decide (f.Copies < d.Counts.getD i default)) || decide (0 ≤ fndS f.Banned (l.getD (d.Cards.getD i default).toNat default).Name)
theorem basic1 {k : SCard} (h : 0 ≤ k.Line.Super ∧ k.Line.Super ≤ 3) : ((bAnd .i64 k.Line.Super (1 : Int)) == (0 : Int)) = !basicC k := by
  unfold basicC
  have : k.Line.Super = 0 ∨ k.Line.Super = 1 ∨ k.Line.Super = 2 ∨ k.Line.Super = 3 := by omega
  rcases this with q | q | q | q <;> rw [q] <;> decide
section
variable {l : List SCard} {d : SDeck} {f : SFormat}
theorem fm_card (fm : Fm l d) {i : Nat} (hi : i < d.Cards.length) : idx l (d.Cards.getD i default) = some (l.getD (d.Cards.getD i default).toNat default) ∧ (d.Cards.getD i default).toNat < l.length := by
  have := fm.card i hi
  exact ⟨idx_some (by omega), by omega⟩
theorem chk1 (vc : VC l) (fm : Fm l d) (hn : d.Cards.length ≤ 300) (hb : f.Banned.length ≤ 100) : iter (fun (v : Int) => deck_Check_B10 l d f v) FU 0 = some (if (List.range d.Cards.length).any (chk l d f) = true then .inl () else .inr ()) := by
  refine seekU d.Cards.length (by omega) (fun i hi => ?_) ?_
  · have hk := fm_card fm hi
    have hs := (vc.card _ hk.2).2
    unfold deck_Check_B10 chk
    rw [if_pos (by simpa using hi), idx_D hi, wrapS' (by omega)]
    simp only [Option.bind_some]
    rw [hk.1]
    have hx : ∀ s, word_Index f.Banned s = some (fndS f.Banned s) := fun s => index1 (by omega)
    simp only [Option.bind_some, basic1 hs, idx_D (l := d.Counts) (i := i) (by have := fm.len; omega), gdS, hx]
    generalize l.getD (d.Cards.getD i default).toNat default = k
    generalize d.Counts.getD i default = n
    cases basicC k
    · by_cases h1 : f.Copies < n
      · simp [h1]
      · simp only [h1, Bool.not_false, beq_self_eq_true, if_true, decide_false, Bool.true_and, Bool.false_or, Bool.false_eq_true, if_false]
        split <;> rfl
    · simp only [Bool.not_true, Bool.false_and, Bool.false_or, Bool.false_eq_true, if_false, beq_self_eq_true, if_true]
      split <;> rfl
  · unfold deck_Check_B10; rw [if_neg (by simp)]
def checkS (l : List SCard) (d : SDeck) (f : SFormat) : Int :=
  if formedS l d = true then
    if 250 < szN d.Counts d.Counts.length then 5
    else if szN d.Counts d.Counts.length < f.Least ∨ f.Most < szN d.Counts d.Counts.length then 10
    else if (List.range d.Cards.length).any (chk l d f) = true then 10 else 0
  else 1
theorem check1 (vc : VC l) (hn : d.Cards.length ≤ 300) (hm : d.Counts.length ≤ 300) (hb : f.Banned.length ≤ 100) : deck_Check l d f = some (checkS l d f) := by
  unfold deck_Check checkS
  rw [formed1 (by omega)]
  cases hf : formedS l d
  · rfl
  · have fm := fm_of hf
    simp only [Option.bind_some, Bool.not_true, Bool.false_eq_true, if_false, size1 hm, if_true]
    generalize szN d.Counts d.Counts.length = z
    by_cases h1 : 250 < z
    · simp [h1]
    · rw [if_neg (by simpa using h1), if_neg h1]
      by_cases h2 : z < f.Least ∨ f.Most < z
      · rw [if_pos h2, if_pos (by simp; omega)]
      · rw [if_neg h2, if_neg (by simp; omega), chk1 vc fm hn hb]
        cases (List.range d.Cards.length).any (chk l d f) <;> rfl
/-! Names. -/
end
end Go.PL
