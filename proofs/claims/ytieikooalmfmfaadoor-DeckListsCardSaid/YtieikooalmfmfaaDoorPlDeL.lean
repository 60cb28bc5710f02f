/- Plain laws of the deck chapter: sizes and lists. -/
import Derived.Test.YtieikooalmfmfaaDoorPlPtoPlPo
import Derived.Test.YtieikooalmfmfaaDoorPlDeF5
namespace Go.PL
open Go
set_option maxRecDepth 100000
set_option linter.all false
set_option maxHeartbeats 1000000
def cl (x : Int) : Int := if (1000000 : Int) < (if x < (-1000000 : Int) then (-1000000 : Int) else x) then (1000000 : Int) else (if x < (-1000000 : Int) then (-1000000 : Int) else x)
theorem cl1 (x : Int) : num_Clamp x = some (cl x) := rfl
theorem cl2 (x : Int) : r01_Clamp x = some (cl x) := by
  unfold r01_Clamp cl
  simp only [decide_eq_true_eq]
  repeat' split
  all_goals first | rfl | (congr 1; omega) | omega
theorem cl_le (x : Int) : -1000000 ≤ cl x ∧ cl x ≤ 1000000 := by
  unfold cl; repeat' split
  all_goals omega
theorem cl_id {x : Int} (h : -1000000 ≤ x ∧ x ≤ 1000000) : cl x = x := by
  unfold cl; repeat' split
  all_goals omega
theorem cl_pos {x : Int} (h : 0 ≤ x) : 0 ≤ cl x := by
  unfold cl; repeat' split
  all_goals omega
theorem add1 (a b : Int) : num_Add a b = some (cl (cl a + cl b)) := by
  unfold num_Add
  have h1 := cl_le a
  have h2 := cl_le b
  simp only [cl1, Option.bind_some, wrap64_id (x := cl a + cl b) (by omega) (by omega)]
theorem add2 (a b : Int) : r01_Add a b = some (cl (cl a + cl b)) := by
  unfold r01_Add
  have h1 := cl_le a
  have h2 := cl_le b
  simp only [cl2, Option.bind_some, wrap64_id (x := cl a + cl b) (by omega) (by omega)]
def szN (l : List Int) : Nat → Int
  | 0 => 0
  | k + 1 => cl (cl (szN l k) + cl (if (0 : Int) < l.getD k default then l.getD k default else 0))
theorem szN_le (l : List Int) : ∀ k, 0 ≤ szN l k ∧ szN l k ≤ 1000000
  | 0 => by unfold szN; omega
  | k + 1 => by
    have ih := szN_le l k
    unfold szN
    have h1 := cl_pos (x := if (0 : Int) < l.getD k default then l.getD k default else 0) (by split <;> omega)
    have h2 := cl_pos ih.1
    exact ⟨cl_pos (by omega), (cl_le _).2⟩
theorem size1 {d : SDeck} (h : d.Counts.length ≤ 300) : deck_Size d = some (szN d.Counts d.Counts.length) := by
  unfold deck_Size
  refine loopA (S := fun i => ((i : Int), szN d.Counts i)) (r := szN d.Counts d.Counts.length) d.Counts.length (by omega) rfl (fun i hi => ?_) ?_ rfl
  · dsimp only
    unfold deck_Size_B8
    rw [if_pos (by simpa using hi), idx_nat hi]
    simp only [Option.bind_some, add1, szN, getD_of hi, wrap64_id (x := (i : Int) + 1) (by omega) (by omega)]
    rfl
  · dsimp only
    unfold deck_Size_B8; rw [if_neg (by simp)]
theorem size2 {d : SDeck} (h : d.Counts.length ≤ 300) : r23_Size d = some (szN d.Counts d.Counts.length) := by
  unfold r23_Size
  refine loopA (S := fun i => (szN d.Counts i, (i : Int))) (r := szN d.Counts d.Counts.length) d.Counts.length (by omega) rfl (fun i hi => ?_) ?_ rfl
  · dsimp only
    unfold r23_Size_B8 r23_Size_J11
    have hb := szN_le d.Counts i
    rw [if_pos (by simpa using hi), idx_nat hi]
    simp only [Option.bind_some, add2, szN, getD_of hi, wrap64_id (x := (i : Int) + 1) (by omega) (by omega)]
    by_cases hp : (0 : Int) < d.Counts[i]
    · simp only [hp, decide_true, if_true]; rfl
    · simp only [hp, decide_false, if_false, Bool.false_eq_true]
      rw [cl_id (x := szN d.Counts i) (by omega), cl_id (x := 0) (by omega), Int.add_zero, cl_id (x := szN d.Counts i) (by omega)]
      rfl
  · dsimp only
    unfold r23_Size_B8; rw [if_neg (by simp)]
theorem listB (d : SDeck) (i : Int) (l : List Int) : deck_List_B8 d i l = r23_List_B8 d i l := by
  unfold deck_List_B8 r23_List_B8
  have e : decide (i < (if (d.Counts.length : Int) < (d.Cards.length : Int) then (d.Counts.length : Int) else (d.Cards.length : Int))) = (if (decide (i < (d.Cards.length : Int))) = true then decide (i < (d.Counts.length : Int)) else false) := by
    rw [ifA, Bool.eq_iff_iff]
    simp only [Bool.and_eq_true, decide_eq_true_eq]
    split <;> omega
  rw [e]
  rfl
theorem listE (d : SDeck) : deck_List d = r23_List d := by
  unfold deck_List r23_List
  simp only [listB]
  rfl
theorem listT {d : SDeck} (h : d.Counts.length ≤ 300) (h2 : d.Cards.length ≤ 300) : W (r23_List d) (fun l => l.length ≤ 250) := by
  unfold r23_List
  refine W.it (fun v => (0 ≤ v.1 ∧ v.1 ≤ 300) ∧ v.2.length ≤ 250) (fun v => (300 - v.1).toNat) ⟨by simp, by simp⟩ (by dsimp only; omega) (fun v hv => ?_)
  obtain ⟨i, l⟩ := v
  dsimp only at hv ⊢
  unfold r23_List_B8
  simp only [Option.bind_some, ifA]
  refine W.if (fun hc => ?_) (fun hc => W.ex ⟨_, rfl, hv.2⟩)
  simp only [Bool.and_eq_true, decide_eq_true_eq] at hc
  refine W.it (fun v => v.2.length ≤ 250) (fun v => 250 - v.2.length) hv.2 (by dsimp only; omega) (fun v hv2 => ?_)
  obtain ⟨k, m⟩ := v
  dsimp only at hv2 ⊢
  unfold r23_List_B18
  rw [idx_some (l := d.Counts) (by omega)]
  simp only [Option.bind_some, ifA]
  refine W.if (fun hc2 => ?_) (fun hc2 => W.ex ?_)
  · simp only [Bool.and_eq_true, decide_eq_true_eq] at hc2
    rw [idx_some (l := d.Cards) (by omega)]
    simp only [Option.bind_some]
    rw [app1 (by simp only [List.length_cons, List.length_nil]; omega) (by decide)]
    simp only [Option.bind_some]
    exact W.nx (by simp only [List.length_append, List.length_cons, List.length_nil]; omega) (by simp only [List.length_append, List.length_cons, List.length_nil]; omega)
  · unfold r23_List_J12
    refine W.nx ⟨?_, hv2⟩ ?_ <;> dsimp only <;> rw [wrap64_id (by omega) (by omega)] <;> omega
theorem intsEq {a b : List Int} (h : a.length < 9223372036854775807) : r23_Ints a b = some (decide (a = b)) := by
  unfold r23_Ints
  refine cmpF h (fun i h1 h2 => ?_) ?_
  · unfold r23_Ints_B5
    rw [if_pos (by simpa using h1), idx_nat h1, idx_nat h2]
    exact fin1 (beqD _ _) (by omega)
  · unfold r23_Ints_B5; rw [if_neg (by simp)]
theorem alive23 : law23_alive = some true := by kernel_rfl
theorem law_DeckLists {d : SDeck} : law23_DeckLists d = some true := by
  unfold law23_DeckLists
  simp only [Option.bind_some, alive23, ifO]
  by_cases h : d.Cards.length ≤ 300 ∧ d.Counts.length ≤ 300
  · rw [if_neg (by simp; omega)]
    obtain ⟨l, hl, hb⟩ := listT h.2 h.1
    simp only [size1 h.2, size2 h.2, listE, hl, gdS, Option.bind_some, beq_self_eq_true, if_true, intsEq (a := l) (b := l) (by omega), decide_true]
  · rw [if_pos (by simp; omega)]
end Go.PL
