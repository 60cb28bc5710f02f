/- Plain laws of the state chapter: the reference's comparisons, and its light states. -/
import Derived.Test.YtipchejgnmnffaaGreatDoorPlStL
namespace Go.PL
open Go
set_option maxRecDepth 100000
set_option linter.all false
set_option maxHeartbeats 1000000
theorem ifN (b q : Bool) : (if b = true then some false else some q) = some (!b && q) := by cases b <;> rfl
theorem ifP (b q : Bool) : (if b = true then some q else some false) = some (b && q) := by cases b <;> rfl
theorem aan (a b : Bool) : (!a || !(a && b)) = (!a || !b) := by cases a <;> rfl
theorem neD {α : Type} [DecidableEq α] (a b : α) : (a != b) = !decide (a = b) := by
  by_cases h : a = b
  · subst h; simp
  · simp [h]
section
variable {α : Type} [Inhabited α] [DecidableEq α] {l m : List α} {B : Int → Option (Int ⊕ (Unit ⊕ Unit))}
theorem cmpH {f : Unit → Option Bool} {q : Bool} (hb : l.length < 9223372036854775807) (hB : ∀ (i : Nat) (h : i < l.length) (h' : i < m.length), B (i : Int) = some (if l[i] = m[i] then .inl ((i : Int) + 1) else .inr (.inl ()))) (hE : B (l.length : Int) = some (.inr (.inr ()))) (h1 : l = m → f () = some q) (h2 : l ≠ m → q = false) :
    (if ((l.length : Int) != (m.length : Int)) = true then some false else (iter B FU 0).bind (Sum.elim (fun _ => some false) f)) = some q := by
  by_cases hl : l.length = m.length
  · rw [if_neg (by simp [hl]), cmpG hb hB hE hl]
    by_cases h : l = m
    · rw [if_pos h, h1 h]
    · rw [if_neg h, h2 h]
  · rw [if_pos (by simp; omega), h2 (fun h => hl (by rw [h]))]
end
theorem r17ListEq {a b : List SEffect} (h : okL 560 okSEffect a) : r17_SameList a b = some (decide (a = b)) := by
  unfold r17_SameList
  refine cmpF (okLen h) (fun i h1 h2 => ?_) ?_
  · unfold r17_SameList_B5
    rw [if_pos (by simpa using h1), idx_nat h1, idx_nat h2]
    simp only [Option.bind_some, r17Eq (okAt h h1)]
    exact fin1 rfl (Nat.lt_trans h1 (okLen h))
  · unfold r17_SameList_B5; rw [if_neg (by simp)]
theorem r20Eq {x y : SAbility} (ho : okSAbility x) : r20_Same x y = some (decide (x = y)) := by
  have ho2 := ho
  unfold okSAbility at ho2
  unfold r20_Same
  refine cmpH (B := fun v => r20_Same_B15 x y v) (okLen ho2.2.2.2.2.2.2.2.1) (fun i h1 h2 => ?_) ?_ (fun hs => ?_) (fun hs => by rw [decide_eq_false_iff_not]; intro h; exact hs (by rw [h]))
  · unfold r20_Same_B15
    rw [if_pos (by simpa using h1), idx_nat h1, idx_nat h2]
    simp only [Option.bind_some]
    exact fin1 (beqD _ _) (Nat.lt_trans h1 (okLen ho2.2.2.2.2.2.2.2.1))
  · unfold r20_Same_B15; rw [if_neg (by simp)]
  unfold r20_Same_J2
  simp only [Option.bind_some, gdB, ifA, ifO, ifN, ifP, bT, bF, aas, aan, Bool.not_not, r17ModsEq (okLen ho2.2.2.1), r17ListEq ho2.2.2.2.2.2.2.2.2.1]
  refine congrArg some ?_
  rw [Bool.eq_iff_iff]
  cases x; cases y
  simp only [Bool.and_eq_true, Bool.or_eq_true, Bool.not_eq_true', Bool.or_eq_false_iff, bne_eq_false_iff_eq, beq_iff_eq, decide_eq_true_eq, decide_eq_false_iff_not, SAbility.mk.injEq] at *
  first | done | (constructor <;> (intro h; simp_all)) | grind
theorem r26ItemEq {x y : SItem} (ho : okSItem x) : r26_SameItem x y = some (decide (x = y)) := by
  have ho2 := ho
  unfold okSItem at ho2
  unfold r26_SameItem
  refine cmpH (B := fun v => r26_SameItem_B13 x y v) (okLen ho2.2.2.2.2.2.2.2.1) (fun i h1 h2 => ?_) ?_ (fun hs => ?_) (fun hs => by rw [decide_eq_false_iff_not]; intro h; exact hs (by rw [h]))
  · unfold r26_SameItem_B13
    rw [if_pos (by simpa using h1), idx_nat h1, idx_nat h2]
    simp only [Option.bind_some]
    exact fin1 (beqD _ _) (Nat.lt_trans h1 (okLen ho2.2.2.2.2.2.2.2.1))
  · unfold r26_SameItem_B13; rw [if_neg (by simp)]
  unfold r26_SameItem_J2
  simp only [Option.bind_some, gdB, ifA, ifO, ifN, ifP, bT, bF, aas, aan, Bool.not_not, r20Eq ho2.2.2.2.2.2.2.1]
  refine congrArg some ?_
  rw [Bool.eq_iff_iff]
  cases x; cases y
  simp only [Bool.and_eq_true, Bool.or_eq_true, Bool.not_eq_true', Bool.or_eq_false_iff, bne_eq_false_iff_eq, beq_iff_eq, decide_eq_true_eq, decide_eq_false_iff_not, SItem.mk.injEq] at *
  first | done | (constructor <;> (intro h; simp_all)) | grind
theorem r26WaitingEq {x y : SWaiting} (ho : okSWaiting x) : r26_SameWaiting x y = some (decide (x = y)) := by
  have ho2 := ho
  unfold okSWaiting at ho2
  unfold r26_SameWaiting
  simp only [Option.bind_some, gdB, ifA, ifO, ifN, ifP, bT, bF, aas, aan, Bool.not_not, r20Eq ho2.2.2.1]
  refine congrArg some ?_
  rw [Bool.eq_iff_iff]
  cases x; cases y
  simp only [Bool.and_eq_true, Bool.or_eq_true, Bool.not_eq_true', Bool.or_eq_false_iff, bne_eq_false_iff_eq, beq_iff_eq, decide_eq_true_eq, decide_eq_false_iff_not, SWaiting.mk.injEq] at *
  first | done | (constructor <;> (intro h; simp_all)) | grind
theorem r26ContEq {x y : SCont} (ho : okSCont x) : r26_SameCont x y = some (decide (x = y)) := by
  have ho2 := ho
  unfold okSCont at ho2
  unfold r26_SameCont
  simp only [Option.bind_some, gdB, ifA, ifO, ifN, ifP, bT, bF, aas, aan, Bool.not_not, r03Eq (okLen ho2.2.2.2.2.1), r26ModsEq (okLen ho2.2.2.2.2.2.1)]
  refine congrArg some ?_
  rw [Bool.eq_iff_iff]
  cases x; cases y
  simp only [Bool.and_eq_true, Bool.or_eq_true, Bool.not_eq_true', Bool.or_eq_false_iff, bne_eq_false_iff_eq, beq_iff_eq, decide_eq_true_eq, decide_eq_false_iff_not, SCont.mk.injEq] at *
  first | done | (constructor <;> (intro h; simp_all)) | grind
theorem r26PlayerEq {x y : SPlayer} (ho : okSPlayer x) : r26_SamePlayer x y = some (decide (x = y)) := by
  have ho2 := ho
  unfold okSPlayer at ho2
  unfold r26_SamePlayer
  simp only [Option.bind_some, gdB, ifA, ifO, ifN, ifP, bT, bF, aas, aan, Bool.not_not, r03Eq (okLen ho2.2.2.2.2.2.2.1), r03Eq (okLen ho2.2.2.2.2.2.2.2.1), r03Eq (okLen ho2.2.2.2.2.2.2.2.2.1)]
  refine congrArg some ?_
  rw [Bool.eq_iff_iff]
  cases x; cases y
  simp only [Bool.and_eq_true, Bool.or_eq_true, Bool.not_eq_true', Bool.or_eq_false_iff, bne_eq_false_iff_eq, beq_iff_eq, decide_eq_true_eq, decide_eq_false_iff_not, SPlayer.mk.injEq] at *
  first | done | (constructor <;> (intro h; simp_all)) | grind
theorem r26ListsEq {x y : SState} (ho : okSState x) : r26_lists x y = some (decide (x.Players = y.Players) && (decide (x.Objects = y.Objects) && (decide (x.Stack = y.Stack) && (decide (x.Waiting = y.Waiting) && decide (x.Conts = y.Conts))))) := by
  have ho2 := ho
  unfold okSState at ho2
  by_cases hl : x.Players.length = y.Players.length ∧ x.Objects.length = y.Objects.length ∧ x.Stack.length = y.Stack.length ∧ x.Waiting.length = y.Waiting.length ∧ x.Conts.length = y.Conts.length
  · obtain ⟨l1, l2, l3, l4, l5⟩ := hl
    have g1 : ∀ (f : Unit → Option Bool), (iter (fun v => r26_lists_B44 x y v) FU 0).bind (Sum.elim (fun _ => some false) f) = if x.Players = y.Players then f () else some false := by
      intro f
      refine cmpG (okLen ho2.1) (fun i h1 h2 => ?_) ?_ l1
      · unfold r26_lists_B44
        rw [if_pos (by simpa using h1), idx_nat h1, idx_nat h2]
        simp only [Option.bind_some, r26PlayerEq (okAt ho2.1 h1)]
        exact fin1 rfl (Nat.lt_trans h1 (okLen ho2.1))
      · unfold r26_lists_B44; rw [if_neg (by simp)]
    have g2 : ∀ (f : Unit → Option Bool), (iter (fun v => r26_lists_B37 x y v) FU 0).bind (Sum.elim (fun _ => some false) f) = if x.Objects = y.Objects then f () else some false := by
      intro f
      refine cmpG (okLen ho2.2.1) (fun i h1 h2 => ?_) ?_ l2
      · unfold r26_lists_B37
        rw [if_pos (by simpa using h1), idx_nat h1, idx_nat h2]
        simp only [Option.bind_some]
        exact fin1 (beqD _ _) (Nat.lt_trans h1 (okLen ho2.2.1))
      · unfold r26_lists_B37; rw [if_neg (by simp)]
    have g3 : ∀ (f : Unit → Option Bool), (iter (fun v => r26_lists_B29 x y v) FU 0).bind (Sum.elim (fun _ => some false) f) = if x.Stack = y.Stack then f () else some false := by
      intro f
      refine cmpG (okLen ho2.2.2.2.2.1) (fun i h1 h2 => ?_) ?_ l3
      · unfold r26_lists_B29
        rw [if_pos (by simpa using h1), idx_nat h1, idx_nat h2]
        simp only [Option.bind_some, r26ItemEq (okAt ho2.2.2.2.2.1 h1)]
        exact fin1 rfl (Nat.lt_trans h1 (okLen ho2.2.2.2.2.1))
      · unfold r26_lists_B29; rw [if_neg (by simp)]
    have g4 : ∀ (f : Unit → Option Bool), (iter (fun v => r26_lists_B21 x y v) FU 0).bind (Sum.elim (fun _ => some false) f) = if x.Waiting = y.Waiting then f () else some false := by
      intro f
      refine cmpG (okLen ho2.2.2.2.2.2.1) (fun i h1 h2 => ?_) ?_ l4
      · unfold r26_lists_B21
        rw [if_pos (by simpa using h1), idx_nat h1, idx_nat h2]
        simp only [Option.bind_some, r26WaitingEq (okAt ho2.2.2.2.2.2.1 h1)]
        exact fin1 rfl (Nat.lt_trans h1 (okLen ho2.2.2.2.2.2.1))
      · unfold r26_lists_B21; rw [if_neg (by simp)]
    have g5 : ∀ (f : Unit → Option Bool), (iter (fun v => r26_lists_B13 x y v) FU 0).bind (Sum.elim (fun _ => some false) f) = if x.Conts = y.Conts then f () else some false := by
      intro f
      refine cmpG (okLen ho2.2.2.2.2.2.2.1) (fun i h1 h2 => ?_) ?_ l5
      · unfold r26_lists_B13
        rw [if_pos (by simpa using h1), idx_nat h1, idx_nat h2]
        simp only [Option.bind_some, r26ContEq (okAt ho2.2.2.2.2.2.2.1 h1)]
        exact fin1 rfl (Nat.lt_trans h1 (okLen ho2.2.2.2.2.2.2.1))
      · unfold r26_lists_B13; rw [if_neg (by simp)]
    unfold r26_lists
    simp only [Option.bind_some, l1, l2, l3, l4, l5, bne_self_eq_false, if_false, Bool.false_eq_true]
    rw [g1]; unfold r26_lists_J6; rw [g2]; unfold r26_lists_J7; rw [g3]; unfold r26_lists_J8; rw [g4]; unfold r26_lists_J9; rw [g5]; unfold r26_lists_J10
    by_cases h1 : x.Players = y.Players <;> by_cases h2 : x.Objects = y.Objects <;> by_cases h3 : x.Stack = y.Stack <;> by_cases h4 : x.Waiting = y.Waiting <;> by_cases h5 : x.Conts = y.Conts <;> simp only [h1, h2, h3, h4, h5, if_true, if_false, decide_true, decide_false, Bool.and_true, Bool.and_false, Bool.true_and, Bool.false_and]
  · have hq : (decide (x.Players = y.Players) && (decide (x.Objects = y.Objects) && (decide (x.Stack = y.Stack) && (decide (x.Waiting = y.Waiting) && decide (x.Conts = y.Conts))))) = false := by
      rw [Bool.eq_false_iff]; intro h; simp only [Bool.and_eq_true, decide_eq_true_eq] at h; obtain ⟨h1, h2, h3, h4, h5⟩ := h; exact hl (by rw [h1, h2, h3, h4, h5]; simp)
    rw [hq]
    unfold r26_lists
    simp only [Option.bind_some, ifO]
    rw [if_pos (by
      simp only [Bool.or_eq_true, bne_iff_ne, ne_eq]
      omega)]
theorem refSame {x y : SState} (ho : okSState x) : r26_Same x y = some (decide (x = y)) := by
  have ho2 := ho
  unfold okSState at ho2
  unfold r26_Same
  simp only [Option.bind_some, gdB, ifA, ifO, ifN, ifP, bT, bF, aas, aan, Bool.not_not, neD, r26ListsEq ho, r03Eq (okLen ho2.2.2.1), r03Eq (okLen ho2.2.2.2.1), r03Eq (okLen ho2.2.2.2.2.2.2.2.2.2.2.2.2.2.2.2.2.1)]
  refine congrArg some ?_
  rw [Bool.eq_iff_iff]
  cases x; cases y
  simp only [Bool.and_eq_true, Bool.or_eq_true, Bool.not_eq_true', Bool.or_eq_false_iff, bne_eq_false_iff_eq, beq_iff_eq, decide_eq_true_eq, decide_eq_false_iff_not, SState.mk.injEq] at *
  first | done | (constructor <;> (intro h; simp_all)) | grind
end Go.PL
