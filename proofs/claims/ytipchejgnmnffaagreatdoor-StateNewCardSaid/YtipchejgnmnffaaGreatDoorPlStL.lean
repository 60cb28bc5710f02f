/- Plain laws of the state chapter: comparisons, element by element. -/
import Derived.Test.YtipchejgnmnffaaGreatDoorPlPtoPlPd
import Derived.Test.YtipchejgnmnffaaGreatDoorPlStD
import Derived.Test.YtipchejgnmnffaaGreatDoorPlStF15
namespace Go.PL
open Go
set_option maxRecDepth 100000
set_option linter.all false
set_option maxHeartbeats 1000000
theorem gdB (g q : Bool) : gd g (some q) = some (g && q) := by cases g <;> rfl
theorem ifA (b q : Bool) : (if b = true then q else false) = (b && q) := by cases b <;> rfl
theorem ifO (b q : Bool) : (if b = true then true else q) = (b || q) := by cases b <;> rfl
theorem bT (b : Bool) : (b == true) = b := by cases b <;> rfl
theorem bF (b : Bool) : (b == false) = !b := by cases b <;> rfl
theorem aas (a b c : Bool) : (a && (a && b)) = (a && b) := by cases a <;> rfl
section
variable {α : Type} [Inhabited α] [DecidableEq α] {l m : List α} {B : Int → Option (Int ⊕ (Unit ⊕ Unit))}
theorem cmp_go (hl : l.length = m.length) (hB : ∀ (i : Nat) (h : i < l.length) (h' : i < m.length), B (i : Int) = some (if l[i] = m[i] then .inl ((i : Int) + 1) else .inr (.inl ()))) (hE : B (l.length : Int) = some (.inr (.inr ()))) :
    ∀ (k i N : Nat), i + k = l.length → k < N → iter B N (i : Int) = some (if l.drop i = m.drop i then .inr () else .inl ())
  | 0, i, N + 1, hi, _ => by
    obtain rfl : i = l.length := by omega
    rw [iter_end hE, List.drop_length, hl, List.drop_length]; rfl
  | k + 1, i, N + 1, hi, hN => by
    have h : i < l.length := by omega
    have h' : i < m.length := by omega
    have := hB i h h'
    rw [List.drop_eq_getElem_cons h, List.drop_eq_getElem_cons h']
    by_cases he : l[i] = m[i]
    · rw [if_pos he] at this
      rw [iter_go this]
      have e : ((i : Int) + 1) = ((i + 1 : Nat) : Int) := by omega
      rw [e, cmp_go hl hB hE k (i + 1) N (by omega) (by omega)]
      by_cases hd : l.drop (i + 1) = m.drop (i + 1)
      · rw [if_pos hd, if_pos (by rw [he, hd])]
      · rw [if_neg hd, if_neg (fun h => hd (List.cons.inj h).2)]
    · rw [if_neg he] at this
      rw [iter_end this, if_neg (fun h => he (List.cons.inj h).1)]
theorem cmpL (hl : l.length = m.length) (hb : l.length < 9223372036854775807) (hB : ∀ (i : Nat) (h : i < l.length) (h' : i < m.length), B (i : Int) = some (if l[i] = m[i] then .inl ((i : Int) + 1) else .inr (.inl ()))) (hE : B (l.length : Int) = some (.inr (.inr ()))) :
    iter B FU 0 = some (if l = m then .inr () else .inl ()) := cmp_go hl hB hE l.length 0 FU (by omega) (by unfold FU; omega)
theorem cmpF (hb : l.length < 9223372036854775807) (hB : ∀ (i : Nat) (h : i < l.length) (h' : i < m.length), B (i : Int) = some (if l[i] = m[i] then .inl ((i : Int) + 1) else .inr (.inl ()))) (hE : B (l.length : Int) = some (.inr (.inr ()))) :
    (if ((l.length : Int) != (m.length : Int)) = true then some false else (iter B FU 0).bind (Sum.elim (fun _ => some false) (fun _ => some true))) = some (decide (l = m)) := by
  by_cases hl : l.length = m.length
  · rw [if_neg (by simp [hl]), cmpL hl hb hB hE]
    by_cases h : l = m <;> simp [h]
  · rw [if_pos (by simp; omega)]
    have : l ≠ m := fun h => hl (by rw [h])
    simp [this]
theorem cmpG {β : Type} {f : Unit → Option β} {a : Option β} (hb : l.length < 9223372036854775807) (hB : ∀ (i : Nat) (h : i < l.length) (h' : i < m.length), B (i : Int) = some (if l[i] = m[i] then .inl ((i : Int) + 1) else .inr (.inl ()))) (hE : B (l.length : Int) = some (.inr (.inr ()))) (hl : l.length = m.length) :
    (iter B FU 0).bind (Sum.elim (fun _ => a) f) = if l = m then f () else a := by
  rw [cmpL hl hb hB hE]
  by_cases h : l = m <;> simp [h]
end
theorem fin1 {q : Bool} {i : Nat} {p : Prop} [Decidable p] (hq : q = decide p) (hi : i < 9223372036854775807) :
    (if (!q) = true then some (.inr (.inl ())) else some (.inl (wrap64 ((i : Int) + 1))) : Option (Int ⊕ (Unit ⊕ Unit))) = some (if p then .inl ((i : Int) + 1) else .inr (.inl ())) := by
  rw [wrap64_id (by omega) (by omega)]
  subst hq
  by_cases h : p <;> simp [h]
theorem beqD {α : Type} [DecidableEq α] (a b : α) : (a == b) = decide (a = b) := by
  by_cases h : a = b
  · subst h; simp
  · simp [h]
theorem okLen {α : Type} {b : Nat} {ok : α → Prop} {l : List α} (h : okL b ok l) (hb : 1 ≤ b := by decide) : l.length < 9223372036854775807 := by
  have h1 := h.1
  have : l.length * 1 ≤ l.length * b := Nat.mul_le_mul_left _ hb
  unfold reachBytes at h1
  omega
theorem okAt {α : Type} {b : Nat} {ok : α → Prop} {l : List α} (h : okL b ok l) {i : Nat} (hi : i < l.length) : ok l[i] := h.2 _ (List.getElem_mem hi)
theorem sEq {a b : List Int} (h : a.length < 9223372036854775807) : slices_Equal_int_int a b = some (decide (a = b)) := by
  unfold slices_Equal_int_int
  refine cmpF h (fun i h1 h2 => ?_) ?_
  · unfold slices_Equal_int_int_B5
    rw [if_pos (by simpa using h1), idx_nat h1, idx_nat h2]
    exact fin1 (beqD _ _) (by omega)
  · unfold slices_Equal_int_int_B5; rw [if_neg (by simp)]
theorem r03Eq {a b : List Int} (h : a.length < 9223372036854775807) : r03_Same a b = some (decide (a = b)) := by
  unfold r03_Same
  refine cmpF h (fun i h1 h2 => ?_) ?_
  · unfold r03_Same_B5
    rw [if_pos (by simpa using h1), idx_nat h1, idx_nat h2]
    exact fin1 (beqD _ _) (by omega)
  · unfold r03_Same_B5; rw [if_neg (by simp)]
theorem eModEq {a b : List SMod} (h : a.length < 9223372036854775807) : state_each_api_Mod_state_equal_api_Mod a b = some (decide (a = b)) := by
  unfold state_each_api_Mod_state_equal_api_Mod slices_EqualFunc_api_Mod_api_Mod_api_Mod_api_Mod_state_equal_api_Mod
  refine (congrArg (fun o => o.bind fun r1 => some r1) (cmpF (B := fun v => slices_EqualFunc_api_Mod_api_Mod_api_Mod_api_Mod_state_equal_api_Mod_B5 a b v) h (fun i h1 h2 => ?_) ?_)).trans rfl
  · unfold slices_EqualFunc_api_Mod_api_Mod_api_Mod_api_Mod_state_equal_api_Mod_B5
    rw [if_pos (by simpa using h1), idx_nat h1, idx_nat h2]
    exact fin1 (beqD _ _) (by omega)
  · unfold slices_EqualFunc_api_Mod_api_Mod_api_Mod_api_Mod_state_equal_api_Mod_B5; rw [if_neg (by simp)]
theorem r17ModsEq {a b : List SMod} (h : a.length < 9223372036854775807) : r17_SameMods a b = some (decide (a = b)) := by
  unfold r17_SameMods
  refine cmpF h (fun i h1 h2 => ?_) ?_
  · unfold r17_SameMods_B5
    rw [if_pos (by simpa using h1), idx_nat h1, idx_nat h2]
    exact fin1 (beqD _ _) (by omega)
  · unfold r17_SameMods_B5; rw [if_neg (by simp)]
theorem r26ModsEq {a b : List SMod} (h : a.length < 9223372036854775807) : r26_SameMods a b = some (decide (a = b)) := by
  unfold r26_SameMods
  refine cmpF h (fun i h1 h2 => ?_) ?_
  · unfold r26_SameMods_B5
    rw [if_pos (by simpa using h1), idx_nat h1, idx_nat h2]
    exact fin1 (beqD _ _) (by omega)
  · unfold r26_SameMods_B5; rw [if_neg (by simp)]
theorem ePlayerEq {a b : List SPlayer} (h : okL 152 (okSPlayer) a) : state_each_api_Player_state_samePlayer a b = some (decide (a = b)) := by
  unfold state_each_api_Player_state_samePlayer slices_EqualFunc_api_Player_api_Player_api_Player_api_Player_state_samePlayer
  refine (congrArg (fun o => o.bind fun r1 => some r1) (cmpF (B := fun v => slices_EqualFunc_api_Player_api_Player_api_Player_api_Player_state_samePlayer_B5 a b v) (okLen h) (fun i h1 h2 => ?_) ?_)).trans rfl
  · have ho := okAt h h1
    have hi : i < 9223372036854775807 := Nat.lt_trans h1 (okLen h)
    unfold slices_EqualFunc_api_Player_api_Player_api_Player_api_Player_state_samePlayer_B5
    rw [if_pos (by simpa using h1), idx_nat h1, idx_nat h2]
    generalize a[i] = x at ho
    generalize b[i] = y
    have ho2 := ho
    unfold okSPlayer at ho2
    simp only [Option.bind_some, gdB, ifA, ifO, bT, bF, aas, Bool.not_not, sEq (okLen ho2.2.2.2.2.2.2.1), sEq (okLen ho2.2.2.2.2.2.2.2.1), sEq (okLen ho2.2.2.2.2.2.2.2.2.1)]
    refine fin1 ?_ hi
    rw [Bool.eq_iff_iff]
    cases x; cases y
    simp only [Bool.and_eq_true, beq_iff_eq, decide_eq_true_eq, SPlayer.mk.injEq]
    first | done | (constructor <;> (intro h; simp_all)) | grind
  · unfold slices_EqualFunc_api_Player_api_Player_api_Player_api_Player_state_samePlayer_B5; rw [if_neg (by simp)]
theorem r17Eq {x y : SEffect} (ho : okSEffect x) : r17_Same x y = some (decide (x = y)) := by
  have ho2 := ho
  unfold okSEffect at ho2
  unfold r17_Same
  simp only [Option.bind_some, gdB, ifA, ifO, bT, bF, aas, Bool.not_not, r17ModsEq (okLen ho2.2.2.2.2.2.2.2.2.1)]
  refine congrArg some ?_
  rw [Bool.eq_iff_iff]
  cases x; cases y
  simp only [Bool.and_eq_true, beq_iff_eq, decide_eq_true_eq, SEffect.mk.injEq]
  first | done | (constructor <;> (intro h; simp_all)) | grind
end Go.PL
