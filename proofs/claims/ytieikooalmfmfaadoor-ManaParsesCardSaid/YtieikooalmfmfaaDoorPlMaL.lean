/- Plain laws of the mana chapter: ManaTexts, ManaPaysAs, ManaPays. -/
import Derived.Test.YtieikooalmfmfaaDoorPlRtoPlPd
import Derived.Test.YtieikooalmfmfaaDoorPlMaF5
namespace Go.PL
open Go
set_option maxRecDepth 100000
set_option linter.all false
theorem alive8 : law08_alive = some true := by kernel_rfl
def KU : Nat := 9223372036854775800
theorem FU7 : FU = KU + 1 + 1 + 1 + 1 + 1 + 1 + 1 := rfl
/-! Is, Whole. -/
def bad (m n : Int) : Bool := if decide (n < 0) = true then true else decide (m < n)
theorem bad_f {m n : Int} : bad m n = false ↔ 0 ≤ n ∧ n ≤ m := by
  unfold bad
  by_cases h : n < 0 <;> simp [h] <;> omega
def colB (c : SCost) : Bool := bad 9 c.Color.x0 || (bad 9 c.Color.x1 || (bad 9 c.Color.x2 || (bad 9 c.Color.x3 || bad 9 c.Color.x4)))
def isS (c : SCost) : Bool := !colB c && (decide (0 ≤ c.Generic) && (decide (c.Generic ≤ 99) && (decide (0 ≤ c.X) && decide (c.X ≤ 2))))
theorem isB0 (c : SCost) : mana_Is_B7 c 0 = (if bad 9 c.Color.x0 = true then some (.inr (.inl ())) else some (.inl 1)) := by kernel_rfl
theorem isB1 (c : SCost) : mana_Is_B7 c 1 = (if bad 9 c.Color.x1 = true then some (.inr (.inl ())) else some (.inl 2)) := by kernel_rfl
theorem isB2 (c : SCost) : mana_Is_B7 c 2 = (if bad 9 c.Color.x2 = true then some (.inr (.inl ())) else some (.inl 3)) := by kernel_rfl
theorem isB3 (c : SCost) : mana_Is_B7 c 3 = (if bad 9 c.Color.x3 = true then some (.inr (.inl ())) else some (.inl 4)) := by kernel_rfl
theorem isB4 (c : SCost) : mana_Is_B7 c 4 = (if bad 9 c.Color.x4 = true then some (.inr (.inl ())) else some (.inl 5)) := by kernel_rfl
theorem isB5 (c : SCost) : mana_Is_B7 c 5 = some (.inr (.inr ())) := by kernel_rfl
theorem is_loop (c : SCost) : iter (fun (v : Int) => mana_Is_B7 c v) FU 0 = some (if colB c = true then .inl () else .inr ()) := by
  rw [FU7]
  unfold colB
  cases h0 : bad 9 c.Color.x0
  · cases h1 : bad 9 c.Color.x1
    · cases h2 : bad 9 c.Color.x2
      · cases h3 : bad 9 c.Color.x3
        · cases h4 : bad 9 c.Color.x4
          · simp [iter, isB0, isB1, isB2, isB3, isB4, isB5, h0, h1, h2, h3, h4]
          · simp [iter, isB0, isB1, isB2, isB3, isB4, h0, h1, h2, h3, h4]
        · simp [iter, isB0, isB1, isB2, isB3, h0, h1, h2, h3]
      · simp [iter, isB0, isB1, isB2, h0, h1, h2]
    · simp [iter, isB0, isB1, h0, h1]
  · simp [iter, isB0, h0]
theorem isS_eq (c : SCost) : mana_Is c = some (isS c) := by
  unfold mana_Is isS
  rw [is_loop]
  cases colB c
  · simp only [mana_Is_J1, Option.bind_some, Sum.elim_inr, Bool.false_eq_true, if_false, Bool.not_false, Bool.true_and]
    by_cases h1 : 0 ≤ c.Generic <;> by_cases h2 : c.Generic ≤ 99 <;> by_cases h3 : 0 ≤ c.X <;> simp [h1, h2, h3]
  · rfl
theorem rb (m e : Int) : (if decide (e < (0 : Int)) = true then true else decide (m < e)) = bad m e := rfl
theorem rbg {β : Type} (m e : Int) (o : Option Int) (f : Bool → Option β) (ho : o = some e) : ((gd ((decide (e < (0 : Int))) == false) o).bind fun e11 => (some (if (decide (e < (0 : Int))) = true then true else decide (m < e11))).bind f) = f (bad m e) := by
  subst ho
  by_cases h : e < 0
  · simp [gd, h, bad]
  · simp [gd, h, bad]
theorem rIs (c : SCost) (k : Int) (e : Int) (hk : k < 5) (h : idx c.Color.l k = some e) : r08_Is_B8 c k = (if bad 9 e = true then some (.inr (.inl ())) else some (.inl (wrap64 (k + 1)))) := by
  unfold r08_Is_B8
  rw [if_pos (by simpa using hk), h, Option.bind_some]
  exact rbg 9 e _ _ rfl
theorem rIs0 (c : SCost) : r08_Is_B8 c 0 = (if bad 9 c.Color.x0 = true then some (.inr (.inl ())) else some (.inl 1)) := rIs c 0 _ (by omega) (by kernel_rfl)
theorem rIs1 (c : SCost) : r08_Is_B8 c 1 = (if bad 9 c.Color.x1 = true then some (.inr (.inl ())) else some (.inl 2)) := rIs c 1 _ (by omega) (by kernel_rfl)
theorem rIs2 (c : SCost) : r08_Is_B8 c 2 = (if bad 9 c.Color.x2 = true then some (.inr (.inl ())) else some (.inl 3)) := rIs c 2 _ (by omega) (by kernel_rfl)
theorem rIs3 (c : SCost) : r08_Is_B8 c 3 = (if bad 9 c.Color.x3 = true then some (.inr (.inl ())) else some (.inl 4)) := rIs c 3 _ (by omega) (by kernel_rfl)
theorem rIs4 (c : SCost) : r08_Is_B8 c 4 = (if bad 9 c.Color.x4 = true then some (.inr (.inl ())) else some (.inl 5)) := rIs c 4 _ (by omega) (by kernel_rfl)
theorem rIs5 (c : SCost) : r08_Is_B8 c 5 = some (.inr (.inr ())) := by kernel_rfl
theorem rIs_loop (c : SCost) : iter (fun (v : Int) => r08_Is_B8 c v) FU 0 = some (if colB c = true then .inl () else .inr ()) := by
  rw [FU7]
  unfold colB
  cases h0 : bad 9 c.Color.x0
  · cases h1 : bad 9 c.Color.x1
    · cases h2 : bad 9 c.Color.x2
      · cases h3 : bad 9 c.Color.x3
        · cases h4 : bad 9 c.Color.x4
          · simp [iter, rIs0, rIs1, rIs2, rIs3, rIs4, rIs5, h0, h1, h2, h3, h4]
          · simp [iter, rIs0, rIs1, rIs2, rIs3, rIs4, h0, h1, h2, h3, h4]
        · simp [iter, rIs0, rIs1, rIs2, rIs3, h0, h1, h2, h3]
      · simp [iter, rIs0, rIs1, rIs2, h0, h1, h2]
    · simp [iter, rIs0, rIs1, h0, h1]
  · simp [iter, rIs0, h0]
theorem rIsS_eq (c : SCost) : r08_Is c = some (isS c) := by
  unfold r08_Is isS
  rw [rIs_loop]
  by_cases h1 : c.Generic < 0 <;> by_cases h2 : 99 < c.Generic <;> by_cases h3 : c.X < 0 <;> by_cases h4 : 2 < c.X <;>
    simp [h1, h2, h3, h4, show (0 ≤ c.Generic) = ¬ (c.Generic < 0) from by simp, show (c.Generic ≤ 99) = ¬ (99 < c.Generic) from by simp, show (0 ≤ c.X) = ¬ (c.X < 0) from by simp, show (c.X ≤ 2) = ¬ (2 < c.X) from by simp, r08_Is_J5] <;> cases colB c <;> rfl
structure Ok (c : SCost) : Prop where
  c0 : 0 ≤ c.Color.x0 ∧ c.Color.x0 ≤ 9
  c1 : 0 ≤ c.Color.x1 ∧ c.Color.x1 ≤ 9
  c2 : 0 ≤ c.Color.x2 ∧ c.Color.x2 ≤ 9
  c3 : 0 ≤ c.Color.x3 ∧ c.Color.x3 ≤ 9
  c4 : 0 ≤ c.Color.x4 ∧ c.Color.x4 ≤ 9
  g : 0 ≤ c.Generic ∧ c.Generic ≤ 99
  x : 0 ≤ c.X ∧ c.X ≤ 2
theorem isS_ok {c : SCost} (h : isS c = true) : Ok c := by
  unfold isS at h
  simp only [Bool.and_eq_true, Bool.not_eq_true', decide_eq_true_eq] at h
  obtain ⟨h1, h2, h3, h4, h5⟩ := h
  unfold colB at h1
  simp only [Bool.or_eq_false_iff, bad_f] at h1
  obtain ⟨a, b, c', d, e⟩ := h1
  exact ⟨a, b, c', d, e, ⟨h2, h3⟩, ⟨h4, h5⟩⟩
/-! Numbers. -/
theorem clamp_eq (a : Int) : num_Clamp a = r01_Clamp a := by
  unfold num_Clamp r01_Clamp
  by_cases h1 : a < -1000000 <;> by_cases h2 : (1000000 : Int) < a <;> simp [h1, h2] <;> omega
theorem clamp_some (a : Int) : ∃ r, r01_Clamp a = some r ∧ -1000000 ≤ r ∧ r ≤ 1000000 ∧ (1000000 ≤ a → r = 1000000) ∧ (-1000000 ≤ a → a ≤ 1000000 → r = a) := by
  unfold r01_Clamp
  by_cases h2 : (1000000 : Int) < a
  · exact ⟨1000000, by simp [h2], by omega, by omega, fun _ => rfl, fun _ _ => by omega⟩
  · by_cases h1 : a < -1000000
    · exact ⟨-1000000, by simp [h1, h2], by omega, by omega, fun _ => by omega, fun _ _ => by omega⟩
    · exact ⟨a, by simp [h1, h2], by omega, by omega, fun _ => by omega, fun _ _ => rfl⟩
/-! Value. -/
end Go.PL
