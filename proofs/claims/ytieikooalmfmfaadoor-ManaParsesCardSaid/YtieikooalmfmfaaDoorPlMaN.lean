/- Plain law: numbers as texts, num.Number. -/
import Derived.Test.YtieikooalmfmfaaDoorPlMaT
import Derived.Lib.AtoiAll
namespace Go.PL
open Go Go.Lib
set_option maxRecDepth 100000
set_option linter.all false
def clampS (n : Int) : Int := if n > 1000000 then 1000000 else if n < -1000000 then -1000000 else n
theorem clampS_id {n : Int} (h1 : -1000000 ≤ n) (h2 : n ≤ 1000000) : clampS n = n := by unfold clampS; (repeat' split) <;> omega
theorem clampS_eq (n : Int) : r01_Clamp n = some (clampS n) := by
  obtain ⟨r, h1, h2, h3, h4, h5⟩ := clamp_some n
  rw [h1]; unfold clampS
  split
  · rw [h4 (by omega)]
  · split
    · unfold r01_Clamp at h1
      simp [show ¬ (1000000 : Int) < n by omega, show n < -1000000 by omega] at h1
      rw [h1]
    · rw [h5 (by omega) (by omega)]
def isDg (c : UInt8) : Prop := 48 ≤ c.toNat ∧ c.toNat ≤ 57
theorem dg_val (d : Nat) (h : d < 10) : (UInt8.ofNat (48 + d)).toNat = 48 + d := by
  simp [UInt8.toNat_ofNat']; omega
theorem decDigits_dg (u : Nat) : ∀ c ∈ decDigits u, isDg c := by
  induction u using Nat.strongRecOn with
  | _ u ih =>
    rw [decDigits]
    split
    · rename_i h
      intro c hc
      rw [List.mem_singleton] at hc
      subst hc
      unfold isDg
      rw [dg_val u h]
      omega
    · rename_i h
      intro c hc
      rw [List.mem_append] at hc
      rcases hc with hc | hc
      · exact ih (u / 10) (by omega) c hc
      · rw [List.mem_singleton] at hc
        subst hc
        unfold isDg
        rw [dg_val _ (by omega)]
        omega
theorem parse_dec (u : Nat) (hu : u < 1000000000000) (r : List UInt8) : parseUint10 0 (decDigits u ++ r) = parseUint10 u r := by
  induction u using Nat.strongRecOn generalizing r with
  | _ u ih =>
    rw [decDigits]
    split
    · rename_i h
      have := dg_val u h
      rw [List.singleton_append, parseUint10]
      rw [if_pos (by omega), if_neg (by omega), if_neg (by omega)]
      congr 1
      omega
    · rename_i h
      rw [List.append_assoc, ih (u / 10) (by omega) (by omega), List.singleton_append, parseUint10]
      have := dg_val (u % 10) (by omega)
      rw [if_pos (by omega), if_neg (by omega), if_neg (by omega)]
      congr 1
      omega
theorem itoa_dg {v : Int} (h : 0 ≤ v) : itoa v = decDigits v.toNat := by unfold itoa; rw [if_neg (by omega)]
theorem itoa_small {v : Int} (h1 : -1000000 ≤ v) (h2 : v ≤ 1000000) : atoiAll (itoa v) = .ok v := by
  unfold itoa
  split
  · rename_i h
    have hp := parse_dec v.natAbs (by omega) []
    rw [List.append_nil] at hp
    have hne' : decDigits v.natAbs ≠ [] := decDigits_ne _
    simp [atoiAll, parseMag, hne', hp, parseUint10]
    rw [if_neg (by omega)]
    congr 1
    omega
  · rename_i h
    have hp := parse_dec v.toNat (by omega) []
    rw [List.append_nil] at hp
    have hne : decDigits v.toNat ≠ [] := decDigits_ne _
    have hd := decDigits_dg v.toNat
    cases hl : decDigits v.toNat with
    | nil => exact (hne hl).elim
    | cons c l =>
      have hc : isDg c := hd c (by rw [hl]; simp)
      unfold isDg at hc
      have e1 : ¬ (c.toNat = 43 ∨ c.toNat = 45) := by omega
      have e2 : ¬ c.toNat = 45 := by omega
      rw [hl] at hp
      have e3 : ¬ c.toNat = 43 := by omega
      simp [atoiAll, parseMag, hp, parseUint10, e2, e3]
      rw [if_neg (by omega)]
      congr 1
      omega
/-- num.Number, as it is meant. -/
def numS (s : List UInt8) : Int × Bool :=
  match atoiAll s with
  | .ok v => if clampS v = v ∧ itoa v = s then (v, true) else (0, false)
  | _ => (0, false)
theorem numS_itoa {v : Int} (h1 : -1000000 ≤ v) (h2 : v ≤ 1000000) : numS (itoa v) = (v, true) := by
  unfold numS
  rw [itoa_small h1 h2]
  simp [clampS_id h1 h2]
theorem atoiAll_bd {s : List UInt8} {v : Int} (h : Lib.atoiAll s = .ok v) : -9223372036854775808 ≤ v ∧ v ≤ 9223372036854775807 := by
  unfold Lib.atoiAll at h
  split at h
  · cases h
  · simp only at h
    split at h
    · cases h
    · cases h
    · split at h
      · cases h
      · split at h
        · cases h
        · injection h with h
          split at h <;> omega
theorem gd_tf {α : Type} [Inhabited α] (o : Option α) : gd (true == false) o = some default := gd_false o
theorem numS_nil : numS [] = (0, false) := by decide
theorem number_eq {s : List UInt8} (hs : s.length ≤ 281474976710656) : num_Number s = some (numS s) := by
  unfold num_Number numS
  rcases h : atoiAll s with v | _ | _
  · have hv := atoiAll_bd h
    have e : dAtoiV s = some v := by unfold dAtoiV; rw [if_pos hs, h]
    rw [e]
    simp only [num_NumberV, e, Option.bind_some, beq_self_eq_true, gd_true, clamp_eq, clampS_eq, Bool.false_eq_true, if_false]
    by_cases hc : v = clampS v
    · have hb : (v != clampS v) = false := by rw [← hc]; simp
      rw [hb]
      simp only [beq_self_eq_true, gd_true, ntext_itoa hv.1 hv.2, Option.bind_some, Bool.false_eq_true, if_false]
      by_cases hi : itoa v = s
      · rw [if_neg (by simp [hi]), if_pos ⟨hc.symm, hi⟩]
      · rw [if_pos (by simpa using hi), if_neg (fun q => hi q.2)]
    · have hb : (v != clampS v) = true := by simpa using hc
      rw [hb]
      simp only [gd_tf, if_true, Option.bind_some]
      rw [if_neg (fun q => hc q.1.symm)]
  · have e : dAtoiV s = none := by unfold dAtoiV; rw [if_pos hs, h]
    have e2 : dAtoiB s = some 0 := by unfold dAtoiB; rw [if_pos hs, h]
    rw [e]
    simp only [num_NumberB, e2, Option.bind_some]
    rfl
  · have e : dAtoiV s = none := by unfold dAtoiV; rw [if_pos hs, h]
    have e2 : dAtoiB s = some (atoiSat s) := by unfold dAtoiB; rw [if_pos hs, h]
    rw [e]
    simp only [num_NumberB, e2, Option.bind_some]
    rfl
end Go.PL
