/- Plain law: numbers as texts. -/
import Derived.Test.YtkbcgcmklmelbaaDoorPlR
import Derived.Lib.ItoaNum
import Derived.Lib.AtoiAll
namespace Go.PL
open Go Go.Lib

def clampS (n : Int) : Int := if n > 1000000 then 1000000 else if n < -1000000 then -1000000 else n
theorem clampS_bd (n : Int) : -1000000 ≤ clampS n ∧ clampS n ≤ 1000000 := by unfold clampS; (repeat' split) <;> omega
theorem clampS_id {n : Int} (h1 : -1000000 ≤ n) (h2 : n ≤ 1000000) : clampS n = n := by unfold clampS; (repeat' split) <;> omega

def isDg (c : UInt8) : Prop := 48 ≤ c.toNat ∧ c.toNat ≤ 57
theorem dg_val (d : Nat) (h : d < 10) : (UInt8.ofNat (48 + d)).toNat = 48 + d := by
  simp [UInt8.toNat_ofNat']; omega

theorem decDigits_dg (u : Nat) : ∀ c ∈ decDigits u, isDg c := by
  induction u using Nat.strongRecOn with
  | _ u ih =>
    rw [decDigits]
    split
    · rename_i h
      intro c hc
      rw [List.mem_singleton] at hc
      subst hc
      unfold isDg
      rw [dg_val u h]
      omega
    · rename_i h
      intro c hc
      rw [List.mem_append] at hc
      rcases hc with hc | hc
      · exact ih (u / 10) (by omega) c hc
      · rw [List.mem_singleton] at hc
        subst hc
        unfold isDg
        rw [dg_val _ (by omega)]
        omega
theorem decDigits_ne (u : Nat) : 1 ≤ (decDigits u).length := by rw [decDigits]; split <;> simp
theorem decDigits_le (k u : Nat) (h : u < 10 ^ (k + 1)) : (decDigits u).length ≤ k + 1 := by
  induction k generalizing u with
  | zero => rw [decDigits, dif_pos (by omega)]; simp
  | succ k ih =>
    rw [decDigits]
    split
    · simp
    · have := ih (u / 10) (by rw [Nat.pow_succ] at h; omega)
      simp; omega

/-- What digits spell, behind what was spelled before. -/
def valF (a : Int) (l : List UInt8) : Int := l.foldl (fun a c => a * 10 + ((c.toNat : Int) - 48)) a
theorem valF_append (a : Int) (l m : List UInt8) : valF a (l ++ m) = valF (valF a l) m := by simp [valF]
theorem valF_dec (u : Nat) : valF 0 (decDigits u) = u := by
  induction u using Nat.strongRecOn with
  | _ u ih =>
    rw [decDigits]
    split
    · rename_i h
      have := dg_val u h
      simp only [valF, List.foldl_cons, List.foldl_nil]
      omega
    · rename_i h
      rw [valF_append, ih (u / 10) (by omega)]
      have := dg_val (u % 10) (by omega)
      simp only [valF, List.foldl_cons, List.foldl_nil]
      omega

theorem parse_dec (u : Nat) (hu : u < 1000000000000) (r : List UInt8) : parseUint10 0 (decDigits u ++ r) = parseUint10 u r := by
  induction u using Nat.strongRecOn generalizing r with
  | _ u ih =>
    rw [decDigits]
    split
    · rename_i h
      have := dg_val u h
      rw [List.singleton_append, parseUint10]
      rw [if_pos (by omega), if_neg (by omega), if_neg (by omega)]
      congr 1
      omega
    · rename_i h
      rw [List.append_assoc, ih (u / 10) (by omega) (by omega), List.singleton_append, parseUint10]
      have := dg_val (u % 10) (by omega)
      rw [if_pos (by omega), if_neg (by omega), if_neg (by omega)]
      congr 1
      omega

theorem itoa_small {v : Int} (h1 : -1000000 ≤ v) (h2 : v ≤ 1000000) : atoiAll (itoa v) = .ok v := by
  unfold itoa
  split
  · rename_i h
    have hp := parse_dec v.natAbs (by omega) []
    rw [List.append_nil] at hp
    have hne := decDigits_ne v.natAbs
    have hne' : decDigits v.natAbs ≠ [] := by intro q; rw [q] at hne; simp at hne
    simp [atoiAll, parseMag, hne', hp, parseUint10]
    rw [if_neg (by omega)]
    congr 1
    omega
  · rename_i h
    have hp := parse_dec v.toNat (by omega) []
    rw [List.append_nil] at hp
    have hne := decDigits_ne v.toNat
    have hd := decDigits_dg v.toNat
    cases hl : decDigits v.toNat with
    | nil => rw [hl] at hne; simp at hne
    | cons c l =>
      have hc : isDg c := hd c (by rw [hl]; simp)
      unfold isDg at hc
      have e1 : ¬ (c.toNat = 43 ∨ c.toNat = 45) := by omega
      have e2 : ¬ c.toNat = 45 := by omega
      rw [hl] at hp
      have e3 : ¬ c.toNat = 43 := by omega
      simp [atoiAll, parseMag, hp, parseUint10, e2, e3]
      rw [if_neg (by omega)]
      congr 1
      omega

/-- num.Number, as it is meant. -/
def numS (s : List UInt8) : Int × Bool :=
  match atoiAll s with
  | .ok v => if clampS v = v ∧ itoa v = s then (v, true) else (0, false)
  | _ => (0, false)
theorem numS_of {v : Int} {s : List UInt8} (h1 : clampS v = v) (h2 : itoa v = s) : numS s = (v, true) := by
  subst h2
  have := clampS_bd v
  unfold numS
  rw [itoa_small (by omega) (by omega)]
  simp [h1]
theorem numS_or (s : List UInt8) : numS s = (0, false) ∨ ∃ v, numS s = (v, true) ∧ clampS v = v ∧ itoa v = s := by
  unfold numS
  split
  · split
    · rename_i h; exact .inr ⟨_, rfl, h.1, h.2⟩
    · exact .inl rfl
  · exact .inl rfl

def sgn (s : List UInt8) : Nat := if s.head?.map (·.toNat) = some 45 then 1 else 0
theorem itoa_shape {v : Int} (h : clampS v = v) : sgn (itoa v) < (itoa v).length ∧ (itoa v).length ≤ sgn (itoa v) + 7 ∧ (∀ c ∈ (itoa v).drop (sgn (itoa v)), isDg c) ∧
    v = (if sgn (itoa v) = 1 then - valF 0 ((itoa v).drop (sgn (itoa v))) else valF 0 ((itoa v).drop (sgn (itoa v)))) := by
  have hb := clampS_bd v
  rw [h] at hb
  unfold itoa
  split
  · rename_i hn
    have h1 := decDigits_ne v.natAbs
    have h2 := decDigits_le 6 v.natAbs (by omega)
    have h3 := decDigits_dg v.natAbs
    have h4 := valF_dec v.natAbs
    have e : sgn (45 :: decDigits v.natAbs) = 1 := by simp [sgn]
    rw [e]
    simp only [List.length_cons, List.drop_succ_cons, List.drop_zero, if_true]
    refine ⟨by omega, by omega, h3, ?_⟩
    rw [h4]; omega
  · rename_i hn
    have h1 := decDigits_ne v.toNat
    have h2 := decDigits_le 6 v.toNat (by omega)
    have h3 := decDigits_dg v.toNat
    have h4 := valF_dec v.toNat
    have e : sgn (decDigits v.toNat) = 0 := by
      cases hl : decDigits v.toNat with
      | nil => rfl
      | cons c l =>
        have hc : isDg c := h3 c (by rw [hl]; simp)
        unfold isDg at hc
        simp [sgn]
        intro q
        have : c.toNat = 45 := by rw [q]
        omega
    rw [e]
    simp only [List.drop_zero]
    refine ⟨by omega, by omega, h3, ?_⟩
    simp [h4]
    try omega
end Go.PL
