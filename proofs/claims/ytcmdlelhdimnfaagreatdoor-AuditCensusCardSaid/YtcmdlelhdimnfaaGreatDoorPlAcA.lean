/- Plain laws of the audit: insertion in a list. -/
import Derived.Test.YtcmdlelhdimnfaaGreatDoorPlPvtoPlPd
import Derived.Test.YtcmdlelhdimnfaaGreatDoorPlPvtoPlPd
namespace Go.PL
open Go
set_option linter.all false
def cntLe (x : Int) : List Int → Nat
  | [] => 0
  | a :: l => if a ≤ x then cntLe x l + 1 else 0
theorem cntLe_le (x : Int) : ∀ l, cntLe x l ≤ l.length
  | [] => Nat.le_refl _
  | a :: l => by
    have := cntLe_le x l
    unfold cntLe
    split
    · simp; exact this
    · simp
theorem insI_take (x : Int) : ∀ l, insI x l = l.take (cntLe x l) ++ x :: l.drop (cntLe x l)
  | [] => rfl
  | a :: l => by
    have := insI_take x l
    unfold insI cntLe
    split
    · rw [this]; rfl
    · rfl
theorem cntLe_lt (x : Int) : ∀ (l : List Int) (i : Nat) (h : i < l.length), i < cntLe x l → l[i] ≤ x
  | a :: l, i, h, hi => by
    unfold cntLe at hi
    split at hi
    · rename_i ha
      cases i with
      | zero => exact ha
      | succ i => exact cntLe_lt x l i (by simpa using h) (by omega)
    · omega
theorem cntLe_at (x : Int) : ∀ (l : List Int) (h : cntLe x l < l.length), ¬ l[cntLe x l] ≤ x
  | a :: l, h => by
    by_cases ha : a ≤ x
    · have e : cntLe x (a :: l) = cntLe x l + 1 := by rw [cntLe, if_pos ha]
      have h' : cntLe x l < l.length := by rw [e] at h; simpa using h
      have := cntLe_at x l h'
      simpa [e] using this
    · have e : cntLe x (a :: l) = 0 := by rw [cntLe, if_neg ha]
      simpa [e] using ha
theorem srtG_app : ∀ (l m acc : List Int), srtG acc (l ++ m) = srtG (srtG acc l) m
  | [], _, _ => rfl
  | x :: l, m, acc => srtG_app l m (insI x acc)
theorem srtI_snoc (l : List Int) (x : Int) : srtI (l ++ [x]) = insI x (srtI l) := srtG_app l [x] []
/-- A loop that asks the same of each index. -/
theorem allK {p : Nat → Bool} {B : Int → Option (Int ⊕ (Unit ⊕ Unit))} {K a : Option Bool} (n : Nat) (hn : n < 9223372036854775807)
    (hB : ∀ i : Nat, i < n → B (i : Int) = some (if p i = true then .inl ((i : Int) + 1) else .inr (.inr ()))) (hE : B (n : Int) = some (.inr (.inl ()))) :
    (iter B FU 0).bind (Sum.elim (fun _ => K) (fun _ => a)) = if (List.range n).all p = true then K else a := by
  have key : ∀ (k i N : Nat), i + k = n → k < N → (iter B N (i : Int)).bind (Sum.elim (fun _ => K) (fun _ => a)) = if (List.range' i k).all p = true then K else a := by
    intro k
    induction k with
    | zero =>
      intro i N hi hN
      obtain ⟨N, rfl⟩ : ∃ M, N = M + 1 := ⟨N - 1, by omega⟩
      obtain rfl : i = n := by omega
      rw [iter_end hE]; rfl
    | succ k ih =>
      intro i N hi hN
      obtain ⟨N, rfl⟩ : ∃ M, N = M + 1 := ⟨N - 1, by omega⟩
      have h := hB i (by omega)
      rw [List.range'_succ, List.all_cons]
      cases hp : p i
      · rw [hp, if_neg (by simp)] at h
        rw [iter_end h]; simp
      · rw [hp, if_pos rfl] at h
        rw [iter_go h, Bool.true_and]
        have := ih (i + 1) N (by omega) (by omega)
        rw [show ((i + 1 : Nat) : Int) = (i : Int) + 1 by omega] at this
        exact this
  have := key n 0 FU (by omega) (by unfold FU; omega)
  rw [List.range_eq_range']
  simpa using this
end Go.PL
