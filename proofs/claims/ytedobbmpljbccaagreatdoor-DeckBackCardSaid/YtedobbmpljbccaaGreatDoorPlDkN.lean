/- Plain laws of the deck chapter: DeckChecks, DeckTexts, and the way back. -/
import Derived.Test.YtedobbmpljbccaaGreatDoorPlDkM
namespace Go.PL
open Go Go.Lib
set_option maxRecDepth 100000
set_option linter.all false
set_option maxHeartbeats 1000000
section
variable {l : List SCard} {d : SDeck}
/-- The line without its end. -/
def lnS (l : List SCard) (d : SDeck) (i : Nat) : List UInt8 := itoa (d.Counts.getD i default) ++ 32 :: (l.getD (d.Cards.getD i default).toNat default).Name
def txtN (l : List SCard) (d : SDeck) (k : Nat) : List UInt8 := ((List.range k).map (lnS l d)).flatMap fun x => x ++ [10]
theorem txtN_succ (k : Nat) : txtN l d (k + 1) = txtN l d k ++ (lnS l d k ++ [10]) := by
  unfold txtN; rw [List.range_succ, List.map_append, List.flatMap_append]; simp
theorem name_facts (kl : lkL 176 lkSCard l) (vc : VC l) {i : Nat} (hi : i < l.length) : 1 ≤ (l.getD i default).Name.length ∧ (l.getD i default).Name.length ≤ 32 ∧ ∀ c ∈ (l.getD i default).Name, c ≠ 10 ∧ c ≠ 32 := by
  have kc : lkSCard (l.getD i default) := lkL_mem kl (getD_mem hi)
  exact is_facts (lkSCard_Name kc) (vc.card i hi).1
theorem itoa_c {n : Int} (h : 1 ≤ n ∧ n ≤ 250) : 1 ≤ (itoa n).length ∧ (itoa n).length ≤ 21 ∧ ∀ c ∈ itoa n, c ≠ 10 ∧ c ≠ 32 := by
  refine ⟨?_, itoa_le (by omega) (by omega), ?_⟩
  · rw [itoa_dg (by omega)]
    exact List.length_pos_iff.2 (decD_ne _)
  · rw [itoa_dg (by omega)]
    intro c hc
    have := decDigits_dg _ c hc
    unfold isDg at this
    exact ⟨fun e => by subst e; exact absurd this.1 (by decide), fun e => by subst e; exact absurd this.1 (by decide)⟩
theorem ln_len (kl : lkL 176 lkSCard l) (vc : VC l) (fm : Fm l d) {i : Nat} (hi : i < d.Cards.length) : (lnS l d i).length ≤ 54 := by
  have h1 := name_facts kl vc (fm_card fm hi).2
  have h2 := itoa_c (fm.count i hi)
  unfold lnS
  simp only [List.length_append, List.length_cons]
  omega
theorem txt_len (kl : lkL 176 lkSCard l) (vc : VC l) (fm : Fm l d) : ∀ k, k ≤ d.Cards.length → (txtN l d k).length ≤ 55 * k
  | 0, _ => by simp [txtN]
  | k + 1, h => by
    have h1 := txt_len kl vc fm k (by omega)
    have h2 := ln_len kl vc fm (i := k) (by omega)
    rw [txtN_succ]
    simp only [List.length_append, List.length_cons, List.length_nil]
    omega
theorem ntext {n : Int} (h : 1 ≤ n ∧ n ≤ 250) : num_Text n = some (itoa n) := by
  unfold num_Text dItoa
  rw [if_pos (by omega)]; rfl
theorem cat' {a b : List UInt8} (h : a.length + b.length ≤ 1000000) : cat a b = some (a ++ b) := cat_some (by unfold maxLen; omega)
theorem text1 (kl : lkL 176 lkSCard l) (vc : VC l) (fm : Fm l d) (hn : d.Cards.length ≤ 300) (hf : formedS l d = true) : deck_Text l d = some (txtN l d d.Cards.length) := by
  unfold deck_Text
  rw [formed1 (by omega), hf]
  simp only [Option.bind_some, Bool.not_true, Bool.false_eq_true, if_false]
  by_cases h0 : d.Cards.length = 0
  · rw [if_pos (by simpa using h0), h0]; rfl
  · rw [if_neg (by simpa using h0)]
    refine loopA (S := fun i => ((i : Int), txtN l d i)) (r := txtN l d d.Cards.length) d.Cards.length (by omega) rfl (fun i hi => ?_) ?_ rfl
    · dsimp only
      unfold deck_Text_B
      have hk := fm_card fm hi
      have hc := fm.count i hi
      have h1 := name_facts kl vc hk.2
      have h2 := itoa_c hc
      have h3 := txt_len kl vc fm i (by omega)
      rw [if_pos (by simpa using hi), idx_D hi, idx_D (l := d.Counts) (i := i) (by have := fm.len; omega)]
      simp only [Option.bind_some, ntext hc]
      rw [cat' (by have : str_x20.length = 1 := rfl; omega)]
      simp only [Option.bind_some, hk.1]
      rw [cat' (by have : str_x20.length = 1 := rfl; simp only [List.length_append]; omega)]
      simp only [Option.bind_some]
      rw [cat' (by have : str_x20.length = 1 := rfl; have : str_x0a.length = 1 := rfl; simp only [List.length_append]; omega)]
      simp only [Option.bind_some]
      rw [need_some (by have : str_x20.length = 1 := rfl; have : str_x0a.length = 1 := rfl; simp only [List.length_append]; omega)]
      simp only [Option.bind_some, wrapS (i := i) (by omega), txtN_succ, lnS, str_x20, str_x0a, List.append_assoc, List.singleton_append, List.cons_append, List.nil_append]
    · dsimp only
      unfold deck_Text_B
      rw [if_neg (by simp), need_some]
      · rfl
      · obtain ⟨k, hk⟩ : ∃ k, d.Cards.length = k + 1 := ⟨d.Cards.length - 1, by omega⟩
        rw [hk, txtN_succ]; simp
theorem text0 (h : formedS l d = false) (hn : d.Cards.length ≤ 300) : deck_Text l d = some [] ∧ r23_Text l d = some [] := by
  unfold deck_Text r23_Text
  rw [formed1 (by omega), formed2 (by omega), h]
  exact ⟨rfl, rfl⟩
end
/-! The laws. -/
theorem small_W {x : SAsk} (k : lkSAsk x) : W (law23_small x) (fun r => r = true → VC x.Cards ∧ x.Deck.Cards.length ≤ 300 ∧ x.Deck.Counts.length ≤ 300 ∧ x.Format.Banned.length ≤ 100) := by
  unfold law23_small
  refine W.lt (fun b1 h1 => ?_)
  refine W.lt (fun b2 h2 => ?_)
  refine W.lt (fun b3 h3 => ?_)
  refine W.if (fun _ => W.rt (fun h => by cases h)) (fun hh => ?_)
  simp only [h1, h2, h3, bz] at hh
  refine W.bd (valid_W (lkSAsk_Cards k)) (fun r hr => W.rt (fun h => ⟨hr h, by omega, by omega, by omega⟩))
end Go.PL
