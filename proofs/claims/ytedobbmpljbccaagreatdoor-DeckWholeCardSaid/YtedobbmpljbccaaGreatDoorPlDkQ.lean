/- Plain laws of the deck chapter: DeckWhole. -/
import Derived.Test.YtedobbmpljbccaaGreatDoorPlDkN
namespace Go.PL
open Go
set_option maxRecDepth 100000
set_option linter.all false
set_option maxHeartbeats 1000000
section
variable {l : List SCard} {d : SDeck}
def sumN (d : SDeck) : Nat → Nat
  | 0 => 0
  | k + 1 => sumN d k + (d.Counts.getD k default).toNat
theorem sumN_mono (d : SDeck) {a b : Nat} (h : a ≤ b) : sumN d a ≤ sumN d b := by
  induction b with
  | zero => obtain rfl : a = 0 := by omega
            exact Nat.le_refl _
  | succ b ih =>
    rcases Nat.lt_or_ge a (b + 1) with q | q
    · have := ih (by omega)
      have e : sumN d (b + 1) = sumN d b + (d.Counts.getD b default).toNat := rfl
      omega
    · obtain rfl : a = b + 1 := by omega
      exact Nat.le_refl _
theorem sz_sum (fm : Fm l d) (hn : d.Cards.length ≤ 300) : ∀ k, k ≤ d.Cards.length → szN d.Counts k = (sumN d k : Int) ∧ sumN d k ≤ 250 * k
  | 0, _ => by simp [szN, sumN]
  | k + 1, h => by
    obtain ⟨h1, h2⟩ := sz_sum fm hn k (by omega)
    have hc := fm.count k (by omega)
    unfold szN sumN
    rw [if_pos (by omega), h1, cl_id (x := (sumN d k : Int)) (by omega), cl_id (x := d.Counts.getD k default) (by omega), cl_id (by omega)]
    omega
def lstN (d : SDeck) : Nat → List Int
  | 0 => []
  | k + 1 => lstN d k ++ List.replicate (d.Counts.getD k default).toNat (d.Cards.getD k default)
theorem lstN_len (d : SDeck) : ∀ k, (lstN d k).length = sumN d k
  | 0 => rfl
  | k + 1 => by unfold lstN sumN; simp [lstN_len d k]
theorem rise_lt (fm : Fm l d) {i : Nat} : ∀ {j : Nat}, i < j → j < d.Cards.length → d.Cards.getD i default < d.Cards.getD j default
  | j + 1, h, hj => by
    have h2 := fm.rise (j + 1) hj (by omega)
    simp only [Nat.add_sub_cancel] at h2
    rcases Nat.lt_or_ge i j with q | q
    · have := rise_lt fm q (by omega); omega
    · obtain rfl : i = j := by omega
      exact h2
theorem lst_count (fm : Fm l d) {i : Nat} (hi : i < d.Cards.length) : ∀ k, k ≤ d.Cards.length → (lstN d k).count (d.Cards.getD i default) = if i < k then (d.Counts.getD i default).toNat else 0
  | 0, _ => by simp [lstN]
  | k + 1, h => by
    have ih := lst_count fm hi k (by omega)
    unfold lstN
    rw [List.count_append, ih, List.count_replicate]
    rcases Nat.lt_trichotomy i k with q | q | q
    · have := rise_lt fm q (by omega)
      rw [if_pos q, if_neg (by rw [beq_iff_eq]; omega), if_pos (by omega)]; rfl
    · subst q
      rw [if_neg (by omega), if_pos (by simp), if_pos (by omega)]; omega
    · have := rise_lt fm q hi
      rw [if_neg (by omega), if_neg (by rw [beq_iff_eq]; omega), if_neg (by omega)]
theorem list_in (fm : Fm l d) {i : Nat} (hi : i < d.Cards.length) (acc : List Int) (ha : acc.length + (d.Counts.getD i default).toNat ≤ 250) :
    iter (fun (v : Int × List Int) => deck_List_B17 d (i : Int) v.1 v.2) FU ((0 : Int), acc) = some (acc ++ List.replicate (d.Counts.getD i default).toNat (d.Cards.getD i default)) := by
  have hc := fm.count i hi
  have hlen := fm.len
  refine iter_at (fun j => ((j : Int), acc ++ List.replicate j (d.Cards.getD i default))) (d.Counts.getD i default).toNat (by omega) (fun j hj => ?_) ?_ (by simp)
  · dsimp only
    unfold deck_List_B17
    rw [idx_D (l := d.Counts) (by omega), idx_D hi]
    have e1 : decide ((j : Int) < d.Counts.getD i default) = true := by simp only [decide_eq_true_eq]; omega
    have e2 : decide (((acc ++ List.replicate j (d.Cards.getD i default)).length : Int) < 250) = true := by simp only [List.length_append, List.length_replicate, decide_eq_true_eq]; omega
    simp only [Option.bind_some, e1, e2, if_true]
    rw [app1 (by simp only [List.length_append, List.length_replicate, List.length_cons, List.length_nil]; omega) (by decide)]
    simp only [Option.bind_some, wrapS (i := j) (by omega), List.append_assoc, ← List.replicate_succ']
  · dsimp only
    unfold deck_List_B17
    rw [idx_D (l := d.Counts) (by omega)]
    have e1 : decide ((((d.Counts.getD i default).toNat : Nat) : Int) < d.Counts.getD i default) = false := by simp only [decide_eq_false_iff_not]; omega
    simp only [Option.bind_some, e1, Bool.false_eq_true, if_false]
theorem list_eq (fm : Fm l d) (hn : d.Cards.length ≤ 300) (hs : sumN d d.Cards.length ≤ 250) : deck_List d = some (lstN d d.Cards.length) := by
  have hlen := fm.len
  unfold deck_List
  refine loopA (S := fun i => ((i : Int), lstN d i)) (r := lstN d d.Cards.length) d.Cards.length (by omega) rfl (fun i hi => ?_) ?_ rfl
  · dsimp only
    unfold deck_List_B8
    have h1 := sumN_mono d (show i + 1 ≤ d.Cards.length by omega)
    have h2 : sumN d (i + 1) = sumN d i + (d.Counts.getD i default).toNat := rfl
    have h3 := lstN_len d i
    rw [if_pos (by rw [decide_eq_true_eq]; split <;> omega), list_in fm hi (lstN d i) (by omega)]
    simp only [Option.bind_some, deck_List_J11, wrapS (i := i) (by omega), lstN]
  · dsimp only
    unfold deck_List_B8
    rw [if_neg (by rw [decide_eq_true_eq]; split <;> omega)]
end
theorem count_loop (m : List Int) (c : Int) (hm : m.length ≤ 1000) : iter (fun (v : Int × Int) => law23_DeckWhole_B34 m c v.1 v.2) FU ((0 : Int), (0 : Int)) = some ((m.count c : Nat) : Int) := by
  refine iter_at (s0 := ((0 : Int), (0 : Int))) (fun j => ((((m.take j).count c : Nat) : Int), (j : Int))) m.length (by omega) (fun j hj => ?_) ?_ (by simp)
  · dsimp only
    unfold law23_DeckWhole_B34
    have hle := List.count_le_length (a := c) (l := m.take j)
    have hl : (m.take j).length ≤ m.length := List.length_take_le' _ _
    rw [if_pos (by simpa using hj), idx_nat hj]
    simp only [Option.bind_some, law23_DeckWhole_J37, wrapS (i := j) (by omega), wrapS (i := (m.take j).count c) (by omega)]
    have e : m.take (j + 1) = m.take j ++ [m[j]] := by rw [List.take_succ, List.getElem?_eq_getElem hj]; rfl
    rw [e, List.count_append, List.count_singleton]
    by_cases h : m[j] = c
    · simp [h]
    · have h' : (m[j] == c) = false := by simpa using h
      simp [h']
  · dsimp only
    unfold law23_DeckWhole_B34
    rw [if_neg (by simp), List.take_length]
theorem law_DeckWhole {x : SAsk} (k : lkSAsk x) : law23_DeckWhole x = some true := by
  obtain ⟨b, hb, hs⟩ := small_W k
  unfold law23_DeckWhole
  rw [hb]
  cases b
  · simp [gd, alive23]
  · obtain ⟨vc, h1, h2, h3⟩ := hs rfl
    simp only [Option.bind_some, Bool.not_true, beq_self_eq_true, gd_true, Bool.false_eq_true, if_false, check1 vc h1 h2 h3]
    by_cases h0 : checkS x.Cards x.Deck x.Format = 0
    · rw [h0]
      simp only [bne_self_eq_false, Bool.false_eq_true, if_false]
      unfold checkS at h0
      split at h0
      · rename_i hf
        split at h0
        · cases h0
        · rename_i hz
          split at h0
          · cases h0
          · rename_i hr
            split at h0
            · cases h0
            · rename_i hck
              have fm := fm_of hf
              have hlen := fm.len
              have hz2 := sz_sum fm h1 x.Deck.Cards.length (Nat.le_refl _)
              rw [← hlen] at hz hr
              rw [hz2.1] at hz hr
              have hle := list_eq fm h1 (by omega)
              have hll := lstN_len x.Deck x.Deck.Cards.length
              rw [formed2 (by omega), hf]
              simp only [Option.bind_some, Bool.not_true, Bool.false_eq_true, if_false, hle, size1 h2]
              rw [← hlen, hz2.1, hll]
              have e1 : (((sumN x.Deck x.Deck.Cards.length : Nat) : Int) != ((sumN x.Deck x.Deck.Cards.length : Nat) : Int)) = false := by simp
              have e2 : decide (((sumN x.Deck x.Deck.Cards.length : Nat) : Int) < x.Format.Least) = false := by simp only [decide_eq_false_iff_not]; omega
              have e3 : decide (x.Format.Most < ((sumN x.Deck x.Deck.Cards.length : Nat) : Int)) = false := by simp only [decide_eq_false_iff_not]; omega
              have e4 : decide ((250 : Int) < ((sumN x.Deck x.Deck.Cards.length : Nat) : Int)) = false := by simp only [decide_eq_false_iff_not]; omega
              simp only [e1, e2, e3, e4, Bool.false_eq_true, if_false]
              rw [seekU (p := fun _ => false) x.Deck.Cards.length (by omega) (fun i hi => ?_) ?_]
              · rw [if_neg (by simp)]
                simp only [Option.bind_some, Sum.elim_inr, law23_DeckWhole_J14, alive23]
              · unfold law23_DeckWhole_B18
                rw [if_neg (by simp)]
              · unfold law23_DeckWhole_B18
                have hk := fm_card fm hi
                have hsp := (vc.card _ hk.2).2
                have hcn := fm.count i hi
                rw [if_pos (by simpa using hi), idx_D hi]
                simp only [Option.bind_some]
                rw [count_loop _ _ (by omega), lst_count fm hi _ (Nat.le_refl _), if_pos hi]
                have hck' : chk x.Cards x.Deck x.Format i = false := by
                  cases q : chk x.Cards x.Deck x.Format i
                  · rfl
                  · exact absurd (List.any_eq_true.2 ⟨i, List.mem_range.2 hi, q⟩) hck
                unfold chk at hck'
                simp only [Bool.or_eq_false_iff] at hck'
                have e5 : (((x.Deck.Counts.getD i default).toNat : Nat) : Int) = x.Deck.Counts.getD i default := by omega
                simp only [Option.bind_some, law23_DeckWhole_J23, e5]
                rw [idx_D (l := x.Deck.Counts) (by omega)]
                simp only [Option.bind_some, bne_self_eq_false, beq_self_eq_true, gd_true, hk.1, basic1 hsp, Bool.false_eq_true, if_false]
                have e6 : (if (!basicC (x.Cards.getD (x.Deck.Cards.getD i default).toNat default)) = true then decide (x.Format.Copies < x.Deck.Counts.getD i default) else false) = false := by
                  rw [ifA]; exact hck'.1
                simp only [e6, Bool.false_eq_true, if_false, law23_DeckWhole_J20, wrapS' (i := i) (by omega)]
      · cases h0
    · have e : (checkS x.Cards x.Deck x.Format != 0) = true := by simpa using h0
      rw [e]
      simp only [if_true, alive23, Option.bind_some]
end Go.PL
