/- Plain laws of the deck chapter: DeckBack. -/
import Derived.Test.YtedobbmpljbccaaGreatDoorPlDkN
namespace Go.PL
open Go Go.Lib
set_option maxRecDepth 100000
set_option linter.all false
set_option maxHeartbeats 1000000
theorem num1 {n : Int} (h : 1 ≤ n ∧ n ≤ 250) : num_Number (itoa n) = some (n, true) := by
  have e : dAtoiV (itoa n) = some n := by
    unfold dAtoiV
    have := itoa_le (n := n) (by omega) (by omega)
    rw [if_pos (by omega), itoa_small (by omega) (by omega)]
  have hc : cl n = n := cl_id (by omega)
  unfold num_Number
  rw [e]
  simp only [num_NumberV, e, Option.bind_some, beq_self_eq_true, gd_true, cl1, hc, ntext h, bne_self_eq_false, Bool.false_eq_true, if_false]
/-! Lines. -/
theorem lines_loop (s : List UInt8) (hs : s.length ≤ 65536) : ∀ (k i b : Nat) (acc : List (List UInt8)) (N : Nat), i + k = s.length → k < N → b ≤ i → acc.length ≤ i →
    iter (fun (v : Int × Int × List (List UInt8)) => word_Lines_B13 s v.1 v.2.1 v.2.2) N ((b : Int), (i : Int), acc) = some (acc ++ linesOf (s.drop i) ((s.drop b).take (i - b)))
  | 0, i, b, acc, N + 1, hi, _, hb, ha => by
    obtain rfl : i = s.length := by omega
    refine iter_end ?_
    dsimp only
    unfold word_Lines_B13
    rw [if_neg (by simp), List.drop_length]
    simp [linesOf]
  | k + 1, i, b, acc, N + 1, hi, hN, hb, ha => by
    have hil : i < s.length := by omega
    have hc : sidx s (i : Int) = some ((s.getD i 0).toNat : Int) := by unfold sidx; rw [if_pos (by omega)]; rfl
    have hg : s.getD i 0 = s[i] := by rw [List.getD_eq_getElem?_getD, List.getElem?_eq_getElem hil]; rfl
    have hd : s.drop i = s[i] :: s.drop (i + 1) := List.drop_eq_getElem_cons hil
    by_cases h10 : s[i] = 10
    · have hB : word_Lines_B13 s (b : Int) (i : Int) acc = some (.inl (((i + 1 : Nat) : Int), ((i + 1 : Nat) : Int), acc ++ [(s.drop b).take (i - b)])) := by
        unfold word_Lines_B13
        rw [if_pos (by simpa using hil), hc]
        simp only [Option.bind_some]
        rw [hg, h10, if_neg (by decide)]
        have hss : ssub s (b : Int) (i : Int) = some ((s.drop b).take (i - b)) := by
          unfold ssub
          rw [if_pos (by omega)]
          simp only [Int.toNat_natCast]
        rw [hss]
        simp only [Option.bind_some]
        rw [app1 (by simp only [List.length_cons, List.length_nil]; omega) (by decide)]
        simp only [Option.bind_some, word_Lines_J17, wrapS (i := i) (by omega)]
      rw [iter_go (s' := (((i + 1 : Nat) : Int), ((i + 1 : Nat) : Int), acc ++ [(s.drop b).take (i - b)])) hB, lines_loop s hs k (i + 1) (i + 1) _ N (by omega) (by omega) (by omega) (by simp; omega)]
      rw [hd, linesOf, if_pos h10]
      simp
    · have hB : word_Lines_B13 s (b : Int) (i : Int) acc = some (.inl ((b : Int), ((i + 1 : Nat) : Int), acc)) := by
        unfold word_Lines_B13
        rw [if_pos (by simpa using hil), hc]
        simp only [Option.bind_some]
        rw [hg, if_pos (by
          simp only [bne_iff_ne, ne_eq]
          intro e
          exact h10 (UInt8.toNat_inj.1 (show s[i].toNat = 10 by omega)))]
        simp only [word_Lines_J17, wrapS (i := i) (by omega)]
      rw [iter_go (s' := ((b : Int), ((i + 1 : Nat) : Int), acc)) hB, lines_loop s hs k (i + 1) b _ N (by omega) (by omega) (by omega) (by omega)]
      rw [hd, linesOf, if_neg h10]
      congr 3
      have : i + 1 - b = (i - b) + 1 := by omega
      rw [this, List.take_succ]
      congr 1
      have hx : b + (i - b) = i := by omega
      simp [List.getElem?_drop, hx, List.getElem?_eq_getElem hil]
theorem lines_eq {s : List UInt8} (hs : s.length ≤ 65536) (h : s = [] ∨ s.getLast? = some 10) : word_Lines s = some (linesOf s [], true) := by
  unfold word_Lines
  by_cases h0 : s = []
  · subst h0; rfl
  · rw [if_neg (by simpa using h0)]
    have hp : 0 < s.length := List.length_pos_iff.2 h0
    have hl := h.resolve_left h0
    have e : wrap64 ((s.length : Int) - 1) = ((s.length - 1 : Nat) : Int) := by rw [wrap64_id (by omega) (by omega)]; omega
    have hc : sidx s ((s.length - 1 : Nat) : Int) = some 10 := by
      unfold sidx
      rw [if_pos (by omega)]
      rw [List.getLast?_eq_getElem?] at hl
      simp only [Int.toNat_natCast, List.getD_eq_getElem?_getD, hl]
      rfl
    rw [e, hc]
    simp only [Option.bind_some]
    rw [if_neg (by decide)]
    have := lines_loop s hs s.length 0 0 [] FU (by omega) (by unfold FU; omega) (by omega) (by simp)
    have e0 : ((0 : Nat) : Int) = 0 := rfl
    rw [e0] at this
    rw [this]
    simp [word_Lines_J5]
theorem cut1 {a b : List UInt8} (ha : a ≠ []) (h : ∀ c ∈ a, c ≠ 32) (hl : a.length + b.length ≤ 1000000) : strings_Cut (a ++ 32 :: b) str_x20 = some (a, b, true) := by
  have hne : (str_x20 == a ++ 32 :: b) = false := by
    rw [beq_eq_false_iff_ne]
    intro e
    have := congrArg List.length e
    have hp := List.length_pos_iff.2 ha
    simp [str_x20] at this
    omega
  have hi : internal_stringslite_Index (a ++ 32 :: b) str_x20 = some (a.length : Int) := by
    unfold internal_stringslite_Index
    have e1 : ((str_x20.length : Int) == 0) = false := rfl
    have e2 : ((str_x20.length : Int) == 1) = true := rfl
    have e3 : sidx str_x20 0 = some 32 := by decide
    simp only [e1, hne, e2, e3, Option.bind_some, Bool.false_eq_true, if_false, if_true, dIndexByte]
    congr 1
    exact indexByte_at a b 32 h
  unfold strings_Cut internal_stringslite_Cut
  rw [hi]
  simp only [Option.bind_some]
  rw [if_pos (by simp)]
  have s1 : ssub (a ++ 32 :: b) 0 (a.length : Int) = some a := by
    unfold ssub
    rw [if_pos (by simp; omega)]
    simp
  have s2 : ssub (a ++ 32 :: b) (wrap64 ((a.length : Int) + (str_x20.length : Int))) ((a ++ 32 :: b).length : Int) = some b := by
    have e : wrap64 ((a.length : Int) + (str_x20.length : Int)) = ((a.length + 1 : Nat) : Int) := by
      rw [wrap64_id (by simp [str_x20]; omega) (by simp [str_x20]; omega)]; simp [str_x20]
    rw [e]
    unfold ssub
    rw [if_pos (by simp; omega)]
    simp only [Int.toNat_natCast, List.length_append, List.length_cons]
    congr 1
    have : a.length + (b.length + 1) - (a.length + 1) = b.length := by omega
    rw [this, show a ++ 32 :: b = (a ++ [32]) ++ b by simp, List.drop_append_of_le_length (by simp)]
    simp
  rw [s1, s2]
  rfl
section
variable {l : List SCard} {d : SDeck}
theorem ln_ne (kl : lkL 176 lkSCard l) (vc : VC l) (fm : Fm l d) {i : Nat} (hi : i < d.Cards.length) : ∀ c ∈ lnS l d i, c ≠ 10 := by
  have h1 := name_facts kl vc (fm_card fm hi).2
  have h2 := itoa_c (fm.count i hi)
  intro c hc
  unfold lnS at hc
  rcases List.mem_append.1 hc with q | q
  · exact (h2.2.2 c q).1
  · rcases List.mem_cons.1 q with q | q
    · subst q; decide
    · exact (h1.2.2 c q).1
theorem rise_ge (fm : Fm l d) : ∀ i, i < d.Cards.length → (i : Int) ≤ d.Cards.getD i default
  | 0, h => (fm.card 0 h).1
  | i + 1, h => by
    have h1 := rise_ge fm i (by omega)
    have h2 := fm.rise (i + 1) h (by omega)
    simp only [Nat.add_sub_cancel] at h2
    omega
theorem few (fm : Fm l d) : d.Cards.length ≤ l.length := by
  rcases Nat.eq_zero_or_pos d.Cards.length with h | h
  · omega
  · have h1 := rise_ge fm (d.Cards.length - 1) (by omega)
    have h2 := fm.card (d.Cards.length - 1) (by omega)
    omega
theorem take_snoc {α : Type} [Inhabited α] (m : List α) {k : Nat} (h : k < m.length) : m.take k ++ [m.getD k default] = m.take (k + 1) := by
  rw [List.take_succ, List.getElem?_eq_getElem h, getD_of h]; rfl
theorem parse1 (kl : lkL 176 lkSCard l) (vc : VC l) (fm : Fm l d) (hf : formedS l d = true) (hl : l.length ≤ 40) : deck_Parse l (txtN l d d.Cards.length) = some (d, 0) := by
  have hn := few fm
  have ht := txt_len kl vc fm d.Cards.length (by omega)
  have hlen := fm.len
  unfold deck_Parse
  rw [if_neg (by simp; omega)]
  have hlines : word_Lines (txtN l d d.Cards.length) = some ((List.range d.Cards.length).map (lnS l d), true) := by
    rw [lines_eq (by omega)]
    · unfold txtN
      rw [linesOf_all]
      intro x hx
      obtain ⟨i, hi, rfl⟩ := List.mem_map.1 hx
      exact ln_ne kl vc fm (List.mem_range.1 hi)
    · rcases Nat.eq_zero_or_pos d.Cards.length with h | h
      · left; rw [h]; rfl
      · right
        obtain ⟨k, hk⟩ : ∃ k, d.Cards.length = k + 1 := ⟨d.Cards.length - 1, by omega⟩
        rw [hk, txtN_succ, ← List.append_assoc, List.getLast?_append]
        simp
  rw [hlines]
  simp only [Option.bind_some]
  refine loopA (S := fun i => ((i : Int), d.Cards.take i, d.Counts.take i)) (r := .inr (d.Cards, d.Counts)) d.Cards.length (by omega) rfl (fun i hi => ?_) ?_ ?_
  · dsimp only
    unfold deck_Parse_B18
    dsimp only
    have hk := fm_card fm hi
    have hc := fm.count i hi
    have h1 := name_facts kl vc hk.2
    have h2 := itoa_c hc
    have hcd := fm.card i hi
    rw [if_pos (by simpa using hi), idx_nat (by simpa using hi)]
    simp only [Option.bind_some, List.getElem_map, List.getElem_range]
    have hcut : strings_Cut (lnS l d i) str_x20 = some (itoa (d.Counts.getD i default), (l.getD (d.Cards.getD i default).toNat default).Name, true) :=
      cut1 (List.length_pos_iff.1 (by omega)) (fun c hc => (h2.2.2 c hc).2) (by omega)
    rw [hcut]
    simp only [Option.bind_some, num1 hc, find1 (l := l) (s := (l.getD (d.Cards.getD i default).toNat default).Name) (by omega), vc.first _ hk.2]
    have e1 : (((d.Cards.getD i default).toNat : Nat) : Int) = d.Cards.getD i default := by omega
    rw [e1]
    have hb : decide (d.Cards.getD i default < 0) = false := by simp only [decide_eq_false_iff_not]; omega
    have hb2 : (((d.Cards.take i).length : Int) == (l.length : Int)) = false := by simp; omega
    simp only [hb, hb2, Bool.not_true, Bool.false_eq_true, if_false, Option.bind_some]
    rw [app1 (by simp; omega) (by decide), app1 (by simp; omega) (by decide)]
    simp only [Option.bind_some, take_snoc d.Cards hi, take_snoc d.Counts (k := i) (by omega), wrapS (i := i) (by omega)]
  · dsimp only
    unfold deck_Parse_B18
    rw [if_neg (by simp)]
    have e : d.Counts.take d.Cards.length = d.Counts := by rw [hlen, List.take_length]
    rw [List.take_length, e]
  · simp only [Sum.elim_inr]
    unfold deck_Parse_J5
    have e : (⟨d.Cards, d.Counts⟩ : SDeck) = d := rfl
    rw [e, formed1 (by omega), hf]
    simp only [Option.bind_some, Bool.not_true, beq_self_eq_true, gd_true, text1 kl vc fm (by omega) hf, bne_self_eq_false, Bool.false_eq_true, if_false]
end
theorem same_self {d : SDeck} (h1 : d.Cards.length ≤ 300) (h2 : d.Counts.length ≤ 300) : r23_Same d d = some true := by
  unfold r23_Same
  simp only [intsEq (a := d.Cards) (b := d.Cards) (by omega), intsEq (a := d.Counts) (b := d.Counts) (by omega), decide_true, Option.bind_some, beq_self_eq_true, gd_true, if_true]
theorem law_DeckBack {x : SAsk} (k : lkSAsk x) : law23_DeckBack x = some true := by
  obtain ⟨b, hb, hs⟩ := small_W k
  unfold law23_DeckBack
  cases b
  · rw [hb]; simp only [Option.bind_some, Bool.not_false, if_true, alive23]
  · obtain ⟨vc, h1, h2, h3⟩ := hs rfl
    have hl : x.Cards.length ≤ 40 := by
      unfold law23_small at hb
      by_cases q : (40 : Int) < (x.Cards.length : Int)
      · simp [q] at hb
      · omega
    rw [hb]
    simp only [Option.bind_some, Bool.not_true, Bool.false_eq_true, if_false]
    cases hf : formedS x.Cards x.Deck
    · simp only [text0 hf h1, Option.bind_some, beq_self_eq_true, if_true, formed2 (l := x.Cards) (d := x.Deck) (by omega), hf, Bool.not_false, gd_true, alive23]
      have hc : checkS x.Cards x.Deck x.Format = 1 := by unfold checkS; rw [if_neg (by simp [hf])]
      rw [check1 vc h1 h2 h3, hc]
      simp only [Option.bind_some, beq_self_eq_true, gd_true, alive23, if_true]
      split <;> rfl
    · have fm := fm_of hf
      have kl := lkSAsk_Cards k
      simp only [text1 kl vc fm h1 hf, Option.bind_some]
      have hne : (if (txtN x.Cards x.Deck x.Deck.Cards.length == ([] : List UInt8)) = true then decide ((0 : Int) < (x.Deck.Cards.length : Int)) else false) = false := by
        rcases Nat.eq_zero_or_pos x.Deck.Cards.length with h | h
        · rw [h]; simp
        · obtain ⟨j, hj⟩ : ∃ j, x.Deck.Cards.length = j + 1 := ⟨x.Deck.Cards.length - 1, by omega⟩
          rw [hj, txtN_succ]; simp
      rw [hne]
      simp only [Bool.false_eq_true, if_false, formed2 (l := x.Cards) (d := x.Deck) (by omega), hf, Option.bind_some, Bool.not_true, parse1 kl vc fm hf hl, beq_self_eq_true, gd_true, same_self h1 h2, if_true, alive23]
end Go.PL
