/- Plain laws of the deck chapter: valid catalogues, well-formed decks, sizes, checks. -/
import Derived.Test.YtedobbmpljbccaaGreatDoorPlPtoPlPn
import Derived.Test.YtedobbmpljbccaaGreatDoorPlDtW2
import Derived.Test.YtedobbmpljbccaaGreatDoorPlDkF17
namespace Go.PL
open Go
set_option maxRecDepth 100000
set_option linter.all false
set_option maxHeartbeats 1000000
theorem alive23 : law23_alive = some true := by kernel_rfl
theorem idx_D {α : Type} [Inhabited α] {l : List α} {i : Nat} (h : i < l.length) : idx l (i : Int) = some (l.getD i default) := by rw [idx_nat h, getD_of h]
theorem wrapS {i : Nat} (h : i < 9223372036854775807) : wrap64 ((i : Int) + 1) = ((i + 1 : Nat) : Int) := by rw [wrap64_id (by omega) (by omega)]; omega
theorem wrapS' {i : Nat} (h : i < 9223372036854775807) : wrap64 ((i : Int) + 1) = (i : Int) + 1 := by rw [wrap64_id (by omega) (by omega)]
/-! Searches. -/
def fndS (l : List (List UInt8)) (s : List UInt8) : Int := fstI l.length fun i => l.getD i default == s
def fnd (l : List SCard) (s : List UInt8) : Int := fstI l.length fun i => (l.getD i default).Name == s
theorem find1 {l : List SCard} {s : List UInt8} (h : l.length < 9223372036854775807) : catalog_Find l s = some (fnd l s) := by
  unfold catalog_Find
  rw [seekI (p := fun i => (l.getD i default).Name == s) (f := fun i => (i : Int)) l.length h (fun i hi => ?_) ?_]
  · unfold fnd fstI
    cases (List.range l.length).find? (fun i => (l.getD i default).Name == s) <;> rfl
  · unfold catalog_Find_B7; rw [if_neg (by simp)]
  · unfold catalog_Find_B7
    rw [if_pos (by simpa using hi), idx_D hi, wrapS' (by omega)]
    simp only [Option.bind_some]
    split <;> rfl
theorem find2 {l : List SCard} {s : List UInt8} (h : l.length < 9223372036854775807) : r22_Find l s = some (fnd l s) := by
  unfold r22_Find
  rw [seekI (p := fun i => (l.getD i default).Name == s) (f := fun i => (i : Int)) l.length h (fun i hi => ?_) ?_]
  · unfold fnd fstI
    cases (List.range l.length).find? (fun i => (l.getD i default).Name == s) <;> rfl
  · unfold r22_Find_B5; rw [if_neg (by simp)]
  · unfold r22_Find_B5
    rw [if_pos (by simpa using hi), idx_D hi, wrapS' (by omega)]
    simp only [Option.bind_some]
    split <;> rfl
theorem index1 {l : List (List UInt8)} {s : List UInt8} (h : l.length < 9223372036854775807) : word_Index l s = some (fndS l s) := by
  unfold word_Index slices_Index_string_string
  rw [seekI (p := fun i => l.getD i default == s) (f := fun i => (i : Int)) l.length h (fun i hi => ?_) ?_]
  · unfold fndS fstI
    cases (List.range l.length).find? (fun i => l.getD i default == s) <;> rfl
  · unfold slices_Index_string_string_B5; rw [if_neg (by simp)]
  · unfold slices_Index_string_string_B5
    rw [if_pos (by simpa using hi), idx_D hi, wrapS' (by omega)]
    simp only [Option.bind_some, Bool.beq_comm (a := s)]
    split <;> rfl
/-! Valid catalogues. -/
theorem card_facts {c : SCard} (h : r21_Is c = some true) : r02_Is c.Name = some true ∧ r10_Is c.Line = some true := by
  unfold r21_Is at h
  cases h1 : r02_Is c.Name with
  | none => rw [h1] at h; cases h
  | some b1 =>
    rw [h1] at h
    cases b1
    · simp [gd] at h
    · refine ⟨rfl, ?_⟩
      simp only [Option.bind_some, Bool.not_true, beq_self_eq_true, gd_true, Bool.false_eq_true, if_false] at h
      cases h2 : r08_Is c.Cost with
      | none => rw [h2] at h; cases h
      | some b2 =>
        rw [h2] at h
        cases b2
        · simp [gd] at h
        · simp only [Option.bind_some, Bool.not_true, beq_self_eq_true, gd_true, Bool.false_eq_true, if_false] at h
          cases h3 : r10_Is c.Line with
          | none => rw [h3] at h; cases h
          | some b3 =>
            rw [h3] at h
            cases b3
            · simp [gd] at h
            · rfl
theorem super_facts {l : SLine} (h : r10_Is l = some true) : 0 ≤ l.Super ∧ l.Super ≤ 3 := by
  unfold r10_Is at h
  by_cases h1 : l.Super < 0
  · simp [h1] at h
  · by_cases h2 : 3 < l.Super
    · simp [h1, h2] at h
    · omega
structure VC (l : List SCard) : Prop where
  card : ∀ i : Nat, i < l.length → r02_Is (l.getD i default).Name = some true ∧ 0 ≤ (l.getD i default).Line.Super ∧ (l.getD i default).Line.Super ≤ 3
  first : ∀ i : Nat, i < l.length → fnd l (l.getD i default).Name = i
  len : l.length ≤ 256
theorem valid_W {l : List SCard} (k : lkL 176 lkSCard l) : W (r23_Valid l) (fun r => r = true → VC l) := by
  unfold r23_Valid
  have hl : l.length ≤ 140737488355328 := lkL_len (by decide) k
  refine W.bd (P := fun r => r.2 = 0 → VC l) ?_ (fun r hr => W.rt (fun h => hr (by simpa using h)))
  unfold r22_Check
  refine W.if (fun _ => W.rt (fun h => by cases h)) (fun hn => ?_)
  simp only [bz] at hn
  refine W.it (fun v => 0 ≤ v ∧ v ≤ l.length ∧ ∀ i : Nat, (i : Int) < v → (r02_Is (l.getD i default).Name = some true ∧ 0 ≤ (l.getD i default).Line.Super ∧ (l.getD i default).Line.Super ≤ 3) ∧ fnd l (l.getD i default).Name = i) (fun v => (l.length - v).toNat) ⟨by omega, by omega, fun i hi => by omega⟩ (by omega) (fun v hv => ?_)
  obtain ⟨v1, v2, v3⟩ := hv
  unfold r22_Check_B7
  refine W.if (fun hi => ?_) (fun hi => W.ex (W.rt (fun _ => ?_)))
  · simp only [bz] at hi
    obtain ⟨i, rfl⟩ : ∃ i : Nat, v = i := ⟨v.toNat, by omega⟩
    have hi' : i < l.length := by omega
    rw [idx_D hi']
    refine W.lt (fun c hc => ?_)
    subst hc
    have kc : lkSCard (l.getD i default) := lkL_mem k (getD_mem hi')
    obtain ⟨b, hb, _⟩ := r21_Is_W kc
    refine W.re hb (W.if (fun _ => W.ex (W.rt (fun h => by cases h))) (fun hb2 => ?_))
    simp only [bz] at hb2; subst hb2
    refine W.lt (fun c hc => ?_); subst hc
    rw [find2 (by omega)]
    refine W.lt (fun r hr => ?_); subst hr
    refine W.if (fun _ => W.ex (W.rt (fun h => by cases h))) (fun hf => ?_)
    simp only [bz] at hf
    refine W.lt (fun c hc => ?_); subst hc
    refine W.bd (r22_creates_W k kc) (fun q _ => ?_)
    refine W.if (fun _ => W.ex (W.rt (fun h => by cases h))) (fun _ => ?_)
    rw [wrapS' (by omega)]
    refine W.nx ⟨by omega, by omega, fun j hj => ?_⟩ (by omega)
    by_cases hji : (j : Int) < i
    · exact v3 j hji
    · obtain rfl : j = i := by omega
      have h1 := card_facts hb
      refine ⟨⟨h1.1, super_facts h1.2⟩, ?_⟩
      have := fstI_le (n := l.length) (p := fun x => (l.getD x default).Name == (l.getD j default).Name) hi' (by simp)
      have e : fstI l.length (fun x => (l.getD x default).Name == (l.getD j default).Name) = fnd l (l.getD j default).Name := rfl
      rw [e] at this
      omega
  · simp only [bz] at hi
    exact ⟨fun i hi' => (v3 i (by omega)).1, fun i hi' => (v3 i (by omega)).2, by omega⟩
/-! Well-formed decks. -/
def badAt (l : List SCard) (d : SDeck) (i : Nat) : Bool :=
  decide (d.Cards.getD i default < 0) || (decide ((l.length : Int) ≤ d.Cards.getD i default) || ((l.getD (d.Cards.getD i default).toNat default).Token || (decide (d.Counts.getD i default < 1) || (decide (250 < d.Counts.getD i default) || (decide (0 < i) && decide (d.Cards.getD i default ≤ d.Cards.getD (i - 1) default))))))
def formedS (l : List SCard) (d : SDeck) : Bool := decide (d.Cards.length = d.Counts.length) && !(List.range d.Cards.length).any (badAt l d)
theorem prev_idx {l : List Int} {i : Nat} (hi : i < l.length) (hb : l.length < 9223372036854775807) (g : Bool) : gd (g && (decide ((0 : Int) < i) == true)) (idx l (wrap64 ((i : Int) - 1))) = some (if (g && decide (0 < i)) = true then l.getD (i - 1) default else default) := by
  cases i with
  | zero => cases g <;> simp [gd]
  | succ i =>
    have e : wrap64 (((i + 1 : Nat) : Int) - 1) = (i : Int) := by rw [wrap64_id (by omega) (by omega)]; omega
    rw [e, idx_D (by omega)]
    cases g <;> simp [gd]
theorem formed1 {l : List SCard} {d : SDeck} (h : d.Cards.length < 9223372036854775807) : deck_formed l d = some (formedS l d) := by
  unfold deck_formed formedS
  by_cases hl : d.Cards.length = d.Counts.length
  · rw [if_neg (by simp [hl]), seekU (p := badAt l d) d.Cards.length h (fun i hi => ?_) ?_]
    · cases hb : (List.range d.Cards.length).any (badAt l d) <;> simp [hl, deck_formed_J2]
    · unfold deck_formed_B5; rw [if_neg (by simp)]
    · unfold deck_formed_B5 badAt
      rw [if_pos (by simpa using hi), idx_D hi, wrapS' (by omega)]
      simp only [Option.bind_some, prev_idx hi h, idx_D (l := d.Counts) (i := i) (by omega), gdS]
      generalize d.Cards.getD i default = c
      generalize d.Counts.getD i default = n
      by_cases h1 : c < 0
      · simp [h1, gd]
      · by_cases h2 : (l.length : Int) ≤ c
        · simp [h1, h2, gd]
        · rw [idx_some (l := l) (i := c) (by omega)]
          generalize l.getD c.toNat default = k
          generalize d.Cards.getD (i - 1) default = pv
          cases hk : k.Token
          · by_cases h3 : n < 1
            · simp [hk, h1, h2, h3, gd]
            · have h3' := Int.not_lt.1 h3
              by_cases h4 : 250 < n
              · have h4' := Int.not_le.2 h4
                simp [hk, h1, h2, h3, h3', h4, h4', gd]
              · have h4' := Int.not_lt.1 h4
                by_cases h5 : 0 < i <;> by_cases h6 : c ≤ pv <;> simp [hk, h1, h2, h3, h3', h4, h4', h5, h6, gd]
          · simp [hk, h1, h2, gd]
  · rw [if_pos (by simp; omega)]; simp [hl]
theorem formed2 {l : List SCard} {d : SDeck} (h : d.Cards.length < 9223372036854775807) : r23_Formed l d = some (formedS l d) := by
  unfold r23_Formed formedS
  by_cases hl : d.Cards.length = d.Counts.length
  · rw [if_neg (by simp [hl]), seekU (p := badAt l d) d.Cards.length h (fun i hi => ?_) ?_]
    · cases hb : (List.range d.Cards.length).any (badAt l d) <;> simp [hl, r23_Formed_J2]
    · unfold r23_Formed_B5; rw [if_neg (by simp)]
    · unfold r23_Formed_B5 badAt
      rw [if_pos (by simpa using hi), idx_D hi, wrapS' (by omega)]
      simp only [Option.bind_some, prev_idx hi h, idx_D (l := d.Counts) (i := i) (by omega), gdS]
      generalize d.Cards.getD i default = c
      generalize d.Counts.getD i default = n
      by_cases h1 : c < 0
      · simp [h1, gd]
      · by_cases h2 : (l.length : Int) ≤ c
        · simp [h1, h2, gd]
        · rw [idx_some (l := l) (i := c) (by omega)]
          generalize l.getD c.toNat default = k
          generalize d.Cards.getD (i - 1) default = pv
          cases hk : k.Token
          · by_cases h3 : n < 1
            · simp [hk, h1, h2, h3, gd]
            · have h3' := Int.not_lt.1 h3
              by_cases h4 : 250 < n
              · have h4' := Int.not_le.2 h4
                simp [hk, h1, h2, h3, h3', h4, h4', gd]
              · have h4' := Int.not_lt.1 h4
                by_cases h5 : 0 < i <;> by_cases h6 : c ≤ pv <;> simp [hk, h1, h2, h3, h3', h4, h4', h5, h6, gd]
          · simp [hk, h1, h2, gd]
  · rw [if_pos (by simp; omega)]; simp [hl]
structure Fm (l : List SCard) (d : SDeck) : Prop where
  len : d.Cards.length = d.Counts.length
  card : ∀ i, i < d.Cards.length → 0 ≤ d.Cards.getD i default ∧ d.Cards.getD i default < l.length
  count : ∀ i, i < d.Cards.length → 1 ≤ d.Counts.getD i default ∧ d.Counts.getD i default ≤ 250
  rise : ∀ i, i < d.Cards.length → 0 < i → d.Cards.getD (i - 1) default < d.Cards.getD i default
theorem fm_of {l : List SCard} {d : SDeck} (h : formedS l d = true) : Fm l d := by
  unfold formedS at h
  simp only [Bool.and_eq_true, decide_eq_true_eq, Bool.not_eq_true', List.any_eq_false, List.mem_range] at h
  obtain ⟨h0, h⟩ := h
  have hh : ∀ i, i < d.Cards.length → badAt l d i = false := fun i hi => by simpa using h i hi
  unfold badAt at hh
  simp only [Bool.or_eq_false_iff, decide_eq_false_iff_not, Bool.and_eq_false_iff] at hh
  refine ⟨h0, fun i hi => ?_, fun i hi => ?_, fun i hi h1 => ?_⟩
  · have := hh i hi; omega
  · have := hh i hi; omega
  · have := (hh i hi).2.2.2.2.2
    omega
end Go.PL
