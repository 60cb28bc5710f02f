/- Functions that answer: proofs. -/
import Derived.Test.YtedobbmpljbccaaGreatDoorPlDkB
import Derived.Test.YtedobbmpljbccaaGreatDoorPlDkF0
import Derived.Test.YtedobbmpljbccaaGreatDoorPlDkF1
import Derived.Test.YtedobbmpljbccaaGreatDoorPlDkF2
import Derived.Test.YtedobbmpljbccaaGreatDoorPlDkF3
import Derived.Test.YtedobbmpljbccaaGreatDoorPlDtL
namespace Go.PL
open Go
set_option maxRecDepth 100000
set_option linter.all false
set_option maxHeartbeats 2000000
theorem r02_low_W {a0 : Int} : W (r02_low a0) (fun r => True) := by
  unfold r02_low
  refine W.lt (fun b1 bb_1 => ?_)
  exact W.rt trivial
theorem r08_Is_W {a0 : SCost} : W (r08_Is a0) (fun r => r = true → a0.X ≤ 2 ∧ ∀ i : Int, 0 ≤ i → i < 5 → a0.Color.l.getD i.toNat default ≤ 9) := by
  unfold r08_Is
  refine W.lt (fun b1 h1 => ?_)
  refine W.lt (fun b2 h2 => ?_)
  refine W.lt (fun b3 h3 => ?_)
  refine W.if (fun hh => W.rt (fun h => by cases h)) (fun hh => ?_)
  simp only [h3, h2, h1, bz] at hh
  refine W.it (fun (v : Int) => 0 ≤ v ∧ v ≤ 5 ∧ ∀ i : Int, 0 ≤ i → i < v → a0.Color.l.getD i.toNat default ≤ 9) (fun v => ((5 : Int) - v).toNat) ⟨by omega, by omega, fun i h1 h2 => by omega⟩ (by omega) (fun v hv => ?_)
  unfold r08_Is_B8
  obtain ⟨v1, v2, v3⟩ := hv
  have hl : a0.Color.l.length = 5 := rfl
  refine W.if (fun hi => ?_) (fun hi => ?_)
  · simp only [bz] at hi
    refine W.bd (W.idx (by omega)) (fun e10 q10 => ?_)
    refine W.gb (fun _ => W.idx (by omega)) (fun e11 q11 => ?_)
    refine W.lt (fun b12 h12 => ?_)
    refine W.if (fun hb => W.ex (W.rt (fun h => by cases h))) (fun hb => ?_)
    simp only [h12, bz] at hb
    have e : e11 = a0.Color.l.getD v.toNat default := (q11 (by simp only [bz]; exact hb.1)).2.1
    have w := wrap64_id (x := v + 1) (by omega) (by omega)
    refine W.nx ⟨by omega, by omega, fun i k1 k2 => ?_⟩ (by omega)
    by_cases k : i < v
    · exact v3 i k1 k
    · obtain rfl : i = v := by omega
      rw [← e]; omega
  · simp only [bz] at hi
    refine W.ex (W.rt (fun _ => ⟨by omega, fun i k1 k2 => v3 i k1 (by omega)⟩))
theorem r10_superWords_W : W (r10_superWords) (fun r => r.length = 2 ∧ ∀ y ∈ r, y.length ≤ 40) := by
  unfold r10_superWords
  refine W.rt ?_
  have ll_1 : str_basic.length = 5 := rfl
  have ll_2 : str_unique.length = 6 := rfl
  exact ⟨rfl, of_decide_eq_true (by kernel_rfl)⟩
theorem r10_index_W {a0 : List (List UInt8)} {a1 : List UInt8} (k_a0 : lkL 16 lkS a0) : W (r10_index a0 a1) (fun r => True) := by
  unfold r10_index
  have ll_1 : a0.length ≤ 140737488355328 := lkL_len (by decide) k_a0
  refine W.it (fun (v : Int) => 0 ≤ v ∧ (v ≤ (a0.length : Int) ∨ v ≤ 0)) (fun v => ((a0.length : Int) - v).toNat) ?_ ?_ (fun v hv => ?_)
  · (try dsimp only); first | omega | (simp; omega) | (and_intros <;> first | omega | assumption | (simp; omega) | simp)
  · (try dsimp only); first | omega | (simp; omega) | (and_intros <;> first | omega | assumption | (simp; omega) | simp)
  · obtain ⟨i_t5_3, hv0⟩ : ∃ x, x = v := ⟨v, rfl⟩
    subst hv0
    replace hv : 0 ≤ i_t5_3 ∧ (i_t5_3 ≤ (a0.length : Int) ∨ i_t5_3 ≤ 0) := hv
    show W (r10_index_B5 a0 a1 i_t5_3) _
    unfold r10_index_B5
    refine W.if (fun hh_2 => ?_) (fun hh_2 => ?_)
    · try simp only [bz] at hh_2
      refine W.bd (W.idx (by omega)) (fun e7 q_e7 => ?_)
      refine W.if (fun hh_3 => ?_) (fun hh_3 => ?_)
      · try simp only [bz] at hh_3
        refine W.ex ?_
        try dsimp only [Sum.elim_inl, Sum.elim_inr]
        exact W.rt trivial
      · try simp only [bz] at hh_3
        have ww_4 : wrap64 (i_t5_3 + (1 : Int)) = i_t5_3 + (1 : Int) := wrap64_id (by omega) (by omega)
        exact W.nx (by (try dsimp only); first | omega | (and_intros <;> first | omega | assumption) | (simp; omega)) (by (try dsimp only); omega)
    · try simp only [bz] at hh_2
      refine W.ex ?_
      try dsimp only [Sum.elim_inl, Sum.elim_inr]
      unfold r10_index_J1
      exact W.rt trivial
theorem r10_typeWords_W : W (r10_typeWords) (fun r => r.length = 6 ∧ ∀ y ∈ r, y.length ≤ 40) := by
  unfold r10_typeWords
  refine W.rt ?_
  have ll_1 : str_creature.length = 8 := rfl
  have ll_2 : str_instant.length = 7 := rfl
  have ll_3 : str_ritual.length = 6 := rfl
  have ll_4 : str_relic.length = 5 := rfl
  have ll_5 : str_charm.length = 5 := rfl
  have ll_6 : str_land.length = 4 := rfl
  exact ⟨rfl, of_decide_eq_true (by kernel_rfl)⟩
theorem r10_bit_W {a0 : Int} {a1 : Int} (p_0 : a1 ≤ 1000) : W (r10_bit a0 a1) (fun r => True) := by
  unfold r10_bit
  refine W.it (fun (v : Int × Int) => 0 ≤ v.2 ∧ (v.2 ≤ a1 ∨ v.2 ≤ 0)) (fun v => (a1 - v.2).toNat) ?_ ?_ (fun v hv => ?_)
  · (try dsimp only); first | omega | (simp; omega) | (and_intros <;> first | omega | assumption | (simp; omega) | simp)
  · (try dsimp only); first | omega | (simp; omega) | (and_intros <;> first | omega | assumption | (simp; omega) | simp)
  · obtain ⟨mask_t0_5, k_t5_6⟩ := v
    replace hv : 0 ≤ k_t5_6 ∧ (k_t5_6 ≤ a1 ∨ k_t5_6 ≤ 0) := hv
    show W (r10_bit_B8 a1 mask_t0_5 k_t5_6) _
    unfold r10_bit_B8
    refine W.if (fun hh_1 => ?_) (fun hh_1 => ?_)
    · try simp only [bz] at hh_1
      have ww_2 : wrap64 (k_t5_6 + (1 : Int)) = k_t5_6 + (1 : Int) := wrap64_id (by omega) (by omega)
      exact W.nx (by (try dsimp only); first | omega | (and_intros <;> first | omega | assumption) | (simp; omega)) (by (try dsimp only); omega)
    · try simp only [bz] at hh_1
      refine W.ex ?_
      try dsimp only [Sum.elim_inl, Sum.elim_inr]
      unfold r10_bit_J2
      exact W.rt trivial
theorem r11_Is_W {a0 : Int} : W (r11_Is a0) (fun r => True) := by
  unfold r11_Is
  refine W.lt (fun b1 bb_1 => ?_)
  exact W.rt trivial
theorem r21_creature_W {a0 : SCard} : W (r21_creature a0) (fun r => True) := by
  unfold r21_creature
  exact W.rt trivial
theorem r13_apart_W {a0 : Int} {a1 : Int} {a2 : Int} : W (r13_apart a0 a1 a2) (fun r => True) := by
  unfold r13_apart
  refine W.lt (fun b1 bb_1 => ?_)
  refine W.lt (fun b2 bb_2 => ?_)
  refine W.lt (fun b3 bb_3 => ?_)
  refine W.if (fun hh_4 => ?_) (fun hh_4 => ?_)
  · try simp only [bb_1, bb_2, bb_3, bz] at hh_4
    exact W.rt trivial
  · try simp only [bb_1, bb_2, bb_3, bz] at hh_4
    refine W.it (fun (v : Int × Int × Int) => 0 ≤ v.2.2 ∧ (v.2.2 ≤ (6 : Int) ∨ v.2.2 ≤ 0)) (fun v => ((6 : Int) - v.2.2).toNat) ?_ ?_ (fun v hv => ?_)
    · (try dsimp only); first | omega | (simp; omega) | (and_intros <;> first | omega | assumption | (simp; omega) | simp)
    · (try dsimp only); first | omega | (simp; omega) | (and_intros <;> first | omega | assumption | (simp; omega) | simp)
    · obtain ⟨a_t0_9, b_t1_10, i_t7_11⟩ := v
      replace hv : 0 ≤ i_t7_11 ∧ (i_t7_11 ≤ (6 : Int) ∨ i_t7_11 ≤ 0) := hv
      show W (r13_apart_B12 a_t0_9 b_t1_10 i_t7_11) _
      unfold r13_apart_B12
      refine W.if (fun hh_5 => ?_) (fun hh_5 => ?_)
      · try simp only [bb_1, bb_2, bb_3, bz] at hh_5
        refine W.lt (fun b14 bb_6 => ?_)
        refine W.if (fun hh_7 => ?_) (fun hh_7 => ?_)
        · try simp only [bb_1, bb_2, bb_3, bb_6, bz] at hh_7
          refine W.ex ?_
          try dsimp only [Sum.elim_inl, Sum.elim_inr]
          exact W.rt trivial
        · try simp only [bb_1, bb_2, bb_3, bb_6, bz] at hh_7
          have ww_8 : wrap64 (i_t7_11 + (1 : Int)) = i_t7_11 + (1 : Int) := wrap64_id (by omega) (by omega)
          exact W.nx (by (try dsimp only); first | omega | (and_intros <;> first | omega | assumption) | (simp; omega)) (by (try dsimp only); omega)
      · try simp only [bb_1, bb_2, bb_3, bz] at hh_5
        refine W.ex ?_
        try dsimp only [Sum.elim_inl, Sum.elim_inr]
        unfold r13_apart_J5
        exact W.rt trivial
theorem r13_bound_W {a0 : SBound} : W (r13_bound a0) (fun r => r = true → 0 ≤ a0.Kind ∧ a0.Kind ≤ 3) := by
  unfold r13_bound
  refine W.lt (fun b1 bb_1 => ?_)
  refine W.lt (fun b2 bb_2 => ?_)
  refine W.lt (fun b3 bb_3 => ?_)
  refine W.if (fun hh_4 => ?_) (fun hh_4 => ?_)
  · try simp only [bb_1, bb_2, bb_3, bz] at hh_4
    refine W.rt ?_
    first | assumption | omega | (simp only [bb_1, bb_2, bb_3, bz]; omega) | (simp only [bb_1, bb_2, bb_3, bz]; intros; omega) | (intros; simp only [bb_1, bb_2, bb_3, bz] at *; omega) | exact ⟨by simp, by simp⟩ | decide | simp_all
  · try simp only [bb_1, bb_2, bb_3, bz] at hh_4
    refine W.lt (fun b5 bb_5 => ?_)
    refine W.rt ?_
    first | assumption | omega | (simp only [bb_1, bb_2, bb_3, bb_5, bz]; omega) | (simp only [bb_1, bb_2, bb_3, bb_5, bz]; intros; omega) | (intros; simp only [bb_1, bb_2, bb_3, bb_5, bz] at *; omega) | exact ⟨by simp, by simp⟩ | decide | simp_all
theorem r15_used_J2_W {b1_1 : SMod} : W (r15_used_J2 b1_1) (fun r => True) := by
  unfold r15_used_J2
  exact W.rt trivial
theorem r15_used_J11_W {a0 : SMod} {vt24_10 : Bool} : W (r15_used_J11 a0 vt24_10) (fun r => True) := by
  unfold r15_used_J11
  refine W.if (fun hh_1 => ?_) (fun hh_1 => ?_)
  · try simp only [bz] at hh_1
    exact r15_used_J2_W
  · try simp only [bz] at hh_1
    exact r15_used_J2_W
theorem r15_used_J7_W {a0 : SMod} {vt16_6 : Bool} : W (r15_used_J7 a0 vt16_6) (fun r => True) := by
  unfold r15_used_J7
  refine W.if (fun hh_1 => ?_) (fun hh_1 => ?_)
  · try simp only [bz] at hh_1
    exact r15_used_J2_W
  · try simp only [bz] at hh_1
    refine W.if (fun hh_3 => ?_) (fun hh_3 => ?_)
    · try simp only [bz] at hh_3
      exact r15_used_J2_W
    · try simp only [bz] at hh_3
      refine W.if (fun hh_5 => ?_) (fun hh_5 => ?_)
      · try simp only [bz] at hh_5
        exact r15_used_J11_W
      · try simp only [bz] at hh_5
        exact r15_used_J11_W
theorem r15_used_J4_W {a0 : SMod} {vt8_3 : Bool} : W (r15_used_J4 a0 vt8_3) (fun r => True) := by
  unfold r15_used_J4
  refine W.if (fun hh_1 => ?_) (fun hh_1 => ?_)
  · try simp only [bz] at hh_1
    exact r15_used_J2_W
  · try simp only [bz] at hh_1
    refine W.if (fun hh_3 => ?_) (fun hh_3 => ?_)
    · try simp only [bz] at hh_3
      exact r15_used_J7_W
    · try simp only [bz] at hh_3
      exact r15_used_J7_W
theorem r15_used_W {a0 : SMod} : W (r15_used a0) (fun r => True) := by
  unfold r15_used
  refine W.if (fun hh_1 => ?_) (fun hh_1 => ?_)
  · try simp only [bz] at hh_1
    exact r15_used_J4_W
  · try simp only [bz] at hh_1
    refine W.if (fun hh_3 => ?_) (fun hh_3 => ?_)
    · try simp only [bz] at hh_3
      exact r15_used_J4_W
    · try simp only [bz] at hh_3
      refine W.if (fun hh_5 => ?_) (fun hh_5 => ?_)
      · try simp only [bz] at hh_5
        exact r15_used_J4_W
      · try simp only [bz] at hh_5
        refine W.if (fun hh_7 => ?_) (fun hh_7 => ?_)
        · try simp only [bz] at hh_7
          exact r15_used_J4_W
        · try simp only [bz] at hh_7
          refine W.if (fun hh_9 => ?_) (fun hh_9 => ?_)
          · try simp only [bz] at hh_9
            exact r15_used_J4_W
          · try simp only [bz] at hh_9
            exact r15_used_J4_W
theorem r15_types_W {a0 : Int} : W (r15_types a0) (fun r => True) := by
  unfold r15_types
  refine W.lt (fun b1 bb_1 => ?_)
  refine W.lt (fun b2 bb_2 => ?_)
  exact W.rt trivial
theorem r09_Is_W {a0 : Int} : W (r09_Is a0) (fun r => True) := by
  unfold r09_Is
  refine W.lt (fun b1 bb_1 => ?_)
  exact W.rt trivial
theorem r09_Name_W {a0 : Int} : W (r09_Name a0) (fun r => r.length ≤ 10) := by
  unfold r09_Name
  refine W.if (fun hh_1 => ?_) (fun hh_1 => ?_)
  · try simp only [bz] at hh_1
    refine W.rt ?_
    have ll_2 : str_amber.length = 5 := rfl
    first | assumption | omega | (simp only [bz]; omega) | (simp only [bz]; intros; omega) | (intros; simp only [bz] at *; omega) | exact ⟨by simp, by simp⟩ | decide | simp_all
  · try simp only [bz] at hh_1
    refine W.if (fun hh_3 => ?_) (fun hh_3 => ?_)
    · try simp only [bz] at hh_3
      refine W.rt ?_
      have ll_4 : str_cobalt.length = 6 := rfl
      first | assumption | omega | (simp only [bz]; omega) | (simp only [bz]; intros; omega) | (intros; simp only [bz] at *; omega) | exact ⟨by simp, by simp⟩ | decide | simp_all
    · try simp only [bz] at hh_3
      refine W.if (fun hh_5 => ?_) (fun hh_5 => ?_)
      · try simp only [bz] at hh_5
        refine W.rt ?_
        have ll_6 : str_jet.length = 3 := rfl
        first | assumption | omega | (simp only [bz]; omega) | (simp only [bz]; intros; omega) | (intros; simp only [bz] at *; omega) | exact ⟨by simp, by simp⟩ | decide | simp_all
      · try simp only [bz] at hh_5
        refine W.if (fun hh_7 => ?_) (fun hh_7 => ?_)
        · try simp only [bz] at hh_7
          refine W.rt ?_
          have ll_8 : str_ruby.length = 4 := rfl
          first | assumption | omega | (simp only [bz]; omega) | (simp only [bz]; intros; omega) | (intros; simp only [bz] at *; omega) | exact ⟨by simp, by simp⟩ | decide | simp_all
        · try simp only [bz] at hh_7
          refine W.if (fun hh_9 => ?_) (fun hh_9 => ?_)
          · try simp only [bz] at hh_9
            refine W.rt ?_
            have ll_10 : str_emerald.length = 7 := rfl
            first | assumption | omega | (simp only [bz]; omega) | (simp only [bz]; intros; omega) | (intros; simp only [bz] at *; omega) | exact ⟨by simp, by simp⟩ | decide | simp_all
          · try simp only [bz] at hh_9
            refine W.rt ?_
            first | assumption | omega | (simp only [bz]; omega) | (simp only [bz]; intros; omega) | (intros; simp only [bz] at *; omega) | exact ⟨by simp, by simp⟩ | decide | simp_all
theorem r11_names_W : W (r11_names) (fun r => r.length = 17 ∧ ∀ y ∈ r, y.length ≤ 40) := by
  unfold r11_names
  refine W.rt ?_
  have ll_1 : str_flying.length = 6 := rfl
  have ll_2 : str_reach.length = 5 := rfl
  have ll_3 : str_haste.length = 5 := rfl
  have ll_4 : str_vigilant.length = 8 := rfl
  have ll_5 : str_trample.length = 7 := rfl
  have ll_6 : str_first_strike.length = 12 := rfl
  have ll_7 : str_double_strike.length = 13 := rfl
  have ll_8 : str_deadly.length = 6 := rfl
  have ll_9 : str_lifelink.length = 8 := rfl
  have ll_10 : str_menace.length = 6 := rfl
  have ll_11 : str_defender.length = 8 := rfl
  have ll_12 : str_warded.length = 6 := rfl
  have ll_13 : str_sturdy.length = 6 := rfl
  have ll_14 : str_elusive.length = 7 := rfl
  have ll_15 : str_no_attack.length = 9 := rfl
  have ll_16 : str_no_block.length = 8 := rfl
  have ll_17 : str_must_attack.length = 11 := rfl
  exact ⟨rfl, of_decide_eq_true (by kernel_rfl)⟩
theorem r13_zoneWords_W : W (r13_zoneWords) (fun r => r.length = 6 ∧ ∀ y ∈ r, y.length ≤ 40) := by
  unfold r13_zoneWords
  refine W.rt ?_
  have ll_1 : str_in_hand.length = 7 := rfl
  have ll_2 : str_in_library.length = 10 := rfl
  have ll_3 : str_in_graveyard.length = 12 := rfl
  have ll_4 : str_in_exile.length = 8 := rfl
  have ll_5 : str_on_stack.length = 8 := rfl
  exact ⟨rfl, of_decide_eq_true (by kernel_rfl)⟩
theorem r13_whoWords_W : W (r13_whoWords) (fun r => r.length = 3 ∧ ∀ y ∈ r, y.length ≤ 40) := by
  unfold r13_whoWords
  refine W.rt ?_
  have ll_1 : str_yours.length = 5 := rfl
  have ll_2 : str_theirs.length = 6 := rfl
  exact ⟨rfl, of_decide_eq_true (by kernel_rfl)⟩
theorem r13_selfWords_W : W (r13_selfWords) (fun r => r.length = 3 ∧ ∀ y ∈ r, y.length ≤ 40) := by
  unfold r13_selfWords
  refine W.rt ?_
  have ll_1 : str_self.length = 4 := rfl
  have ll_2 : str_other.length = 5 := rfl
  exact ⟨rfl, of_decide_eq_true (by kernel_rfl)⟩
theorem r13_tapWords_W : W (r13_tapWords) (fun r => r.length = 3 ∧ ∀ y ∈ r, y.length ≤ 40) := by
  unfold r13_tapWords
  refine W.rt ?_
  have ll_1 : str_tapped.length = 6 := rfl
  have ll_2 : str_untapped.length = 8 := rfl
  exact ⟨rfl, of_decide_eq_true (by kernel_rfl)⟩
theorem r13_bit_W {a0 : Int} {a1 : Int} (p_0 : a1 ≤ 1000) : W (r13_bit a0 a1) (fun r => True) := by
  unfold r13_bit
  refine W.it (fun (v : Int × Int) => 0 ≤ v.2 ∧ (v.2 ≤ a1 ∨ v.2 ≤ 0)) (fun v => (a1 - v.2).toNat) ?_ ?_ (fun v hv => ?_)
  · (try dsimp only); first | omega | (simp; omega) | (and_intros <;> first | omega | assumption | (simp; omega) | simp)
  · (try dsimp only); first | omega | (simp; omega) | (and_intros <;> first | omega | assumption | (simp; omega) | simp)
  · obtain ⟨mask_t0_5, k_t5_6⟩ := v
    replace hv : 0 ≤ k_t5_6 ∧ (k_t5_6 ≤ a1 ∨ k_t5_6 ≤ 0) := hv
    show W (r13_bit_B8 a1 mask_t0_5 k_t5_6) _
    unfold r13_bit_B8
    refine W.if (fun hh_1 => ?_) (fun hh_1 => ?_)
    · try simp only [bz] at hh_1
      have ww_2 : wrap64 (k_t5_6 + (1 : Int)) = k_t5_6 + (1 : Int) := wrap64_id (by omega) (by omega)
      exact W.nx (by (try dsimp only); first | omega | (and_intros <;> first | omega | assumption) | (simp; omega)) (by (try dsimp only); omega)
    · try simp only [bz] at hh_1
      refine W.ex ?_
      try dsimp only [Sum.elim_inl, Sum.elim_inr]
      unfold r13_bit_J2
      exact W.rt trivial
theorem r13_signs_W : W (r13_signs) (fun r => r.length = 4 ∧ ∀ y ∈ r, y.length ≤ 40) := by
  unfold r13_signs
  refine W.rt ?_
  have ll_1 : str_x3e3d.length = 2 := rfl
  have ll_2 : str_x3c3d.length = 2 := rfl
  have ll_3 : str_x3d.length = 1 := rfl
  exact ⟨rfl, of_decide_eq_true (by kernel_rfl)⟩
theorem r01_digits_W {a0 : Int} (p_0 : 0 ≤ a0 ∧ a0 ≤ 18446744073709551615) : W (r01_digits a0) (fun r => r.length ≤ 20) := by
  refine ⟨_, (show r01_digits a0 = digits a0 from rfl).trans (digits_eq p_0.1 p_0.2), decDigits_le 19 _ (by omega)⟩
theorem r02_Join_W {a0 : List (List UInt8)} {a1 : List UInt8} (k_a0 : lkL 16 lkS a0) (k_a1 : lkS a1) (p_0 : a0.length ≤ 50) (p_1 : ∀ y ∈ a0, y.length ≤ 600) (p_2 : a1.length ≤ 10) : W (r02_Join a0 a1) (fun r => r.length ≤ 30500) := by
  unfold r02_Join
  have ll_1 : a0.length ≤ 140737488355328 := lkL_len (by decide) k_a0
  refine W.it (fun (v : (List UInt8) × Int) => 0 ≤ v.2 ∧ (v.2 ≤ a0.length ∨ v.2 ≤ 0) ∧ (v.1.length : Int) ≤ 610 * v.2) (fun v => ((a0.length : Int) - v.2).toNat) ?_ ?_ (fun v hv => ?_)
  · (try dsimp only); first | omega | (simp; omega) | (and_intros <;> first | omega | assumption | (simp; omega) | simp)
  · (try dsimp only); first | omega | (simp; omega) | (and_intros <;> first | omega | assumption | (simp; omega) | simp)
  · obtain ⟨s_t5_5, i_t6_6⟩ := v
    replace hv : 0 ≤ i_t6_6 ∧ (i_t6_6 ≤ a0.length ∨ i_t6_6 ≤ 0) ∧ (s_t5_5.length : Int) ≤ 610 * i_t6_6 := hv
    show W (r02_Join_B8 a0 a1 s_t5_5 i_t6_6) _
    unfold r02_Join_B8
    refine W.if (fun hh_2 => ?_) (fun hh_2 => ?_)
    · try simp only [bz] at hh_2
      refine W.if (fun hh_3 => ?_) (fun hh_3 => ?_)
      · try simp only [bz] at hh_3
        have ll_4 : a1.length ≤ 140737488355328 := k_a1
        refine W.bd (W.cat (by first | omega | (simp; omega))) (fun s15 q_s15 => ?_)
        replace q_s15 : s15.length = (s_t5_5).length + (a1).length := q_s15.2
        unfold r02_Join_J11
        refine W.bd (W.idx (by omega)) (fun e12 q_e12 => ?_)
        have ll_5 := p_1 e12 q_e12.1
        have ll_6 : e12.length ≤ 140737488355328 := (show lkS e12 from lkL_mem k_a0 q_e12.1)
        refine W.bd (W.cat (by first | omega | (simp; omega))) (fun s13 q_s13 => ?_)
        replace q_s13 : s13.length = (s15).length + (e12).length := q_s13.2
        have ww_7 : wrap64 (i_t6_6 + (1 : Int)) = i_t6_6 + (1 : Int) := wrap64_id (by omega) (by omega)
        exact W.nx (by (try dsimp only); first | omega | (and_intros <;> first | omega | assumption) | (simp; omega)) (by (try dsimp only); omega)
      · try simp only [bz] at hh_3
        unfold r02_Join_J11
        refine W.bd (W.idx (by omega)) (fun e12 q_e12 => ?_)
        have ll_8 := p_1 e12 q_e12.1
        have ll_9 : e12.length ≤ 140737488355328 := (show lkS e12 from lkL_mem k_a0 q_e12.1)
        refine W.bd (W.cat (by first | omega | (simp; omega))) (fun s13 q_s13 => ?_)
        replace q_s13 : s13.length = (s_t5_5).length + (e12).length := q_s13.2
        have ww_10 : wrap64 (i_t6_6 + (1 : Int)) = i_t6_6 + (1 : Int) := wrap64_id (by omega) (by omega)
        exact W.nx (by (try dsimp only); first | omega | (and_intros <;> first | omega | assumption) | (simp; omega)) (by (try dsimp only); omega)
    · try simp only [bz] at hh_2
      refine W.ex ?_
      try dsimp only [Sum.elim_inl, Sum.elim_inr]
      unfold r02_Join_J2
      refine W.rt ?_
      first | assumption | omega | (simp only [bz]; omega) | (simp only [bz]; intros; omega) | (intros; simp only [bz] at *; omega) | exact ⟨by simp, by simp⟩ | decide | simp_all
theorem r18_word_W {a0 : Int} : W (r18_word a0) (fun r => True) := by
  unfold r18_word
  refine W.if (fun hh_1 => ?_) (fun hh_1 => ?_)
  · try simp only [bz] at hh_1
    exact W.rt trivial
  · try simp only [bz] at hh_1
    refine W.if (fun hh_2 => ?_) (fun hh_2 => ?_)
    · try simp only [bz] at hh_2
      exact W.rt trivial
    · try simp only [bz] at hh_2
      refine W.if (fun hh_3 => ?_) (fun hh_3 => ?_)
      · try simp only [bz] at hh_3
        exact W.rt trivial
      · try simp only [bz] at hh_3
        refine W.if (fun hh_4 => ?_) (fun hh_4 => ?_)
        · try simp only [bz] at hh_4
          exact W.rt trivial
        · try simp only [bz] at hh_4
          refine W.if (fun hh_5 => ?_) (fun hh_5 => ?_)
          · try simp only [bz] at hh_5
            exact W.rt trivial
          · try simp only [bz] at hh_5
            refine W.if (fun hh_6 => ?_) (fun hh_6 => ?_)
            · try simp only [bz] at hh_6
              exact W.rt trivial
            · try simp only [bz] at hh_6
              refine W.if (fun hh_7 => ?_) (fun hh_7 => ?_)
              · try simp only [bz] at hh_7
                exact W.rt trivial
              · try simp only [bz] at hh_7
                refine W.if (fun hh_8 => ?_) (fun hh_8 => ?_)
                · try simp only [bz] at hh_8
                  exact W.rt trivial
                · try simp only [bz] at hh_8
                  refine W.if (fun hh_9 => ?_) (fun hh_9 => ?_)
                  · try simp only [bz] at hh_9
                    exact W.rt trivial
                  · try simp only [bz] at hh_9
                    refine W.if (fun hh_10 => ?_) (fun hh_10 => ?_)
                    · try simp only [bz] at hh_10
                      exact W.rt trivial
                    · try simp only [bz] at hh_10
                      refine W.if (fun hh_11 => ?_) (fun hh_11 => ?_)
                      · try simp only [bz] at hh_11
                        exact W.rt trivial
                      · try simp only [bz] at hh_11
                        refine W.if (fun hh_12 => ?_) (fun hh_12 => ?_)
                        · try simp only [bz] at hh_12
                          exact W.rt trivial
                        · try simp only [bz] at hh_12
                          refine W.if (fun hh_13 => ?_) (fun hh_13 => ?_)
                          · try simp only [bz] at hh_13
                            exact W.rt trivial
                          · try simp only [bz] at hh_13
                            refine W.if (fun hh_14 => ?_) (fun hh_14 => ?_)
                            · try simp only [bz] at hh_14
                              exact W.rt trivial
                            · try simp only [bz] at hh_14
                              exact W.rt trivial
theorem r18_hasWho_W {a0 : Int} : W (r18_hasWho a0) (fun r => True) := by
  unfold r18_hasWho
  refine W.lt (fun b1 bb_1 => ?_)
  refine W.lt (fun b2 bb_2 => ?_)
  refine W.lt (fun b3 bb_3 => ?_)
  refine W.lt (fun b4 bb_4 => ?_)
  refine W.lt (fun b5 bb_5 => ?_)
  exact W.rt trivial
theorem r19_plain_W {a0 : SReplace} : W (r19_plain a0) (fun r => True) := by
  unfold r19_plain
  refine W.lt (fun b1 bb_1 => ?_)
  refine W.if (fun hh_2 => ?_) (fun hh_2 => ?_)
  · try simp only [bb_1, bz] at hh_2
    exact W.rt trivial
  · try simp only [bb_1, bz] at hh_2
    refine W.lt (fun b3 bb_3 => ?_)
    refine W.if (fun hh_4 => ?_) (fun hh_4 => ?_)
    · try simp only [bb_1, bb_3, bz] at hh_4
      refine W.lt (fun b5 bb_5 => ?_)
      exact W.rt trivial
    · try simp only [bb_1, bb_3, bz] at hh_4
      exact W.rt trivial
theorem r17_Word_W {a0 : Int} : W (r17_Word a0) (fun r => True) := by
  unfold r17_Word
  refine W.lt (fun b1 bb_1 => ?_)
  refine W.if (fun hh_2 => ?_) (fun hh_2 => ?_)
  · try simp only [bb_1, bz] at hh_2
    exact W.rt trivial
  · try simp only [bb_1, bz] at hh_2
    have ll_3 : str_damage.length = 6 := rfl
    have ll_4 : str_destroy.length = 7 := rfl
    have ll_5 : str_move.length = 4 := rfl
    have ll_6 : str_draw.length = 4 := rfl
    have ll_7 : str_discard.length = 7 := rfl
    have ll_8 : str_gain.length = 4 := rfl
    have ll_9 : str_lose.length = 4 := rfl
    have ll_10 : str_tap.length = 3 := rfl
    have ll_11 : str_untap.length = 5 := rfl
    have ll_12 : str_put.length = 3 := rfl
    have ll_13 : str_take.length = 4 := rfl
    have ll_14 : str_create.length = 6 := rfl
    have ll_15 : str_mod.length = 3 := rfl
    have ll_16 : str_mana.length = 4 := rfl
    have ll_17 : str_counter.length = 7 := rfl
    have ll_18 : str_copy.length = 4 := rfl
    have ll_19 : str_become.length = 6 := rfl
    have ll_20 : str_sacrifice.length = 9 := rfl
    have ll_21 : str_mill.length = 4 := rfl
    have ll_22 : str_scry.length = 4 := rfl
    have ll_23 : str_search.length = 6 := rfl
    have ll_24 : str_shield.length = 6 := rfl
    have ll_25 : str_turn.length = 4 := rfl
    have ll_26 : str_win.length = 3 := rfl
    have ll_27 : str_defeat.length = 6 := rfl
    have ll_28 : str_venom.length = 5 := rfl
    have ll_29 : ([str_damage, str_destroy, str_move, str_draw, str_discard, str_gain, str_lose, str_tap, str_untap, str_put, str_take, str_create, str_mod, str_mana, str_counter, str_copy, str_become, str_sacrifice, str_mill, str_scry, str_search, str_shield, str_turn, str_win, str_defeat, str_venom] : List (List UInt8)).length = 26 := rfl
    refine W.bd (W.idx (by have ww_30 : wrap64 (a0 - (1 : Int)) = a0 - (1 : Int) := wrap64_id (by omega) (by omega); omega)) (fun e3 q_e3 => ?_)
    exact W.rt trivial
theorem r16_numbered_W {a0 : Int} : W (r16_numbered a0) (fun r => True) := by
  unfold r16_numbered
  refine W.lt (fun b1 bb_1 => ?_)
  exact W.rt trivial
theorem r12_Name_W {a0 : Int} : W (r12_Name a0) (fun r => True) := by
  unfold r12_Name
  refine W.if (fun hh_1 => ?_) (fun hh_1 => ?_)
  · try simp only [bz] at hh_1
    exact W.rt trivial
  · try simp only [bz] at hh_1
    refine W.if (fun hh_2 => ?_) (fun hh_2 => ?_)
    · try simp only [bz] at hh_2
      exact W.rt trivial
    · try simp only [bz] at hh_2
      refine W.if (fun hh_3 => ?_) (fun hh_3 => ?_)
      · try simp only [bz] at hh_3
        exact W.rt trivial
      · try simp only [bz] at hh_3
        exact W.rt trivial
theorem r21_fast_W {a0 : SCard} : W (r21_fast a0) (fun r => True) := by
  unfold r21_fast
  refine W.lt (fun b1 bb_1 => ?_)
  exact W.rt trivial
theorem r22_Find_W {a0 : List (SCard)} {a1 : List UInt8} (k_a0 : lkL 176 lkSCard a0) : W (r22_Find a0 a1) (fun r => True) := by
  unfold r22_Find
  have ll_1 : a0.length ≤ 140737488355328 := lkL_len (by decide) k_a0
  refine W.it (fun (v : Int) => 0 ≤ v ∧ (v ≤ (a0.length : Int) ∨ v ≤ 0)) (fun v => ((a0.length : Int) - v).toNat) ?_ ?_ (fun v hv => ?_)
  · (try dsimp only); first | omega | (simp; omega) | (and_intros <;> first | omega | assumption | (simp; omega) | simp)
  · (try dsimp only); first | omega | (simp; omega) | (and_intros <;> first | omega | assumption | (simp; omega) | simp)
  · obtain ⟨i_t5_3, hv0⟩ : ∃ x, x = v := ⟨v, rfl⟩
    subst hv0
    replace hv : 0 ≤ i_t5_3 ∧ (i_t5_3 ≤ (a0.length : Int) ∨ i_t5_3 ≤ 0) := hv
    show W (r22_Find_B5 a0 a1 i_t5_3) _
    unfold r22_Find_B5
    refine W.if (fun hh_2 => ?_) (fun hh_2 => ?_)
    · try simp only [bz] at hh_2
      refine W.bd (W.idx (by omega)) (fun e7 q_e7 => ?_)
      refine W.if (fun hh_3 => ?_) (fun hh_3 => ?_)
      · try simp only [bz] at hh_3
        refine W.ex ?_
        try dsimp only [Sum.elim_inl, Sum.elim_inr]
        exact W.rt trivial
      · try simp only [bz] at hh_3
        have ww_4 : wrap64 (i_t5_3 + (1 : Int)) = i_t5_3 + (1 : Int) := wrap64_id (by omega) (by omega)
        exact W.nx (by (try dsimp only); first | omega | (and_intros <;> first | omega | assumption) | (simp; omega)) (by (try dsimp only); omega)
    · try simp only [bz] at hh_2
      refine W.ex ?_
      try dsimp only [Sum.elim_inl, Sum.elim_inr]
      unfold r22_Find_J1
      exact W.rt trivial
theorem r17_Uses_J15_W {vt29_14 : Bool} : W (r17_Uses_J15 vt29_14) (fun r => r.length ≤ 5) := by
  unfold r17_Uses_J15
  refine W.if (fun hh_1 => ?_) (fun hh_1 => ?_)
  · try simp only [bz] at hh_1
    refine W.rt ?_
    first | assumption | omega | (simp only [bz]; omega) | (simp only [bz]; intros; omega) | (intros; simp only [bz] at *; omega) | exact ⟨by simp, by simp⟩ | decide | simp_all
  · try simp only [bz] at hh_1
    refine W.rt ?_
    have ll_2 : str_ra.length = 2 := rfl
    first | assumption | omega | (simp only [bz]; omega) | (simp only [bz]; intros; omega) | (intros; simp only [bz] at *; omega) | exact ⟨by simp, by simp⟩ | decide | simp_all
theorem r17_Uses_J6_W {a0 : Int} {vt14_5 : Bool} : W (r17_Uses_J6 a0 vt14_5) (fun r => r.length ≤ 5) := by
  unfold r17_Uses_J6
  refine W.if (fun hh_1 => ?_) (fun hh_1 => ?_)
  · try simp only [bz] at hh_1
    refine W.rt ?_
    have ll_2 : str_rka.length = 3 := rfl
    first | assumption | omega | (simp only [bz]; omega) | (simp only [bz]; intros; omega) | (intros; simp only [bz] at *; omega) | exact ⟨by simp, by simp⟩ | decide | simp_all
  · try simp only [bz] at hh_1
    refine W.if (fun hh_3 => ?_) (fun hh_3 => ?_)
    · try simp only [bz] at hh_3
      refine W.rt ?_
      have ll_4 : str_rca.length = 3 := rfl
      first | assumption | omega | (simp only [bz]; omega) | (simp only [bz]; intros; omega) | (intros; simp only [bz] at *; omega) | exact ⟨by simp, by simp⟩ | decide | simp_all
    · try simp only [bz] at hh_3
      refine W.if (fun hh_5 => ?_) (fun hh_5 => ?_)
      · try simp only [bz] at hh_5
        refine W.rt ?_
        have ll_6 : str_rm.length = 2 := rfl
        first | assumption | omega | (simp only [bz]; omega) | (simp only [bz]; intros; omega) | (intros; simp only [bz] at *; omega) | exact ⟨by simp, by simp⟩ | decide | simp_all
      · try simp only [bz] at hh_5
        refine W.if (fun hh_7 => ?_) (fun hh_7 => ?_)
        · try simp only [bz] at hh_7
          refine W.rt ?_
          have ll_8 : str_p.length = 1 := rfl
          first | assumption | omega | (simp only [bz]; omega) | (simp only [bz]; intros; omega) | (intros; simp only [bz] at *; omega) | exact ⟨by simp, by simp⟩ | decide | simp_all
        · try simp only [bz] at hh_7
          refine W.if (fun hh_9 => ?_) (fun hh_9 => ?_)
          · try simp only [bz] at hh_9
            refine W.rt ?_
            have ll_10 : str_raf.length = 3 := rfl
            first | assumption | omega | (simp only [bz]; omega) | (simp only [bz]; intros; omega) | (intros; simp only [bz] at *; omega) | exact ⟨by simp, by simp⟩ | decide | simp_all
          · try simp only [bz] at hh_9
            refine W.if (fun hh_11 => ?_) (fun hh_11 => ?_)
            · try simp only [bz] at hh_11
              refine W.rt ?_
              have ll_12 : str_a.length = 1 := rfl
              first | assumption | omega | (simp only [bz]; omega) | (simp only [bz]; intros; omega) | (intros; simp only [bz] at *; omega) | exact ⟨by simp, by simp⟩ | decide | simp_all
            · try simp only [bz] at hh_11
              refine W.if (fun hh_13 => ?_) (fun hh_13 => ?_)
              · try simp only [bz] at hh_13
                refine W.rt ?_
                have ll_14 : str_f.length = 1 := rfl
                first | assumption | omega | (simp only [bz]; omega) | (simp only [bz]; intros; omega) | (intros; simp only [bz] at *; omega) | exact ⟨by simp, by simp⟩ | decide | simp_all
              · try simp only [bz] at hh_13
                refine W.if (fun hh_15 => ?_) (fun hh_15 => ?_)
                · try simp only [bz] at hh_15
                  exact r17_Uses_J15_W
                · try simp only [bz] at hh_15
                  exact r17_Uses_J15_W
theorem r17_Uses_J2_W {a0 : Int} {vt4_1 : Bool} : W (r17_Uses_J2 a0 vt4_1) (fun r => r.length ≤ 5) := by
  unfold r17_Uses_J2
  refine W.if (fun hh_1 => ?_) (fun hh_1 => ?_)
  · try simp only [bz] at hh_1
    refine W.rt ?_
    have ll_2 : str_r.length = 1 := rfl
    first | assumption | omega | (simp only [bz]; omega) | (simp only [bz]; intros; omega) | (intros; simp only [bz] at *; omega) | exact ⟨by simp, by simp⟩ | decide | simp_all
  · try simp only [bz] at hh_1
    refine W.if (fun hh_3 => ?_) (fun hh_3 => ?_)
    · try simp only [bz] at hh_3
      refine W.rt ?_
      have ll_4 : str_rz.length = 2 := rfl
      first | assumption | omega | (simp only [bz]; omega) | (simp only [bz]; intros; omega) | (intros; simp only [bz] at *; omega) | exact ⟨by simp, by simp⟩ | decide | simp_all
    · try simp only [bz] at hh_3
      refine W.if (fun hh_5 => ?_) (fun hh_5 => ?_)
      · try simp only [bz] at hh_5
        exact r17_Uses_J6_W
      · try simp only [bz] at hh_5
        exact r17_Uses_J6_W
theorem r17_Uses_W {a0 : Int} : W (r17_Uses a0) (fun r => r.length ≤ 5) := by
  unfold r17_Uses
  refine W.if (fun hh_1 => ?_) (fun hh_1 => ?_)
  · try simp only [bz] at hh_1
    exact r17_Uses_J2_W
  · try simp only [bz] at hh_1
    refine W.if (fun hh_3 => ?_) (fun hh_3 => ?_)
    · try simp only [bz] at hh_3
      exact r17_Uses_J2_W
    · try simp only [bz] at hh_3
      refine W.if (fun hh_5 => ?_) (fun hh_5 => ?_)
      · try simp only [bz] at hh_5
        exact r17_Uses_J2_W
      · try simp only [bz] at hh_5
        refine W.if (fun hh_7 => ?_) (fun hh_7 => ?_)
        · try simp only [bz] at hh_7
          exact r17_Uses_J2_W
        · try simp only [bz] at hh_7
          refine W.if (fun hh_9 => ?_) (fun hh_9 => ?_)
          · try simp only [bz] at hh_9
            exact r17_Uses_J2_W
          · try simp only [bz] at hh_9
            refine W.if (fun hh_11 => ?_) (fun hh_11 => ?_)
            · try simp only [bz] at hh_11
              exact r17_Uses_J2_W
            · try simp only [bz] at hh_11
              exact r17_Uses_J2_W
theorem r08_cost_W {a0 : A6 (Int)} : W (r08_cost a0) (fun r => True) := by
  unfold r08_cost
  have ll_1 : a0.l.length = 6 := rfl
  refine W.bd (W.idx (by omega)) (fun e1 q_e1 => ?_)
  refine W.it (fun (v : Int × SCost) => 0 ≤ v.1 ∧ (v.1 ≤ (5 : Int) ∨ v.1 ≤ 0)) (fun v => ((5 : Int) - v.1).toNat) ?_ ?_ (fun v hv => ?_)
  · (try dsimp only); first | omega | (simp; omega) | (and_intros <;> first | omega | assumption | (simp; omega) | simp)
  · (try dsimp only); first | omega | (simp; omega) | (and_intros <;> first | omega | assumption | (simp; omega) | simp)
  · obtain ⟨i_t4_6, b3_7⟩ := v
    replace hv : 0 ≤ i_t4_6 ∧ (i_t4_6 ≤ (5 : Int) ∨ i_t4_6 ≤ 0) := hv
    show W (r08_cost_B9 a0 i_t4_6 b3_7) _
    unfold r08_cost_B9
    refine W.if (fun hh_2 => ?_) (fun hh_2 => ?_)
    · try simp only [bz] at hh_2
      refine W.bd (W.idx (by have ww_3 : wrap64 (i_t4_6 + (1 : Int)) = i_t4_6 + (1 : Int) := wrap64_id (by omega) (by omega); omega)) (fun e11 q_e11 => ?_)
      have ll_4 : b3_7.Color.l.length = 5 := rfl
      refine W.bd (W.idx (by omega)) (fun e12 q_e12 => ?_)
      have ww_5 : wrap64 (i_t4_6 + (1 : Int)) = i_t4_6 + (1 : Int) := wrap64_id (by omega) (by omega)
      exact W.nx (by (try dsimp only); first | omega | (and_intros <;> first | omega | assumption) | (simp; omega)) (by (try dsimp only); omega)
    · try simp only [bz] at hh_2
      refine W.ex ?_
      try dsimp only [Sum.elim_inl, Sum.elim_inr]
      unfold r08_cost_J3
      exact W.rt trivial
theorem r22_token_W {a0 : List (SCard)} {a1 : List UInt8} (k_a0 : lkL 176 lkSCard a0) : W (r22_token a0 a1) (fun r => True) := by
  unfold r22_token
  have ll_1 : a0.length ≤ 140737488355328 := lkL_len (by decide) k_a0
  refine W.it (fun (v : Int) => 0 ≤ v ∧ (v ≤ (a0.length : Int) ∨ v ≤ 0)) (fun v => ((a0.length : Int) - v).toNat) ?_ ?_ (fun v hv => ?_)
  · (try dsimp only); first | omega | (simp; omega) | (and_intros <;> first | omega | assumption | (simp; omega) | simp)
  · (try dsimp only); first | omega | (simp; omega) | (and_intros <;> first | omega | assumption | (simp; omega) | simp)
  · obtain ⟨i_t5_3, hv0⟩ : ∃ x, x = v := ⟨v, rfl⟩
    subst hv0
    replace hv : 0 ≤ i_t5_3 ∧ (i_t5_3 ≤ (a0.length : Int) ∨ i_t5_3 ≤ 0) := hv
    show W (r22_token_B4 a0 a1 i_t5_3) _
    unfold r22_token_B4
    refine W.if (fun hh_2 => ?_) (fun hh_2 => ?_)
    · try simp only [bz] at hh_2
      refine W.bd (W.idx (by omega)) (fun e6 q_e6 => ?_)
      refine W.gb (fun gg_3 => by try simp only [bz] at gg_3; exact W.idx (by omega)) (fun e7 q_e7 => ?_)
      refine W.lt (fun b8 bb_4 => ?_)
      refine W.if (fun hh_5 => ?_) (fun hh_5 => ?_)
      · try simp only [bb_4, bz] at hh_5
        refine W.ex ?_
        try dsimp only [Sum.elim_inl, Sum.elim_inr]
        exact W.rt trivial
      · try simp only [bb_4, bz] at hh_5
        have ww_6 : wrap64 (i_t5_3 + (1 : Int)) = i_t5_3 + (1 : Int) := wrap64_id (by omega) (by omega)
        exact W.nx (by (try dsimp only); first | omega | (and_intros <;> first | omega | assumption) | (simp; omega)) (by (try dsimp only); omega)
    · try simp only [bz] at hh_2
      refine W.ex ?_
      try dsimp only [Sum.elim_inl, Sum.elim_inr]
      unfold r22_token_J1
      exact W.rt trivial
theorem r02_Is_W {a0 : List UInt8} (k_a0 : lkS a0) : W (r02_Is a0) (fun r => r = true → a0.length ≤ 32) := by
  unfold r02_Is
  refine W.lt (fun b1 bb_1 => ?_)
  refine W.gb (fun gg_2 => by try simp only [bb_1, bz] at gg_2; have ll_3 : a0.length ≤ 140737488355328 := k_a0; exact W.sidx (by omega)) (fun c2 q_c2 => ?_)
  refine W.gb (fun gg_4 => by try simp only [bb_1, bz] at gg_4; exact r02_low_W) (fun r3 q_r3 => ?_)
  refine W.lt (fun b4 bb_5 => ?_)
  refine W.gb (fun gg_6 => by try simp only [bb_1, bb_5, bz] at gg_6; have ll_7 : a0.length ≤ 140737488355328 := k_a0; exact W.sidx (by have ww_8 : wrap64 ((a0.length : Int) - (1 : Int)) = (a0.length : Int) - (1 : Int) := wrap64_id (by omega) (by omega); omega)) (fun c5 q_c5 => ?_)
  refine W.lt (fun b6 bb_9 => ?_)
  refine W.if (fun hh_10 => ?_) (fun hh_10 => ?_)
  · try simp only [bb_1, bb_5, bb_9, bz] at hh_10
    refine W.rt ?_
    first | (intro hz; cases hz; done) | (intro _; omega)
  · try simp only [bb_1, bb_5, bb_9, bz] at hh_10
    have ll_11 : a0.length ≤ 140737488355328 := k_a0
    refine W.it (fun (v : Int) => 0 ≤ v ∧ (v ≤ (a0.length : Int) ∨ v ≤ 0)) (fun v => ((a0.length : Int) - v).toNat) ?_ ?_ (fun v hv => ?_)
    · (try dsimp only); first | omega | (simp; omega) | (and_intros <;> first | omega | assumption | (simp; omega) | simp)
    · (try dsimp only); first | omega | (simp; omega) | (and_intros <;> first | omega | assumption | (simp; omega) | simp)
    · obtain ⟨i_t3_10, hv0⟩ : ∃ x, x = v := ⟨v, rfl⟩
      subst hv0
      replace hv : 0 ≤ i_t3_10 ∧ (i_t3_10 ≤ (a0.length : Int) ∨ i_t3_10 ≤ 0) := hv
      show W (r02_Is_B11 a0 i_t3_10) _
      unfold r02_Is_B11
      refine W.if (fun hh_12 => ?_) (fun hh_12 => ?_)
      · try simp only [bb_1, bb_5, bb_9, bz] at hh_12
        refine W.bd (W.sidx (by omega)) (fun c13 q_c13 => ?_)
        refine W.bd (r02_low_W) (fun r14 q_r14 => ?_)
        refine W.gb (fun gg_13 => by try simp only [bb_1, bb_5, bb_9, bz] at gg_13; exact W.sidx (by omega)) (fun c15 q_c15 => ?_)
        refine W.gb (fun gg_14 => by try simp only [bb_1, bb_5, bb_9, bz] at gg_14; exact W.sidx (by omega)) (fun c16 q_c16 => ?_)
        refine W.lt (fun b17 bb_15 => ?_)
        refine W.lt (fun b18 bb_16 => ?_)
        refine W.gb (fun gg_17 => by try simp only [bb_1, bb_5, bb_9, bb_15, bb_16, bz] at gg_17; exact W.sidx (by omega)) (fun c19 q_c19 => ?_)
        refine W.lt (fun b20 bb_18 => ?_)
        refine W.if (fun hh_19 => ?_) (fun hh_19 => ?_)
        · try simp only [bb_1, bb_5, bb_9, bb_15, bb_16, bb_18, bz] at hh_19
          refine W.ex ?_
          try dsimp only [Sum.elim_inl, Sum.elim_inr]
          refine W.rt ?_
          first | (intro hz; cases hz; done) | (intro _; omega)
        · try simp only [bb_1, bb_5, bb_9, bb_15, bb_16, bb_18, bz] at hh_19
          refine W.gb (fun gg_20 => by try simp only [bb_1, bb_5, bb_9, bb_15, bb_16, bb_18, bz] at gg_20; exact W.sidx (by omega)) (fun c22 q_c22 => ?_)
          refine W.lt (fun b23 bb_21 => ?_)
          refine W.gb (fun gg_22 => by try simp only [bb_1, bb_5, bb_9, bb_15, bb_16, bb_18, bb_21, bz] at gg_22; exact W.sidx (by have ww_23 : wrap64 (i_t3_10 - (1 : Int)) = i_t3_10 - (1 : Int) := wrap64_id (by omega) (by omega); omega)) (fun c24 q_c24 => ?_)
          refine W.lt (fun b25 bb_24 => ?_)
          refine W.if (fun hh_25 => ?_) (fun hh_25 => ?_)
          · try simp only [bb_1, bb_5, bb_9, bb_15, bb_16, bb_18, bb_21, bb_24, bz] at hh_25
            refine W.ex ?_
            try dsimp only [Sum.elim_inl, Sum.elim_inr]
            refine W.rt ?_
            first | (intro hz; cases hz; done) | (intro _; omega)
          · try simp only [bb_1, bb_5, bb_9, bb_15, bb_16, bb_18, bb_21, bb_24, bz] at hh_25
            have ww_26 : wrap64 (i_t3_10 + (1 : Int)) = i_t3_10 + (1 : Int) := wrap64_id (by omega) (by omega)
            exact W.nx (by (try dsimp only); first | omega | (and_intros <;> first | omega | assumption) | (simp; omega)) (by (try dsimp only); omega)
      · try simp only [bb_1, bb_5, bb_9, bz] at hh_12
        refine W.ex ?_
        try dsimp only [Sum.elim_inl, Sum.elim_inr]
        unfold r02_Is_J8
        refine W.rt ?_
        first | (intro hz; cases hz; done) | (intro _; omega)
theorem r10_joined_W {a0 : List (List UInt8)} {a1 : Int} {a2 : List UInt8} (k_a0 : lkL 16 lkS a0) (k_a2 : lkS a2) (p_0 : a0.length ≤ 10) (p_1 : ∀ y ∈ a0, y.length ≤ 40) (p_2 : a2.length ≤ 1) : W (r10_joined a0 a1 a2) (fun r => r.length ≤ 500) := by
  unfold r10_joined
  have ll_1 : a0.length ≤ 140737488355328 := lkL_len (by decide) k_a0
  refine W.it (fun (v : (List UInt8) × Int) => 0 ≤ v.2 ∧ (v.2 ≤ a0.length ∨ v.2 ≤ 0) ∧ (v.1.length : Int) ≤ 41 * v.2) (fun v => ((a0.length : Int) - v.2).toNat) ?_ ?_ (fun v hv => ?_)
  · (try dsimp only); first | omega | (simp; omega) | (and_intros <;> first | omega | assumption | (simp; omega) | simp)
  · (try dsimp only); first | omega | (simp; omega) | (and_intros <;> first | omega | assumption | (simp; omega) | simp)
  · obtain ⟨s_t7_5, i_t8_6⟩ := v
    replace hv : 0 ≤ i_t8_6 ∧ (i_t8_6 ≤ a0.length ∨ i_t8_6 ≤ 0) ∧ (s_t7_5.length : Int) ≤ 41 * i_t8_6 := hv
    show W (r10_joined_B8 a0 a1 a2 s_t7_5 i_t8_6) _
    unfold r10_joined_B8
    refine W.if (fun hh_2 => ?_) (fun hh_2 => ?_)
    · try simp only [bz] at hh_2
      refine W.bd (r10_bit_W (by first | assumption | omega | exact wrapu64_bd _ | (simp; done) | (simp; omega))) (fun r12 q_r12 => ?_)
      refine W.if (fun hh_3 => ?_) (fun hh_3 => ?_)
      · try simp only [bz] at hh_3
        refine W.if (fun hh_4 => ?_) (fun hh_4 => ?_)
        · try simp only [bz] at hh_4
          have ll_5 : a2.length ≤ 140737488355328 := k_a2
          refine W.bd (W.cat (by first | omega | (simp; omega))) (fun s19 q_s19 => ?_)
          replace q_s19 : s19.length = (s_t7_5).length + (a2).length := q_s19.2
          unfold r10_joined_J15
          refine W.bd (W.idx (by omega)) (fun e16 q_e16 => ?_)
          have ll_6 := p_1 e16 q_e16.1
          have ll_7 : e16.length ≤ 140737488355328 := (show lkS e16 from lkL_mem k_a0 q_e16.1)
          refine W.bd (W.cat (by first | omega | (simp; omega))) (fun s17 q_s17 => ?_)
          replace q_s17 : s17.length = (s19).length + (e16).length := q_s17.2
          unfold r10_joined_J11
          have ww_8 : wrap64 (i_t8_6 + (1 : Int)) = i_t8_6 + (1 : Int) := wrap64_id (by omega) (by omega)
          exact W.nx (by (try dsimp only); first | omega | (and_intros <;> first | omega | assumption) | (simp; omega)) (by (try dsimp only); omega)
        · try simp only [bz] at hh_4
          unfold r10_joined_J15
          refine W.bd (W.idx (by omega)) (fun e16 q_e16 => ?_)
          have ll_9 := p_1 e16 q_e16.1
          have ll_10 : e16.length ≤ 140737488355328 := (show lkS e16 from lkL_mem k_a0 q_e16.1)
          refine W.bd (W.cat (by first | omega | (simp; omega))) (fun s17 q_s17 => ?_)
          replace q_s17 : s17.length = (s_t7_5).length + (e16).length := q_s17.2
          unfold r10_joined_J11
          have ww_11 : wrap64 (i_t8_6 + (1 : Int)) = i_t8_6 + (1 : Int) := wrap64_id (by omega) (by omega)
          exact W.nx (by (try dsimp only); first | omega | (and_intros <;> first | omega | assumption) | (simp; omega)) (by (try dsimp only); omega)
      · try simp only [bz] at hh_3
        unfold r10_joined_J11
        have ww_12 : wrap64 (i_t8_6 + (1 : Int)) = i_t8_6 + (1 : Int) := wrap64_id (by omega) (by omega)
        exact W.nx (by (try dsimp only); first | omega | (and_intros <;> first | omega | assumption) | (simp; omega)) (by (try dsimp only); omega)
    · try simp only [bz] at hh_2
      refine W.ex ?_
      try dsimp only [Sum.elim_inl, Sum.elim_inr]
      unfold r10_joined_J2
      refine W.rt ?_
      first | assumption | omega | (simp only [bz]; omega) | (simp only [bz]; intros; omega) | (intros; simp only [bz] at *; omega) | exact ⟨by simp, by simp⟩ | decide | simp_all
theorem r09_Text_W {a0 : Int} : W (r09_Text a0) (fun r => r.length ≤ 150) := by
  unfold r09_Text
  refine W.bd (r09_Is_W) (fun r1 q_r1 => ?_)
  refine W.if (fun hh_1 => ?_) (fun hh_1 => ?_)
  · try simp only [bz] at hh_1
    refine W.rt ?_
    first | assumption | omega | (simp only [bz]; omega) | (simp only [bz]; intros; omega) | (intros; simp only [bz] at *; omega) | exact ⟨by simp, by simp⟩ | decide | simp_all
  · try simp only [bz] at hh_1
    refine W.if (fun hh_2 => ?_) (fun hh_2 => ?_)
    · try simp only [bz] at hh_2
      refine W.rt ?_
      have ll_3 : str_none.length = 4 := rfl
      first | assumption | omega | (simp only [bz]; omega) | (simp only [bz]; intros; omega) | (intros; simp only [bz] at *; omega) | exact ⟨by simp, by simp⟩ | decide | simp_all
    · try simp only [bz] at hh_2
      refine W.it (fun (v : (List UInt8) × Int) => 0 ≤ v.2 ∧ v.2 ≤ 5 ∧ (v.1.length : Int) ≤ 20 * v.2) (fun v => (5 - v.2).toNat) ?_ ?_ (fun v hv => ?_)
      · (try dsimp only); first | omega | (simp; omega) | (and_intros <;> first | omega | assumption | (simp; omega) | simp)
      · (try dsimp only); first | omega | (simp; omega) | (and_intros <;> first | omega | assumption | (simp; omega) | simp)
      · obtain ⟨out_t3_8, i_t4_9⟩ := v
        replace hv : 0 ≤ i_t4_9 ∧ i_t4_9 ≤ 5 ∧ (out_t3_8.length : Int) ≤ 20 * i_t4_9 := hv
        show W (r09_Text_B11 a0 out_t3_8 i_t4_9) _
        unfold r09_Text_B11
        refine W.if (fun hh_4 => ?_) (fun hh_4 => ?_)
        · try simp only [bz] at hh_4
          refine W.bd (W.need (by first | omega | (refine shl_ne ?_; omega))) (fun u15 q_u15 => ?_)
          refine W.bd (W.need (by first | omega | (refine shl_ne ?_; omega))) (fun u16 q_u16 => ?_)
          refine W.if (fun hh_5 => ?_) (fun hh_5 => ?_)
          · try simp only [bz] at hh_5
            refine W.if (fun hh_6 => ?_) (fun hh_6 => ?_)
            · try simp only [bz] at hh_6
              have ll_7 : str_x2b.length = 1 := rfl
              refine W.bd (W.cat (by first | omega | (simp; omega))) (fun s23 q_s23 => ?_)
              replace q_s23 : s23.length = (out_t3_8).length + (str_x2b).length := q_s23.2
              unfold r09_Text_J19
              refine W.bd (r09_Name_W) (fun r20 q_r20 => ?_)
              replace q_r20 : r20.length ≤ 10 := q_r20
              refine W.bd (W.cat (by first | omega | (simp; omega))) (fun s21 q_s21 => ?_)
              replace q_s21 : s21.length = (s23).length + (r20).length := q_s21.2
              unfold r09_Text_J14
              have ww_8 : wrap64 (i_t4_9 + (1 : Int)) = i_t4_9 + (1 : Int) := wrap64_id (by omega) (by omega)
              exact W.nx (by (try dsimp only); first | omega | (and_intros <;> first | omega | assumption) | (simp; omega)) (by (try dsimp only); omega)
            · try simp only [bz] at hh_6
              unfold r09_Text_J19
              refine W.bd (r09_Name_W) (fun r20 q_r20 => ?_)
              replace q_r20 : r20.length ≤ 10 := q_r20
              refine W.bd (W.cat (by first | omega | (simp; omega))) (fun s21 q_s21 => ?_)
              replace q_s21 : s21.length = (out_t3_8).length + (r20).length := q_s21.2
              unfold r09_Text_J14
              have ww_9 : wrap64 (i_t4_9 + (1 : Int)) = i_t4_9 + (1 : Int) := wrap64_id (by omega) (by omega)
              exact W.nx (by (try dsimp only); first | omega | (and_intros <;> first | omega | assumption) | (simp; omega)) (by (try dsimp only); omega)
          · try simp only [bz] at hh_5
            unfold r09_Text_J14
            have ww_10 : wrap64 (i_t4_9 + (1 : Int)) = i_t4_9 + (1 : Int) := wrap64_id (by omega) (by omega)
            exact W.nx (by (try dsimp only); first | omega | (and_intros <;> first | omega | assumption) | (simp; omega)) (by (try dsimp only); omega)
        · try simp only [bz] at hh_4
          refine W.ex ?_
          try dsimp only [Sum.elim_inl, Sum.elim_inr]
          unfold r09_Text_J5
          refine W.rt ?_
          first | assumption | omega | (simp only [bz]; omega) | (simp only [bz]; intros; omega) | (intros; simp only [bz] at *; omega) | exact ⟨by simp, by simp⟩ | decide | simp_all
theorem r11_Name_W {a0 : Int} : W (r11_Name a0) (fun r => r.length ≤ 40) := by
  unfold r11_Name
  refine W.lt (fun b1 bb_1 => ?_)
  refine W.if (fun hh_2 => ?_) (fun hh_2 => ?_)
  · try simp only [bb_1, bz] at hh_2
    refine W.rt ?_
    first | assumption | omega | (simp only [bb_1, bz]; omega) | (simp only [bb_1, bz]; intros; omega) | (intros; simp only [bb_1, bz] at *; omega) | exact ⟨by simp, by simp⟩ | decide | simp_all
  · try simp only [bb_1, bz] at hh_2
    refine W.bd (r11_names_W) (fun r3 q_r3 => ?_)
    replace q_r3 : r3.length = 17 ∧ ∀ y ∈ r3, y.length ≤ 40 := q_r3
    obtain ⟨q_r3_1, q_r3_2⟩ := q_r3
    refine W.bd (W.idx (by omega)) (fun e4 q_e4 => ?_)
    have ll_3 := q_r3_2 e4 q_e4.1
    refine W.rt ?_
    first | assumption | omega | (simp only [bb_1, bz]; omega) | (simp only [bb_1, bz]; intros; omega) | (intros; simp only [bb_1, bz] at *; omega) | exact ⟨by simp, by simp⟩ | decide | simp_all
theorem r01_Text_W {a0 : Int} : W (r01_Text a0) (fun r => r.length ≤ 21) := by
  unfold r01_Text
  refine W.if (fun hh_1 => ?_) (fun hh_1 => ?_)
  · try simp only [bz] at hh_1
    refine W.bd (r01_digits_W (by first | assumption | omega | exact wrapu64_bd _ | (simp; done) | (simp; omega))) (fun r2 q_r2 => ?_)
    replace q_r2 : r2.length ≤ 20 := q_r2
    have ll_2 : str_x2d.length = 1 := rfl
    refine W.bd (W.cat (by first | omega | (simp; omega))) (fun s3 q_s3 => ?_)
    replace q_s3 : s3.length = (str_x2d).length + (r2).length := q_s3.2
    refine W.rt ?_
    first | assumption | omega | (simp only [bz]; omega) | (simp only [bz]; intros; omega) | (intros; simp only [bz] at *; omega) | exact ⟨by simp, by simp⟩ | decide | simp_all
  · try simp only [bz] at hh_1
    refine W.bd (r01_digits_W (by first | assumption | omega | exact wrapu64_bd _ | (simp; done) | (simp; omega))) (fun r4 q_r4 => ?_)
    replace q_r4 : r4.length ≤ 20 := q_r4
    refine W.rt ?_
    first | assumption | omega | (simp only [bz]; omega) | (simp only [bz]; intros; omega) | (intros; simp only [bz] at *; omega) | exact ⟨by simp, by simp⟩ | decide | simp_all
theorem r20_price_W {a0 : SPrice} : W (r20_price a0) (fun r => True) := by
  unfold r20_price
  refine W.bd (r08_Is_W) (fun r1 q_r1 => ?_)
  replace q_r1 : r1 = true → a0.Mana.X ≤ 2 ∧ ∀ i : Int, 0 ≤ i → i < 5 → a0.Mana.Color.l.getD i.toNat default ≤ 9 := q_r1
  have ll_1 : a0.Mana.Color.l.length = 5 := rfl
  refine W.lt (fun b2 bb_2 => ?_)
  refine W.lt (fun b3 bb_3 => ?_)
  refine W.lt (fun b4 bb_4 => ?_)
  exact W.rt trivial
theorem r18_hasFilter_W {a0 : Int} : W (r18_hasFilter a0) (fun r => True) := by
  unfold r18_hasFilter
  refine W.bd (r18_word_W) (fun r1 q_r1 => ?_)
  refine W.gb (fun gg_1 => by try simp only [bz] at gg_1; exact r18_hasWho_W) (fun r2 q_r2 => ?_)
  refine W.lt (fun b3 bb_2 => ?_)
  refine W.lt (fun b4 bb_3 => ?_)
  exact W.rt trivial
theorem r17_uses_W {a0 : Int} {a1 : Int} : W (r17_uses a0 a1) (fun r => True) := by
  unfold r17_uses
  refine W.bd (r17_Uses_W) (fun r1 q_r1 => ?_)
  replace q_r1 : r1.length ≤ 5 := q_r1
  refine W.it (fun (v : Int) => 0 ≤ v ∧ (v ≤ (r1.length : Int) ∨ v ≤ 0)) (fun v => ((r1.length : Int) - v).toNat) ?_ ?_ (fun v hv => ?_)
  · (try dsimp only); first | omega | (simp; omega) | (and_intros <;> first | omega | assumption | (simp; omega) | simp)
  · (try dsimp only); first | omega | (simp; omega) | (and_intros <;> first | omega | assumption | (simp; omega) | simp)
  · obtain ⟨i_t6_4, hv0⟩ : ∃ x, x = v := ⟨v, rfl⟩
    subst hv0
    replace hv : 0 ≤ i_t6_4 ∧ (i_t6_4 ≤ (r1.length : Int) ∨ i_t6_4 ≤ 0) := hv
    show W (r17_uses_B5 a1 r1 i_t6_4) _
    unfold r17_uses_B5
    refine W.if (fun hh_1 => ?_) (fun hh_1 => ?_)
    · try simp only [bz] at hh_1
      refine W.bd (W.sidx (by omega)) (fun c7 q_c7 => ?_)
      refine W.if (fun hh_2 => ?_) (fun hh_2 => ?_)
      · try simp only [bz] at hh_2
        refine W.ex ?_
        try dsimp only [Sum.elim_inl, Sum.elim_inr]
        exact W.rt trivial
      · try simp only [bz] at hh_2
        have ww_3 : wrap64 (i_t6_4 + (1 : Int)) = i_t6_4 + (1 : Int) := wrap64_id (by omega) (by omega)
        exact W.nx (by (try dsimp only); first | omega | (and_intros <;> first | omega | assumption) | (simp; omega)) (by (try dsimp only); omega)
    · try simp only [bz] at hh_1
      refine W.ex ?_
      try dsimp only [Sum.elim_inl, Sum.elim_inr]
      unfold r17_uses_J2
      exact W.rt trivial
theorem r22_creates_W {a0 : List (SCard)} {a1 : SCard} (k_a0 : lkL 176 lkSCard a0) (k_a1 : lkSCard a1) : W (r22_creates a0 a1) (fun r => True) := by
  unfold r22_creates
  have ll_1 : a1.Abilities.length ≤ 140737488355328 := lkL_len (by decide) (lkSCard_Abilities k_a1)
  refine W.it (fun (v : Int) => 0 ≤ v ∧ (v ≤ (a1.Abilities.length : Int) ∨ v ≤ 0)) (fun v => ((a1.Abilities.length : Int) - v).toNat) ?_ ?_ (fun v hv => ?_)
  · (try dsimp only); first | omega | (simp; omega) | (and_intros <;> first | omega | assumption | (simp; omega) | simp)
  · (try dsimp only); first | omega | (simp; omega) | (and_intros <;> first | omega | assumption | (simp; omega) | simp)
  · obtain ⟨i_t5_3, hv0⟩ : ∃ x, x = v := ⟨v, rfl⟩
    subst hv0
    replace hv : 0 ≤ i_t5_3 ∧ (i_t5_3 ≤ (a1.Abilities.length : Int) ∨ i_t5_3 ≤ 0) := hv
    show W (r22_creates_B4 a0 a1 i_t5_3) _
    unfold r22_creates_B4
    refine W.if (fun hh_2 => ?_) (fun hh_2 => ?_)
    · try simp only [bz] at hh_2
      refine W.it (fun (v : Int) => 0 ≤ v ∧ v ≤ 140737488355328) (fun v => (140737488355328 - v).toNat) ?_ ?_ (fun v hv => ?_)
      · (try dsimp only); first | omega | (simp; omega) | (and_intros <;> first | omega | assumption | (simp; omega) | simp)
      · (try dsimp only); first | omega | (simp; omega) | (and_intros <;> first | omega | assumption | (simp; omega) | simp)
      · obtain ⟨k_t6_8, hv0⟩ : ∃ x, x = v := ⟨v, rfl⟩
        subst hv0
        replace hv : 0 ≤ k_t6_8 ∧ k_t6_8 ≤ 140737488355328 := hv
        show W (r22_creates_B9 a0 a1 i_t5_3 k_t6_8) _
        unfold r22_creates_B9
        refine W.bd (W.idx (by omega)) (fun e10 q_e10 => ?_)
        have ll_3 : e10.Effects.length ≤ 140737488355328 := lkL_len (by decide) (lkSAbility_Effects (show lkSAbility e10 from lkL_mem (lkSCard_Abilities k_a1) q_e10.1))
        refine W.if (fun hh_4 => ?_) (fun hh_4 => ?_)
        · try simp only [bz] at hh_4
          refine W.re q_e10.2.2 ?_
          refine W.bd (W.idx (by omega)) (fun e13 q_e13 => ?_)
          refine W.gb (fun gg_5 => by try simp only [bz] at gg_5; exact r22_token_W k_a0) (fun r14 q_r14 => ?_)
          refine W.lt (fun b15 bb_6 => ?_)
          refine W.if (fun hh_7 => ?_) (fun hh_7 => ?_)
          · try simp only [bb_6, bz] at hh_7
            refine W.ex ?_
            try dsimp only [Sum.elim_inl, Sum.elim_inr]
            refine W.ex ?_
            try dsimp only [Sum.elim_inl, Sum.elim_inr]
            exact W.rt trivial
          · try simp only [bb_6, bz] at hh_7
            have ww_8 : wrap64 (k_t6_8 + (1 : Int)) = k_t6_8 + (1 : Int) := wrap64_id (by omega) (by omega)
            exact W.nx (by (try dsimp only); first | omega | (and_intros <;> first | omega | assumption) | (simp; omega)) (by (try dsimp only); omega)
        · try simp only [bz] at hh_4
          refine W.ex ?_
          try dsimp only [Sum.elim_inl, Sum.elim_inr]
          unfold r22_creates_J6
          have ww_9 : wrap64 (i_t5_3 + (1 : Int)) = i_t5_3 + (1 : Int) := wrap64_id (by omega) (by omega)
          exact W.nx (by (try dsimp only); first | omega | (and_intros <;> first | omega | assumption) | (simp; omega)) (by (try dsimp only); omega)
    · try simp only [bz] at hh_2
      refine W.ex ?_
      try dsimp only [Sum.elim_inl, Sum.elim_inr]
      unfold r22_creates_J1
      exact W.rt trivial
theorem r10_IsSub_W {a0 : List UInt8} (k_a0 : lkS a0) : W (r10_IsSub a0) (fun r => r = true → a0.length ≤ 32) := by
  unfold r10_IsSub
  refine W.bd (r02_Is_W k_a0) (fun r1 q_r1 => ?_)
  replace q_r1 : r1 = true → a0.length ≤ 32 := q_r1
  have ll_1 : a0.length ≤ 140737488355328 := k_a0
  refine W.gb (fun gg_2 => by try simp only [bz] at gg_2; exact r10_superWords_W) (fun r2 q_r2 => ?_)
  refine W.gb (fun gg_3 => by have qq_4 : r2.length = 2 ∧ ∀ y ∈ r2, y.length ≤ 40 := q_r2 gg_3; obtain ⟨qq_4_1, qq_4_2⟩ := qq_4; try simp only [bz] at gg_3; exact r10_index_W (lkL_words (by assumption) (by omega) (by omega))) (fun r3 q_r3 => ?_)
  refine W.lt (fun b4 bb_5 => ?_)
  refine W.gb (fun gg_6 => by try simp only [bb_5, bz] at gg_6; exact r10_typeWords_W) (fun r5 q_r5 => ?_)
  refine W.gb (fun gg_7 => by have qq_8 : r5.length = 6 ∧ ∀ y ∈ r5, y.length ≤ 40 := q_r5 gg_7; obtain ⟨qq_8_1, qq_8_2⟩ := qq_8; try simp only [bb_5, bz] at gg_7; exact r10_index_W (lkL_words (by assumption) (by omega) (by omega))) (fun r6 q_r6 => ?_)
  refine W.lt (fun b7 bb_9 => ?_)
  refine W.rt ?_
  first | assumption | omega | (simp only [bb_5, bb_9, bz]; omega) | (simp only [bb_5, bb_9, bz]; intros; omega) | (intros; simp only [bb_5, bb_9, bz] at *; omega) | exact ⟨by simp, by simp⟩ | decide | simp_all
theorem r10_TypesText_W {a0 : Int} : W (r10_TypesText a0) (fun r => r.length ≤ 500) := by
  unfold r10_TypesText
  refine W.lt (fun b1 bb_1 => ?_)
  refine W.if (fun hh_2 => ?_) (fun hh_2 => ?_)
  · try simp only [bb_1, bz] at hh_2
    refine W.rt ?_
    first | assumption | omega | (simp only [bb_1, bz]; omega) | (simp only [bb_1, bz]; intros; omega) | (intros; simp only [bb_1, bz] at *; omega) | exact ⟨by simp, by simp⟩ | decide | simp_all
  · try simp only [bb_1, bz] at hh_2
    refine W.bd (r10_typeWords_W) (fun r3 q_r3 => ?_)
    replace q_r3 : r3.length = 6 ∧ ∀ y ∈ r3, y.length ≤ 40 := q_r3
    obtain ⟨q_r3_1, q_r3_2⟩ := q_r3
    have ll_3 : str_x2b.length = 1 := rfl
    refine W.bd (r10_joined_W (lkL_words (by assumption) (by omega) (by omega)) (by unfold lkS; omega) (by first | assumption | omega | exact wrapu64_bd _ | (simp; done) | (simp; omega)) (by first | assumption | omega | exact wrapu64_bd _ | (simp; done) | (simp; omega)) (by first | assumption | omega | exact wrapu64_bd _ | (simp; done) | (simp; omega))) (fun r4 q_r4 => ?_)
    replace q_r4 : r4.length ≤ 500 := q_r4
    refine W.rt ?_
    first | assumption | omega | (simp only [bb_1, bz]; omega) | (simp only [bb_1, bz]; intros; omega) | (intros; simp only [bb_1, bz] at *; omega) | exact ⟨by simp, by simp⟩ | decide | simp_all
end Go.PL
