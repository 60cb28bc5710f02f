/- Functions that answer: proofs. -/
import Derived.Test.YtedobbmpljbccaaGreatDoorPlDkB
import Derived.Test.YtedobbmpljbccaaGreatDoorPlDkF10
import Derived.Test.YtedobbmpljbccaaGreatDoorPlDkF11
import Derived.Test.YtedobbmpljbccaaGreatDoorPlDkF12
import Derived.Test.YtedobbmpljbccaaGreatDoorPlDkF13
import Derived.Test.YtedobbmpljbccaaGreatDoorPlDkF5
import Derived.Test.YtedobbmpljbccaaGreatDoorPlDkF6
import Derived.Test.YtedobbmpljbccaaGreatDoorPlDkF7
import Derived.Test.YtedobbmpljbccaaGreatDoorPlDkF8
import Derived.Test.YtedobbmpljbccaaGreatDoorPlDkF9
import Derived.Test.YtedobbmpljbccaaGreatDoorPlDtL
import Derived.Test.YtedobbmpljbccaaGreatDoorPlDtW0
import Derived.Test.YtedobbmpljbccaaGreatDoorPlDtW1
namespace Go.PL
open Go
set_option maxRecDepth 100000
set_option linter.all false
set_option maxHeartbeats 2000000
theorem r13_Text_W {a0 : SFilter} (k_a0 : lkSFilter a0) : W (r13_Text a0) (fun r => r.length ≤ 31000) := by
  unfold r13_Text
  refine W.bd (r13_Is_W k_a0) (fun r1 q_r1 => ?_)
  replace q_r1 : r1 = true → 0 ≤ a0.Zone ∧ a0.Zone ≤ 5 ∧ 0 ≤ a0.Who ∧ a0.Who ≤ 2 ∧ 0 ≤ a0.Self ∧ a0.Self ≤ 2 ∧ 0 ≤ a0.Tap ∧ a0.Tap ≤ 2 ∧ 0 ≤ a0.Power.Kind ∧ a0.Power.Kind ≤ 3 ∧ 0 ≤ a0.Tough.Kind ∧ a0.Tough.Kind ≤ 3 ∧ 0 ≤ a0.Value.Kind ∧ a0.Value.Kind ≤ 3 ∧ a0.Sub.length ≤ 32 := q_r1
  have ll_1 : a0.Sub.length ≤ 140737488355328 := (lkSFilter_Sub k_a0)
  refine W.if (fun hh_2 => ?_) (fun hh_2 => ?_)
  · try simp only [bz] at hh_2
    refine W.rt ?_
    first | assumption | omega | (simp only [bz]; omega) | (simp only [bz]; intros; omega) | (intros; simp only [bz] at *; omega) | exact ⟨by simp, by simp⟩ | decide | simp_all
  · try simp only [bz] at hh_2
    have qq_3 := q_r1 hh_2
    refine W.bd (r13_zoneWords_W) (fun r3 q_r3 => ?_)
    replace q_r3 : r3.length = 6 ∧ ∀ y ∈ r3, y.length ≤ 40 := q_r3
    obtain ⟨q_r3_1, q_r3_2⟩ := q_r3
    refine W.bd (r13_whoWords_W) (fun r4 q_r4 => ?_)
    replace q_r4 : r4.length = 3 ∧ ∀ y ∈ r4, y.length ≤ 40 := q_r4
    obtain ⟨q_r4_1, q_r4_2⟩ := q_r4
    refine W.bd (r13_selfWords_W) (fun r5 q_r5 => ?_)
    replace q_r5 : r5.length = 3 ∧ ∀ y ∈ r5, y.length ≤ 40 := q_r5
    obtain ⟨q_r5_1, q_r5_2⟩ := q_r5
    refine W.bd (r13_tapWords_W) (fun r6 q_r6 => ?_)
    replace q_r6 : r6.length = 3 ∧ ∀ y ∈ r6, y.length ≤ 40 := q_r6
    obtain ⟨q_r6_1, q_r6_2⟩ := q_r6
    refine W.bd (W.idx (by omega)) (fun e7 q_e7 => ?_)
    have ll_4 := q_r3_2 e7 q_e7.1
    refine W.if (fun hh_5 => ?_) (fun hh_5 => ?_)
    · try simp only [bz] at hh_5
      exact r13_Text_J9_W k_a0 (lkL_words (by assumption) (by omega) (by omega)) (lkL_words (by assumption) (by omega) (by omega)) (lkL_words (by assumption) (by omega) (by omega)) lkL_nil (by first | assumption | omega | exact wrapu64_bd _ | (simp; done) | (simp; omega)) (by first | assumption | omega | exact wrapu64_bd _ | (simp; done) | (simp; omega)) (by first | assumption | omega | exact wrapu64_bd _ | (simp; done) | (simp; omega)) (by first | assumption | omega | exact wrapu64_bd _ | (simp; done) | (simp; omega)) (by first | assumption | omega | exact wrapu64_bd _ | (simp; done) | (simp; omega)) (by first | assumption | omega | exact wrapu64_bd _ | (simp; done) | (simp; omega)) (by first | assumption | omega | exact wrapu64_bd _ | (simp; done) | (simp; omega)) (by first | assumption | omega | exact wrapu64_bd _ | (simp; done) | (simp; omega)) (by first | assumption | omega | exact wrapu64_bd _ | (simp; done) | (simp; omega))
    · try simp only [bz] at hh_5
      have ll_7 : ([] : List (List UInt8)).length = 0 := rfl
      have ll_8 : ([e7] : List (List UInt8)).length = 1 := rfl
      refine W.bd (W.app (by first | omega | (simp; omega)) (by unfold maxLen; first | omega | (simp; omega))) (fun l126 q_l126 => ?_)
      have ll_9 : l126.length = ([] : List (List UInt8)).length + ([e7] : List (List UInt8)).length := by rw [q_l126, List.length_append]
      have aa_10 : ∀ y ∈ l126, y.length ≤ 600 := by rw [q_l126]; exact all_app (fun y hy => absurd hy (by simp)) (all_one (by omega))
      exact r13_Text_J9_W k_a0 (lkL_words (by assumption) (by omega) (by omega)) (lkL_words (by assumption) (by omega) (by omega)) (lkL_words (by assumption) (by omega) (by omega)) (lkL_words (by assumption) (by omega) (by omega)) (by first | assumption | omega | exact wrapu64_bd _ | (simp; done) | (simp; omega)) (by first | assumption | omega | exact wrapu64_bd _ | (simp; done) | (simp; omega)) (by first | assumption | omega | exact wrapu64_bd _ | (simp; done) | (simp; omega)) (by first | assumption | omega | exact wrapu64_bd _ | (simp; done) | (simp; omega)) (by first | assumption | omega | exact wrapu64_bd _ | (simp; done) | (simp; omega)) (by first | assumption | omega | exact wrapu64_bd _ | (simp; done) | (simp; omega)) (by first | assumption | omega | exact wrapu64_bd _ | (simp; done) | (simp; omega)) (by first | assumption | omega | exact wrapu64_bd _ | (simp; done) | (simp; omega)) (by first | assumption | omega | exact wrapu64_bd _ | (simp; done) | (simp; omega))
theorem r18_Is_J10_W {a0 : STrigger} {zone_t3_9 : Int} (k_a0 : lkSTrigger a0) : W (r18_Is_J10 a0 zone_t3_9) (fun r => True) := by
  unfold r18_Is_J10
  refine W.bd (r13_Is_W (lkSTrigger_Filter k_a0)) (fun r11 q_r11 => ?_)
  replace q_r11 : r11 = true → 0 ≤ a0.Filter.Zone ∧ a0.Filter.Zone ≤ 5 ∧ 0 ≤ a0.Filter.Who ∧ a0.Filter.Who ≤ 2 ∧ 0 ≤ a0.Filter.Self ∧ a0.Filter.Self ≤ 2 ∧ 0 ≤ a0.Filter.Tap ∧ a0.Filter.Tap ≤ 2 ∧ 0 ≤ a0.Filter.Power.Kind ∧ a0.Filter.Power.Kind ≤ 3 ∧ 0 ≤ a0.Filter.Tough.Kind ∧ a0.Filter.Tough.Kind ≤ 3 ∧ 0 ≤ a0.Filter.Value.Kind ∧ a0.Filter.Value.Kind ≤ 3 ∧ a0.Filter.Sub.length ≤ 32 := q_r11
  have ll_1 : a0.Filter.Sub.length ≤ 140737488355328 := (lkSFilter_Sub (lkSTrigger_Filter k_a0))
  refine W.lt (fun b12 bb_2 => ?_)
  exact W.rt trivial
theorem r18_Is_W {a0 : STrigger} (k_a0 : lkSTrigger a0) : W (r18_Is a0) (fun r => True) := by
  unfold r18_Is
  refine W.bd (r18_word_W) (fun r1 q_r1 => ?_)
  refine W.lt (fun b2 bb_1 => ?_)
  refine W.lt (fun b3 bb_2 => ?_)
  refine W.gb (fun gg_3 => by try simp only [bb_1, bb_2, bz] at gg_3; exact r18_hasWho_W) (fun r4 q_r4 => ?_)
  refine W.lt (fun b5 bb_4 => ?_)
  refine W.if (fun hh_5 => ?_) (fun hh_5 => ?_)
  · try simp only [bb_1, bb_2, bb_4, bz] at hh_5
    exact W.rt trivial
  · try simp only [bb_1, bb_2, bb_4, bz] at hh_5
    refine W.bd (r18_hasFilter_W) (fun r7 q_r7 => ?_)
    refine W.if (fun hh_6 => ?_) (fun hh_6 => ?_)
    · try simp only [bb_1, bb_2, bb_4, bz] at hh_6
      exact W.rt trivial
    · try simp only [bb_1, bb_2, bb_4, bz] at hh_6
      refine W.if (fun hh_7 => ?_) (fun hh_7 => ?_)
      · try simp only [bb_1, bb_2, bb_4, bz] at hh_7
        exact r18_Is_J10_W k_a0
      · try simp only [bb_1, bb_2, bb_4, bz] at hh_7
        exact r18_Is_J10_W k_a0
theorem r19_field_W {a0 : SFilter} (k_a0 : lkSFilter a0) : W (r19_field a0) (fun r => True) := by
  unfold r19_field
  refine W.bd (r13_Is_W k_a0) (fun r1 q_r1 => ?_)
  replace q_r1 : r1 = true → 0 ≤ a0.Zone ∧ a0.Zone ≤ 5 ∧ 0 ≤ a0.Who ∧ a0.Who ≤ 2 ∧ 0 ≤ a0.Self ∧ a0.Self ≤ 2 ∧ 0 ≤ a0.Tap ∧ a0.Tap ≤ 2 ∧ 0 ≤ a0.Power.Kind ∧ a0.Power.Kind ≤ 3 ∧ 0 ≤ a0.Tough.Kind ∧ a0.Tough.Kind ≤ 3 ∧ 0 ≤ a0.Value.Kind ∧ a0.Value.Kind ≤ 3 ∧ a0.Sub.length ≤ 32 := q_r1
  have ll_1 : a0.Sub.length ≤ 140737488355328 := (lkSFilter_Sub k_a0)
  refine W.lt (fun b2 bb_2 => ?_)
  exact W.rt trivial
theorem r20_spec_W {a0 : SSpec} (k_a0 : lkSSpec a0) : W (r20_spec a0) (fun r => True) := by
  unfold r20_spec
  refine W.if (fun hh_1 => ?_) (fun hh_1 => ?_)
  · try simp only [bz] at hh_1
    refine W.lt (fun b2 bb_2 => ?_)
    exact W.rt trivial
  · try simp only [bz] at hh_1
    refine W.bd (r13_Is_W (lkSSpec_Filter k_a0)) (fun r3 q_r3 => ?_)
    replace q_r3 : r3 = true → 0 ≤ a0.Filter.Zone ∧ a0.Filter.Zone ≤ 5 ∧ 0 ≤ a0.Filter.Who ∧ a0.Filter.Who ≤ 2 ∧ 0 ≤ a0.Filter.Self ∧ a0.Filter.Self ≤ 2 ∧ 0 ≤ a0.Filter.Tap ∧ a0.Filter.Tap ≤ 2 ∧ 0 ≤ a0.Filter.Power.Kind ∧ a0.Filter.Power.Kind ≤ 3 ∧ 0 ≤ a0.Filter.Tough.Kind ∧ a0.Filter.Tough.Kind ≤ 3 ∧ 0 ≤ a0.Filter.Value.Kind ∧ a0.Filter.Value.Kind ≤ 3 ∧ a0.Filter.Sub.length ≤ 32 := q_r3
    have ll_3 : a0.Filter.Sub.length ≤ 140737488355328 := (lkSFilter_Sub (lkSSpec_Filter k_a0))
    refine W.lt (fun b4 bb_4 => ?_)
    refine W.lt (fun b5 bb_5 => ?_)
    refine W.lt (fun b6 bb_6 => ?_)
    exact W.rt trivial
theorem r16_Is_J5_W {a0 : SRef} (k_a0 : lkSRef a0) : W (r16_Is_J5 a0) (fun r => True) := by
  unfold r16_Is_J5
  refine W.if (fun hh_1 => ?_) (fun hh_1 => ?_)
  · try simp only [bz] at hh_1
    refine W.bd (r13_Is_W (lkSRef_Filter k_a0)) (fun r7 q_r7 => ?_)
    replace q_r7 : r7 = true → 0 ≤ a0.Filter.Zone ∧ a0.Filter.Zone ≤ 5 ∧ 0 ≤ a0.Filter.Who ∧ a0.Filter.Who ≤ 2 ∧ 0 ≤ a0.Filter.Self ∧ a0.Filter.Self ≤ 2 ∧ 0 ≤ a0.Filter.Tap ∧ a0.Filter.Tap ≤ 2 ∧ 0 ≤ a0.Filter.Power.Kind ∧ a0.Filter.Power.Kind ≤ 3 ∧ 0 ≤ a0.Filter.Tough.Kind ∧ a0.Filter.Tough.Kind ≤ 3 ∧ 0 ≤ a0.Filter.Value.Kind ∧ a0.Filter.Value.Kind ≤ 3 ∧ a0.Filter.Sub.length ≤ 32 := q_r7
    have ll_2 : a0.Filter.Sub.length ≤ 140737488355328 := (lkSFilter_Sub (lkSRef_Filter k_a0))
    exact W.rt trivial
  · try simp only [bz] at hh_1
    exact W.rt trivial
theorem r16_Is_J2_W {a0 : SRef} {specs_t1_1 : Int} (k_a0 : lkSRef a0) : W (r16_Is_J2 a0 specs_t1_1) (fun r => True) := by
  unfold r16_Is_J2
  refine W.lt (fun b3 bb_1 => ?_)
  refine W.if (fun hh_2 => ?_) (fun hh_2 => ?_)
  · try simp only [bb_1, bz] at hh_2
    exact W.rt trivial
  · try simp only [bb_1, bz] at hh_2
    refine W.bd (r16_numbered_W) (fun r8 q_r8 => ?_)
    refine W.if (fun hh_3 => ?_) (fun hh_3 => ?_)
    · try simp only [bb_1, bz] at hh_3
      refine W.lt (fun b10 bb_4 => ?_)
      refine W.if (fun hh_5 => ?_) (fun hh_5 => ?_)
      · try simp only [bb_1, bb_4, bz] at hh_5
        exact W.rt trivial
      · try simp only [bb_1, bb_4, bz] at hh_5
        exact r16_Is_J5_W k_a0
    · try simp only [bb_1, bz] at hh_3
      refine W.if (fun hh_7 => ?_) (fun hh_7 => ?_)
      · try simp only [bb_1, bz] at hh_7
        exact W.rt trivial
      · try simp only [bb_1, bz] at hh_7
        exact r16_Is_J5_W k_a0
theorem r16_Is_W {a0 : SRef} {a1 : Int} (k_a0 : lkSRef a0) : W (r16_Is a0 a1) (fun r => True) := by
  unfold r16_Is
  refine W.if (fun hh_1 => ?_) (fun hh_1 => ?_)
  · try simp only [bz] at hh_1
    exact r16_Is_J2_W k_a0
  · try simp only [bz] at hh_1
    exact r16_Is_J2_W k_a0
theorem r17_filter_J2_W {a1 : SFilter} {zone_t5_1 : Int} (k_a1 : lkSFilter a1) : W (r17_filter_J2 a1 zone_t5_1) (fun r => True) := by
  unfold r17_filter_J2
  refine W.bd (r13_Is_W k_a1) (fun r3 q_r3 => ?_)
  replace q_r3 : r3 = true → 0 ≤ a1.Zone ∧ a1.Zone ≤ 5 ∧ 0 ≤ a1.Who ∧ a1.Who ≤ 2 ∧ 0 ≤ a1.Self ∧ a1.Self ≤ 2 ∧ 0 ≤ a1.Tap ∧ a1.Tap ≤ 2 ∧ 0 ≤ a1.Power.Kind ∧ a1.Power.Kind ≤ 3 ∧ 0 ≤ a1.Tough.Kind ∧ a1.Tough.Kind ≤ 3 ∧ 0 ≤ a1.Value.Kind ∧ a1.Value.Kind ≤ 3 ∧ a1.Sub.length ≤ 32 := q_r3
  have ll_1 : a1.Sub.length ≤ 140737488355328 := (lkSFilter_Sub k_a1)
  refine W.lt (fun b4 bb_2 => ?_)
  exact W.rt trivial
theorem r17_filter_W {a0 : Int} {a1 : SFilter} (k_a1 : lkSFilter a1) : W (r17_filter a0 a1) (fun r => True) := by
  unfold r17_filter
  refine W.if (fun hh_1 => ?_) (fun hh_1 => ?_)
  · try simp only [bz] at hh_1
    exact r17_filter_J2_W k_a1
  · try simp only [bz] at hh_1
    exact r17_filter_J2_W k_a1
theorem r14_Is_J2_W {a0 : SAmount} {b3_1 : SAmount} : W (r14_Is_J2 a0 b3_1) (fun r => True) := by
  unfold r14_Is_J2
  refine W.lt (fun b3 bb_1 => ?_)
  refine W.lt (fun b4 bb_2 => ?_)
  exact W.rt trivial
theorem r14_Is_W {a0 : SAmount} (k_a0 : lkSAmount a0) : W (r14_Is a0) (fun r => True) := by
  unfold r14_Is
  refine W.if (fun hh_1 => ?_) (fun hh_1 => ?_)
  · try simp only [bz] at hh_1
    refine W.lt (fun b6 bb_2 => ?_)
    refine W.if (fun hh_3 => ?_) (fun hh_3 => ?_)
    · try simp only [bb_2, bz] at hh_3
      exact W.rt trivial
    · try simp only [bb_2, bz] at hh_3
      exact r14_Is_J2_W
  · try simp only [bz] at hh_1
    refine W.if (fun hh_5 => ?_) (fun hh_5 => ?_)
    · try simp only [bz] at hh_5
      refine W.lt (fun b9 bb_6 => ?_)
      refine W.gb (fun gg_7 => by try simp only [bb_6, bz] at gg_7; exact r13_Is_W (lkSAmount_Filter k_a0)) (fun r10 q_r10 => ?_)
      refine W.lt (fun b11 bb_8 => ?_)
      refine W.if (fun hh_9 => ?_) (fun hh_9 => ?_)
      · try simp only [bb_6, bb_8, bz] at hh_9
        exact W.rt trivial
      · try simp only [bb_6, bb_8, bz] at hh_9
        exact r14_Is_J2_W
    · try simp only [bz] at hh_5
      refine W.if (fun hh_11 => ?_) (fun hh_11 => ?_)
      · try simp only [bz] at hh_11
        refine W.bd (r12_Name_W) (fun r14 q_r14 => ?_)
        refine W.if (fun hh_12 => ?_) (fun hh_12 => ?_)
        · try simp only [bz] at hh_12
          exact W.rt trivial
        · try simp only [bz] at hh_12
          exact r14_Is_J2_W
      · try simp only [bz] at hh_11
        exact r14_Is_J2_W
theorem r15_Text_W {a0 : SMod} (k_a0 : lkSMod a0) : W (r15_Text a0) (fun r => r.length ≤ 140737488400000) := by
  unfold r15_Text
  refine W.bd (r15_Is_W k_a0) (fun r1 q_r1 => ?_)
  refine W.if (fun hh_1 => ?_) (fun hh_1 => ?_)
  · try simp only [bz] at hh_1
    refine W.rt ?_
    first | assumption | omega | (simp only [bz]; omega) | (simp only [bz]; intros; omega) | (intros; simp only [bz] at *; omega) | exact ⟨by simp, by simp⟩ | decide | simp_all
  · try simp only [bz] at hh_1
    refine W.if (fun hh_2 => ?_) (fun hh_2 => ?_)
    · try simp only [bz] at hh_2
      refine W.rt ?_
      have ll_3 : str_control.length = 7 := rfl
      first | assumption | omega | (simp only [bz]; omega) | (simp only [bz]; intros; omega) | (intros; simp only [bz] at *; omega) | exact ⟨by simp, by simp⟩ | decide | simp_all
    · try simp only [bz] at hh_2
      refine W.if (fun hh_4 => ?_) (fun hh_4 => ?_)
      · try simp only [bz] at hh_4
        refine W.bd (r10_TypesText_W) (fun r5 q_r5 => ?_)
        replace q_r5 : r5.length ≤ 500 := q_r5
        have ll_5 : str_types_.length = 6 := rfl
        refine W.bd (W.cat (by first | omega | (simp; omega))) (fun s6 q_s6 => ?_)
        replace q_s6 : s6.length = (str_types_).length + (r5).length := q_s6.2
        refine W.rt ?_
        first | assumption | omega | (simp only [bz]; omega) | (simp only [bz]; intros; omega) | (intros; simp only [bz] at *; omega) | exact ⟨by simp, by simp⟩ | decide | simp_all
      · try simp only [bz] at hh_4
        refine W.if (fun hh_6 => ?_) (fun hh_6 => ?_)
        · try simp only [bz] at hh_6
          refine W.bd (r10_TypesText_W) (fun r8 q_r8 => ?_)
          replace q_r8 : r8.length ≤ 500 := q_r8
          have ll_7 : str_types__.length = 7 := rfl
          refine W.bd (W.cat (by first | omega | (simp; omega))) (fun s9 q_s9 => ?_)
          replace q_s9 : s9.length = (str_types__).length + (r8).length := q_s9.2
          refine W.rt ?_
          first | assumption | omega | (simp only [bz]; omega) | (simp only [bz]; intros; omega) | (intros; simp only [bz] at *; omega) | exact ⟨by simp, by simp⟩ | decide | simp_all
        · try simp only [bz] at hh_6
          refine W.if (fun hh_8 => ?_) (fun hh_8 => ?_)
          · try simp only [bz] at hh_8
            have ll_9 : a0.Sub.length ≤ 140737488355328 := (lkSMod_Sub k_a0)
            have ll_10 : str_sub_.length = 4 := rfl
            refine W.bd (W.cat (by first | omega | (simp; omega))) (fun s11 q_s11 => ?_)
            replace q_s11 : s11.length = (str_sub_).length + (a0.Sub).length := q_s11.2
            refine W.rt ?_
            first | assumption | omega | (simp only [bz]; omega) | (simp only [bz]; intros; omega) | (intros; simp only [bz] at *; omega) | exact ⟨by simp, by simp⟩ | decide | simp_all
          · try simp only [bz] at hh_8
            refine W.if (fun hh_11 => ?_) (fun hh_11 => ?_)
            · try simp only [bz] at hh_11
              have ll_12 : a0.Sub.length ≤ 140737488355328 := (lkSMod_Sub k_a0)
              have ll_13 : str_sub__.length = 5 := rfl
              refine W.bd (W.cat (by first | omega | (simp; omega))) (fun s13 q_s13 => ?_)
              replace q_s13 : s13.length = (str_sub__).length + (a0.Sub).length := q_s13.2
              refine W.rt ?_
              first | assumption | omega | (simp only [bz]; omega) | (simp only [bz]; intros; omega) | (intros; simp only [bz] at *; omega) | exact ⟨by simp, by simp⟩ | decide | simp_all
            · try simp only [bz] at hh_11
              refine W.if (fun hh_14 => ?_) (fun hh_14 => ?_)
              · try simp only [bz] at hh_14
                refine W.bd (r09_Text_W) (fun r15 q_r15 => ?_)
                replace q_r15 : r15.length ≤ 150 := q_r15
                have ll_15 : str_colors_.length = 7 := rfl
                refine W.bd (W.cat (by first | omega | (simp; omega))) (fun s16 q_s16 => ?_)
                replace q_s16 : s16.length = (str_colors_).length + (r15).length := q_s16.2
                refine W.rt ?_
                first | assumption | omega | (simp only [bz]; omega) | (simp only [bz]; intros; omega) | (intros; simp only [bz] at *; omega) | exact ⟨by simp, by simp⟩ | decide | simp_all
              · try simp only [bz] at hh_14
                refine W.if (fun hh_16 => ?_) (fun hh_16 => ?_)
                · try simp only [bz] at hh_16
                  refine W.bd (r09_Text_W) (fun r18 q_r18 => ?_)
                  replace q_r18 : r18.length ≤ 150 := q_r18
                  have ll_17 : str_colors__.length = 8 := rfl
                  refine W.bd (W.cat (by first | omega | (simp; omega))) (fun s19 q_s19 => ?_)
                  replace q_s19 : s19.length = (str_colors__).length + (r18).length := q_s19.2
                  refine W.rt ?_
                  first | assumption | omega | (simp only [bz]; omega) | (simp only [bz]; intros; omega) | (intros; simp only [bz] at *; omega) | exact ⟨by simp, by simp⟩ | decide | simp_all
                · try simp only [bz] at hh_16
                  refine W.if (fun hh_18 => ?_) (fun hh_18 => ?_)
                  · try simp only [bz] at hh_18
                    refine W.bd (r11_Text_W) (fun r21 q_r21 => ?_)
                    replace q_r21 : r21.length ≤ 1000 := q_r21
                    have ll_19 : str_keys__.length = 6 := rfl
                    refine W.bd (W.cat (by first | omega | (simp; omega))) (fun s22 q_s22 => ?_)
                    replace q_s22 : s22.length = (str_keys__).length + (r21).length := q_s22.2
                    refine W.rt ?_
                    first | assumption | omega | (simp only [bz]; omega) | (simp only [bz]; intros; omega) | (intros; simp only [bz] at *; omega) | exact ⟨by simp, by simp⟩ | decide | simp_all
                  · try simp only [bz] at hh_18
                    refine W.if (fun hh_20 => ?_) (fun hh_20 => ?_)
                    · try simp only [bz] at hh_20
                      refine W.bd (r11_Text_W) (fun r24 q_r24 => ?_)
                      replace q_r24 : r24.length ≤ 1000 := q_r24
                      have ll_21 : str_x6b6579732d3d.length = 6 := rfl
                      refine W.bd (W.cat (by first | omega | (simp; omega))) (fun s25 q_s25 => ?_)
                      replace q_s25 : s25.length = (str_x6b6579732d3d).length + (r24).length := q_s25.2
                      refine W.rt ?_
                      first | assumption | omega | (simp only [bz]; omega) | (simp only [bz]; intros; omega) | (intros; simp only [bz] at *; omega) | exact ⟨by simp, by simp⟩ | decide | simp_all
                    · try simp only [bz] at hh_20
                      refine W.if (fun hh_22 => ?_) (fun hh_22 => ?_)
                      · try simp only [bz] at hh_22
                        refine W.rt ?_
                        have ll_23 : str_blank.length = 5 := rfl
                        first | assumption | omega | (simp only [bz]; omega) | (simp only [bz]; intros; omega) | (intros; simp only [bz] at *; omega) | exact ⟨by simp, by simp⟩ | decide | simp_all
                      · try simp only [bz] at hh_22
                        refine W.if (fun hh_24 => ?_) (fun hh_24 => ?_)
                        · try simp only [bz] at hh_24
                          refine W.bd (r13_Text_W (lkSMod_Filter k_a0)) (fun r28 q_r28 => ?_)
                          replace q_r28 : r28.length ≤ 31000 := q_r28
                          have ll_25 : str_pt_count_.length = 9 := rfl
                          refine W.bd (W.cat (by first | omega | (simp; omega))) (fun s29 q_s29 => ?_)
                          replace q_s29 : s29.length = (str_pt_count_).length + (r28).length := q_s29.2
                          have ll_26 : str_x29.length = 1 := rfl
                          refine W.bd (W.cat (by first | omega | (simp; omega))) (fun s30 q_s30 => ?_)
                          replace q_s30 : s30.length = (s29).length + (str_x29).length := q_s30.2
                          refine W.rt ?_
                          first | assumption | omega | (simp only [bz]; omega) | (simp only [bz]; intros; omega) | (intros; simp only [bz] at *; omega) | exact ⟨by simp, by simp⟩ | decide | simp_all
                        · try simp only [bz] at hh_24
                          refine W.if (fun hh_27 => ?_) (fun hh_27 => ?_)
                          · try simp only [bz] at hh_27
                            refine W.bd (r01_Text_W) (fun r32 q_r32 => ?_)
                            replace q_r32 : r32.length ≤ 21 := q_r32
                            have ll_28 : str_pt_.length = 3 := rfl
                            refine W.bd (W.cat (by first | omega | (simp; omega))) (fun s33 q_s33 => ?_)
                            replace q_s33 : s33.length = (str_pt_).length + (r32).length := q_s33.2
                            have ll_29 : str_x2f.length = 1 := rfl
                            refine W.bd (W.cat (by first | omega | (simp; omega))) (fun s34 q_s34 => ?_)
                            replace q_s34 : s34.length = (s33).length + (str_x2f).length := q_s34.2
                            refine W.bd (r01_Text_W) (fun r35 q_r35 => ?_)
                            replace q_r35 : r35.length ≤ 21 := q_r35
                            refine W.bd (W.cat (by first | omega | (simp; omega))) (fun s36 q_s36 => ?_)
                            replace q_s36 : s36.length = (s34).length + (r35).length := q_s36.2
                            refine W.rt ?_
                            first | assumption | omega | (simp only [bz]; omega) | (simp only [bz]; intros; omega) | (intros; simp only [bz] at *; omega) | exact ⟨by simp, by simp⟩ | decide | simp_all
                          · try simp only [bz] at hh_27
                            refine W.if (fun hh_30 => ?_) (fun hh_30 => ?_)
                            · try simp only [bz] at hh_30
                              refine W.bd (r01_Text_W) (fun r38 q_r38 => ?_)
                              replace q_r38 : r38.length ≤ 21 := q_r38
                              have ll_31 : str_pt__.length = 4 := rfl
                              refine W.bd (W.cat (by first | omega | (simp; omega))) (fun s39 q_s39 => ?_)
                              replace q_s39 : s39.length = (str_pt__).length + (r38).length := q_s39.2
                              have ll_32 : str_x2f.length = 1 := rfl
                              refine W.bd (W.cat (by first | omega | (simp; omega))) (fun s40 q_s40 => ?_)
                              replace q_s40 : s40.length = (s39).length + (str_x2f).length := q_s40.2
                              refine W.bd (r01_Text_W) (fun r41 q_r41 => ?_)
                              replace q_r41 : r41.length ≤ 21 := q_r41
                              refine W.bd (W.cat (by first | omega | (simp; omega))) (fun s42 q_s42 => ?_)
                              replace q_s42 : s42.length = (s40).length + (r41).length := q_s42.2
                              refine W.rt ?_
                              first | assumption | omega | (simp only [bz]; omega) | (simp only [bz]; intros; omega) | (intros; simp only [bz] at *; omega) | exact ⟨by simp, by simp⟩ | decide | simp_all
                            · try simp only [bz] at hh_30
                              refine W.rt ?_
                              have ll_33 : str_pt_switch.length = 9 := rfl
                              first | assumption | omega | (simp only [bz]; omega) | (simp only [bz]; intros; omega) | (intros; simp only [bz] at *; omega) | exact ⟨by simp, by simp⟩ | decide | simp_all
theorem r19_moves_W {a0 : SReplace} (k_a0 : lkSReplace a0) : W (r19_moves a0) (fun r => True) := by
  unfold r19_moves
  refine W.gb (fun gg_1 => by try simp only [bz] at gg_1; exact r19_field_W (lkSReplace_Filter k_a0)) (fun r1 q_r1 => ?_)
  refine W.lt (fun b2 bb_2 => ?_)
  refine W.if (fun hh_3 => ?_) (fun hh_3 => ?_)
  · try simp only [bb_2, bz] at hh_3
    exact W.rt trivial
  · try simp only [bb_2, bz] at hh_3
    refine W.if (fun hh_4 => ?_) (fun hh_4 => ?_)
    · try simp only [bb_2, bz] at hh_4
      refine W.lt (fun b5 bb_5 => ?_)
      refine W.lt (fun b6 bb_6 => ?_)
      refine W.lt (fun b7 bb_7 => ?_)
      refine W.lt (fun b8 bb_8 => ?_)
      exact W.rt trivial
    · try simp only [bb_2, bz] at hh_4
      refine W.if (fun hh_9 => ?_) (fun hh_9 => ?_)
      · try simp only [bb_2, bz] at hh_9
        refine W.lt (fun b10 bb_10 => ?_)
        refine W.lt (fun b11 bb_11 => ?_)
        exact W.rt trivial
      · try simp only [bb_2, bz] at hh_9
        refine W.if (fun hh_12 => ?_) (fun hh_12 => ?_)
        · try simp only [bb_2, bz] at hh_12
          refine W.lt (fun b13 bb_13 => ?_)
          refine W.lt (fun b14 bb_14 => ?_)
          refine W.lt (fun b15 bb_15 => ?_)
          refine W.lt (fun b16 bb_16 => ?_)
          exact W.rt trivial
        · try simp only [bb_2, bz] at hh_12
          exact W.rt trivial
theorem r20_specs_W {a0 : List (SSpec)} (k_a0 : lkL 144 lkSSpec a0) : W (r20_specs a0) (fun r => True) := by
  unfold r20_specs
  have ll_1 : a0.length ≤ 140737488355328 := lkL_len (by decide) k_a0
  refine W.it (fun (v : Int) => 0 ≤ v ∧ (v ≤ (a0.length : Int) ∨ v ≤ 0)) (fun v => ((a0.length : Int) - v).toNat) ?_ ?_ (fun v hv => ?_)
  · (try dsimp only); first | omega | (simp; omega) | (and_intros <;> first | omega | assumption | (simp; omega) | simp)
  · (try dsimp only); first | omega | (simp; omega) | (and_intros <;> first | omega | assumption | (simp; omega) | simp)
  · obtain ⟨i_t3_3, hv0⟩ : ∃ x, x = v := ⟨v, rfl⟩
    subst hv0
    replace hv : 0 ≤ i_t3_3 ∧ (i_t3_3 ≤ (a0.length : Int) ∨ i_t3_3 ≤ 0) := hv
    show W (r20_specs_B4 a0 i_t3_3) _
    unfold r20_specs_B4
    refine W.if (fun hh_2 => ?_) (fun hh_2 => ?_)
    · try simp only [bz] at hh_2
      refine W.bd (W.idx (by omega)) (fun e6 q_e6 => ?_)
      refine W.bd (r20_spec_W (show lkSSpec e6 from lkL_mem k_a0 q_e6.1)) (fun r7 q_r7 => ?_)
      refine W.if (fun hh_3 => ?_) (fun hh_3 => ?_)
      · try simp only [bz] at hh_3
        refine W.ex ?_
        try dsimp only [Sum.elim_inl, Sum.elim_inr]
        exact W.rt trivial
      · try simp only [bz] at hh_3
        have ww_4 : wrap64 (i_t3_3 + (1 : Int)) = i_t3_3 + (1 : Int) := wrap64_id (by omega) (by omega)
        exact W.nx (by (try dsimp only); first | omega | (and_intros <;> first | omega | assumption) | (simp; omega)) (by (try dsimp only); omega)
    · try simp only [bz] at hh_2
      refine W.ex ?_
      try dsimp only [Sum.elim_inl, Sum.elim_inr]
      unfold r20_specs_J1
      exact W.rt trivial
theorem r15_ListText_W {a0 : List (SMod)} (k_a0 : lkL 176 lkSMod a0) : W (r15_ListText a0) (fun r => True) := by
  unfold r15_ListText
  refine W.lt (fun b1 bb_1 => ?_)
  refine W.if (fun hh_2 => ?_) (fun hh_2 => ?_)
  · try simp only [bb_1, bz] at hh_2
    exact W.rt trivial
  · try simp only [bb_1, bz] at hh_2
    have ll_3 : a0.length ≤ 140737488355328 := lkL_len (by decide) k_a0
    refine W.it (fun (v : (List UInt8) × Int) => 0 ≤ v.2 ∧ (v.2 ≤ a0.length ∨ v.2 ≤ 0) ∧ (v.1.length : Int) ≤ 140737488410000 * v.2) (fun v => ((a0.length : Int) - v.2).toNat) ?_ ?_ (fun v hv => ?_)
    · (try dsimp only); first | omega | (simp; omega) | (and_intros <;> first | omega | assumption | (simp; omega) | simp)
    · (try dsimp only); first | omega | (simp; omega) | (and_intros <;> first | omega | assumption | (simp; omega) | simp)
    · obtain ⟨out_t3_7, i_t4_8⟩ := v
      replace hv : 0 ≤ i_t4_8 ∧ (i_t4_8 ≤ a0.length ∨ i_t4_8 ≤ 0) ∧ (out_t3_7.length : Int) ≤ 140737488410000 * i_t4_8 := hv
      show W (r15_ListText_B10 a0 out_t3_7 i_t4_8) _
      unfold r15_ListText_B10
      refine W.if (fun hh_4 => ?_) (fun hh_4 => ?_)
      · try simp only [bb_1, bz] at hh_4
        refine W.bd (W.idx (by omega)) (fun e12 q_e12 => ?_)
        refine W.bd (r15_Is_W (show lkSMod e12 from lkL_mem k_a0 q_e12.1)) (fun r13 q_r13 => ?_)
        refine W.if (fun hh_5 => ?_) (fun hh_5 => ?_)
        · try simp only [bb_1, bz] at hh_5
          refine W.ex ?_
          try dsimp only [Sum.elim_inl, Sum.elim_inr]
          exact W.rt trivial
        · try simp only [bb_1, bz] at hh_5
          refine W.if (fun hh_6 => ?_) (fun hh_6 => ?_)
          · try simp only [bb_1, bz] at hh_6
            have ll_7 : str_x2c20.length = 2 := rfl
            refine W.bd (W.cat (by first | omega | (simp; omega))) (fun s21 q_s21 => ?_)
            replace q_s21 : s21.length = (out_t3_7).length + (str_x2c20).length := q_s21.2
            unfold r15_ListText_J16
            refine W.re q_e12.2.2 ?_
            refine W.bd (r15_Text_W (show lkSMod e12 from lkL_mem k_a0 q_e12.1)) (fun r18 q_r18 => ?_)
            replace q_r18 : r18.length ≤ 140737488400000 := q_r18
            refine W.bd (W.cat (by first | omega | (simp; omega))) (fun s19 q_s19 => ?_)
            replace q_s19 : s19.length = (s21).length + (r18).length := q_s19.2
            have ww_8 : wrap64 (i_t4_8 + (1 : Int)) = i_t4_8 + (1 : Int) := wrap64_id (by omega) (by omega)
            exact W.nx (by (try dsimp only); first | omega | (and_intros <;> first | omega | assumption) | (simp; omega)) (by (try dsimp only); omega)
          · try simp only [bb_1, bz] at hh_6
            unfold r15_ListText_J16
            refine W.re q_e12.2.2 ?_
            refine W.bd (r15_Text_W (show lkSMod e12 from lkL_mem k_a0 q_e12.1)) (fun r18 q_r18 => ?_)
            replace q_r18 : r18.length ≤ 140737488400000 := q_r18
            refine W.bd (W.cat (by first | omega | (simp; omega))) (fun s19 q_s19 => ?_)
            replace q_s19 : s19.length = (out_t3_7).length + (r18).length := q_s19.2
            have ww_9 : wrap64 (i_t4_8 + (1 : Int)) = i_t4_8 + (1 : Int) := wrap64_id (by omega) (by omega)
            exact W.nx (by (try dsimp only); first | omega | (and_intros <;> first | omega | assumption) | (simp; omega)) (by (try dsimp only); omega)
      · try simp only [bb_1, bz] at hh_4
        refine W.ex ?_
        try dsimp only [Sum.elim_inl, Sum.elim_inr]
        unfold r15_ListText_J4
        exact W.rt trivial
theorem r19_Is_J27_W {a0 : SReplace} {b6 : Bool} {vt109_26 : Bool} : W (r19_Is_J27 a0 b6 vt109_26) (fun r => True) := by
  unfold r19_Is_J27
  refine W.if (fun hh_1 => ?_) (fun hh_1 => ?_)
  · try simp only [bz] at hh_1
    refine W.lt (fun b29 bb_2 => ?_)
    refine W.lt (fun b30 bb_3 => ?_)
    refine W.lt (fun b31 bb_4 => ?_)
    exact W.rt trivial
  · try simp only [bz] at hh_1
    exact W.rt trivial
theorem r19_Is_W {a0 : SReplace} (k_a0 : lkSReplace a0) : W (r19_Is a0) (fun r => True) := by
  unfold r19_Is
  refine W.if (fun hh_1 => ?_) (fun hh_1 => ?_)
  · try simp only [bz] at hh_1
    refine W.bd (r19_moves_W k_a0) (fun r2 q_r2 => ?_)
    exact W.rt trivial
  · try simp only [bz] at hh_1
    refine W.bd (r19_plain_W) (fun r3 q_r3 => ?_)
    refine W.if (fun hh_2 => ?_) (fun hh_2 => ?_)
    · try simp only [bz] at hh_2
      exact W.rt trivial
    · try simp only [bz] at hh_2
      refine W.lt (fun b5 bb_3 => ?_)
      refine W.lt (fun b6 bb_4 => ?_)
      refine W.if (fun hh_5 => ?_) (fun hh_5 => ?_)
      · try simp only [bb_3, bb_4, bz] at hh_5
        refine W.lt (fun b8 bb_6 => ?_)
        refine W.lt (fun b9 bb_7 => ?_)
        refine W.lt (fun b10 bb_8 => ?_)
        refine W.if (fun hh_9 => ?_) (fun hh_9 => ?_)
        · try simp only [bb_3, bb_4, bb_6, bb_7, bb_8, bz] at hh_9
          exact W.rt trivial
        · try simp only [bb_3, bb_4, bb_6, bb_7, bb_8, bz] at hh_9
          refine W.gb (fun gg_10 => by try simp only [bb_3, bb_4, bb_6, bb_7, bb_8, bz] at gg_10; exact r19_field_W (lkSReplace_Filter k_a0)) (fun r12 q_r12 => ?_)
          refine W.lt (fun b13 bb_11 => ?_)
          refine W.lt (fun b14 bb_12 => ?_)
          refine W.lt (fun b15 bb_13 => ?_)
          refine W.lt (fun b16 bb_14 => ?_)
          exact W.rt trivial
      · try simp only [bb_3, bb_4, bz] at hh_5
        refine W.if (fun hh_15 => ?_) (fun hh_15 => ?_)
        · try simp only [bb_3, bb_4, bz] at hh_15
          refine W.lt (fun b18 bb_16 => ?_)
          refine W.gb (fun gg_17 => by try simp only [bb_3, bb_4, bb_16, bz] at gg_17; exact r19_field_W (lkSReplace_Filter k_a0)) (fun r19 q_r19 => ?_)
          refine W.lt (fun b20 bb_18 => ?_)
          exact W.rt trivial
        · try simp only [bb_3, bb_4, bz] at hh_15
          refine W.if (fun hh_19 => ?_) (fun hh_19 => ?_)
          · try simp only [bb_3, bb_4, bz] at hh_19
            refine W.lt (fun b22 bb_20 => ?_)
            refine W.lt (fun b23 bb_21 => ?_)
            refine W.lt (fun b24 bb_22 => ?_)
            refine W.lt (fun b25 bb_23 => ?_)
            exact W.rt trivial
          · try simp only [bb_3, bb_4, bz] at hh_19
            refine W.if (fun hh_24 => ?_) (fun hh_24 => ?_)
            · try simp only [bb_3, bb_4, bz] at hh_24
              exact r19_Is_J27_W
            · try simp only [bb_3, bb_4, bz] at hh_24
              refine W.if (fun hh_26 => ?_) (fun hh_26 => ?_)
              · try simp only [bb_3, bb_4, bz] at hh_26
                exact r19_Is_J27_W
              · try simp only [bb_3, bb_4, bz] at hh_26
                exact r19_Is_J27_W
theorem r17_mods_W {a0 : List (SMod)} (k_a0 : lkL 176 lkSMod a0) : W (r17_mods a0) (fun r => True) := by
  unfold r17_mods
  refine W.bd (r15_ListText_W k_a0) (fun r1 q_r1 => ?_)
  exact W.rt trivial
theorem r17_Is_J22_W {vt5_3 : Bool} {b8 : Bool} {b12 : Bool} {vt8_13 : Bool} {vt9_15 : Bool} {vt10_17 : Bool} {vt11_19 : Bool} {vt12_21 : Bool} : W (r17_Is_J22 vt5_3 b8 b12 vt8_13 vt9_15 vt10_17 vt11_19 vt12_21) (fun r => True) := by
  unfold r17_Is_J22
  refine W.lt (fun b23 bb_1 => ?_)
  refine W.lt (fun b24 bb_2 => ?_)
  refine W.lt (fun b25 bb_3 => ?_)
  refine W.lt (fun b26 bb_4 => ?_)
  refine W.lt (fun b27 bb_5 => ?_)
  refine W.lt (fun b28 bb_6 => ?_)
  refine W.lt (fun b29 bb_7 => ?_)
  exact W.rt trivial
theorem r17_Is_J20_W {a0 : SEffect} {vt5_3 : Bool} {b8 : Bool} {b12 : Bool} {vt8_13 : Bool} {vt9_15 : Bool} {vt10_17 : Bool} {vt11_19 : Bool} (k_a0 : lkSEffect a0) : W (r17_Is_J20 a0 vt5_3 b8 b12 vt8_13 vt9_15 vt10_17 vt11_19) (fun r => True) := by
  unfold r17_Is_J20
  refine W.bd (r17_uses_W) (fun r30 q_r30 => ?_)
  refine W.if (fun hh_1 => ?_) (fun hh_1 => ?_)
  · try simp only [bz] at hh_1
    refine W.bd (r17_filter_W (lkSEffect_Filter k_a0)) (fun r32 q_r32 => ?_)
    exact r17_Is_J22_W
  · try simp only [bz] at hh_1
    exact r17_Is_J22_W
theorem r17_Is_J18_W {a0 : SEffect} {vt5_3 : Bool} {b8 : Bool} {b12 : Bool} {vt8_13 : Bool} {vt9_15 : Bool} {vt10_17 : Bool} (k_a0 : lkSEffect a0) : W (r17_Is_J18 a0 vt5_3 b8 b12 vt8_13 vt9_15 vt10_17) (fun r => True) := by
  unfold r17_Is_J18
  refine W.bd (r17_uses_W) (fun r33 q_r33 => ?_)
  refine W.if (fun hh_1 => ?_) (fun hh_1 => ?_)
  · try simp only [bz] at hh_1
    refine W.gb (fun gg_2 => by try simp only [bz] at gg_2; exact r08_PoolText_W) (fun r35 q_r35 => ?_)
    refine W.lt (fun b36 bb_3 => ?_)
    exact r17_Is_J20_W k_a0
  · try simp only [bz] at hh_1
    exact r17_Is_J20_W k_a0
theorem r17_Is_J16_W {a0 : SEffect} {vt5_3 : Bool} {b8 : Bool} {b12 : Bool} {vt8_13 : Bool} {vt9_15 : Bool} (k_a0 : lkSEffect a0) : W (r17_Is_J16 a0 vt5_3 b8 b12 vt8_13 vt9_15) (fun r => True) := by
  unfold r17_Is_J16
  refine W.bd (r17_uses_W) (fun r37 q_r37 => ?_)
  refine W.if (fun hh_1 => ?_) (fun hh_1 => ?_)
  · try simp only [bz] at hh_1
    refine W.bd (r17_mods_W (lkSEffect_Mods k_a0)) (fun r39 q_r39 => ?_)
    exact r17_Is_J18_W k_a0
  · try simp only [bz] at hh_1
    exact r17_Is_J18_W k_a0
theorem r17_Is_J14_W {a0 : SEffect} {vt5_3 : Bool} {b8 : Bool} {b12 : Bool} {vt8_13 : Bool} (k_a0 : lkSEffect a0) : W (r17_Is_J14 a0 vt5_3 b8 b12 vt8_13) (fun r => True) := by
  unfold r17_Is_J14
  refine W.bd (r17_uses_W) (fun r40 q_r40 => ?_)
  refine W.if (fun hh_1 => ?_) (fun hh_1 => ?_)
  · try simp only [bz] at hh_1
    refine W.bd (r14_Is_W (lkSEffect_Amount k_a0)) (fun r42 q_r42 => ?_)
    exact r17_Is_J16_W k_a0
  · try simp only [bz] at hh_1
    exact r17_Is_J16_W k_a0
theorem r17_Is_J4_W {a0 : SEffect} {vt5_3 : Bool} (k_a0 : lkSEffect a0) : W (r17_Is_J4 a0 vt5_3) (fun r => True) := by
  unfold r17_Is_J4
  refine W.gb (fun gg_1 => by try simp only [bz] at gg_1; exact r17_uses_W) (fun r5 q_r5 => ?_)
  refine W.lt (fun b6 bb_2 => ?_)
  refine W.lt (fun b7 bb_3 => ?_)
  refine W.lt (fun b8 bb_4 => ?_)
  refine W.gb (fun gg_5 => by try simp only [bb_2, bb_3, bb_4, bz] at gg_5; exact r17_uses_W) (fun r9 q_r9 => ?_)
  refine W.gb (fun gg_6 => by try simp only [bb_2, bb_3, bb_4, bz] at gg_6; exact r12_Name_W) (fun r10 q_r10 => ?_)
  refine W.lt (fun b11 bb_7 => ?_)
  refine W.lt (fun b12 bb_8 => ?_)
  refine W.bd (r17_uses_W) (fun r43 q_r43 => ?_)
  refine W.if (fun hh_9 => ?_) (fun hh_9 => ?_)
  · try simp only [bb_2, bb_3, bb_4, bb_7, bb_8, bz] at hh_9
    refine W.bd (r02_Is_W (lkSEffect_Card k_a0)) (fun r45 q_r45 => ?_)
    replace q_r45 : r45 = true → a0.Card.length ≤ 32 := q_r45
    have ll_10 : a0.Card.length ≤ 140737488355328 := (lkSEffect_Card k_a0)
    exact r17_Is_J14_W k_a0
  · try simp only [bb_2, bb_3, bb_4, bb_7, bb_8, bz] at hh_9
    exact r17_Is_J14_W k_a0
theorem r17_Is_W {a0 : SEffect} {a1 : Int} (k_a0 : lkSEffect a0) : W (r17_Is a0 a1) (fun r => True) := by
  unfold r17_Is
  refine W.bd (r17_Word_W) (fun r1 q_r1 => ?_)
  refine W.if (fun hh_1 => ?_) (fun hh_1 => ?_)
  · try simp only [bz] at hh_1
    exact W.rt trivial
  · try simp only [bz] at hh_1
    refine W.bd (r17_uses_W) (fun r46 q_r46 => ?_)
    refine W.if (fun hh_2 => ?_) (fun hh_2 => ?_)
    · try simp only [bz] at hh_2
      refine W.bd (r16_Is_W (lkSEffect_Ref k_a0)) (fun r48 q_r48 => ?_)
      exact r17_Is_J4_W k_a0
    · try simp only [bz] at hh_2
      exact r17_Is_J4_W k_a0
theorem r20_effects_W {a0 : List (SEffect)} {a1 : Int} (k_a0 : lkL 560 lkSEffect a0) : W (r20_effects a0 a1) (fun r => True) := by
  unfold r20_effects
  have ll_1 : a0.length ≤ 140737488355328 := lkL_len (by decide) k_a0
  refine W.it (fun (v : Int) => 0 ≤ v ∧ (v ≤ (a0.length : Int) ∨ v ≤ 0)) (fun v => ((a0.length : Int) - v).toNat) ?_ ?_ (fun v hv => ?_)
  · (try dsimp only); first | omega | (simp; omega) | (and_intros <;> first | omega | assumption | (simp; omega) | simp)
  · (try dsimp only); first | omega | (simp; omega) | (and_intros <;> first | omega | assumption | (simp; omega) | simp)
  · obtain ⟨i_t5_4, hv0⟩ : ∃ x, x = v := ⟨v, rfl⟩
    subst hv0
    replace hv : 0 ≤ i_t5_4 ∧ (i_t5_4 ≤ (a0.length : Int) ∨ i_t5_4 ≤ 0) := hv
    show W (r20_effects_B5 a0 a1 i_t5_4) _
    unfold r20_effects_B5
    refine W.if (fun hh_2 => ?_) (fun hh_2 => ?_)
    · try simp only [bz] at hh_2
      refine W.bd (W.idx (by omega)) (fun e7 q_e7 => ?_)
      refine W.bd (r17_Is_W (show lkSEffect e7 from lkL_mem k_a0 q_e7.1)) (fun r8 q_r8 => ?_)
      refine W.if (fun hh_3 => ?_) (fun hh_3 => ?_)
      · try simp only [bz] at hh_3
        refine W.ex ?_
        try dsimp only [Sum.elim_inl, Sum.elim_inr]
        exact W.rt trivial
      · try simp only [bz] at hh_3
        have ww_4 : wrap64 (i_t5_4 + (1 : Int)) = i_t5_4 + (1 : Int) := wrap64_id (by omega) (by omega)
        exact W.nx (by (try dsimp only); first | omega | (and_intros <;> first | omega | assumption) | (simp; omega)) (by (try dsimp only); omega)
    · try simp only [bz] at hh_2
      refine W.ex ?_
      try dsimp only [Sum.elim_inl, Sum.elim_inr]
      unfold r20_effects_J1
      refine W.lt (fun b2 bb_5 => ?_)
      exact W.rt trivial
theorem r20_Is_J8_W {a0 : SAbility} {b4 : Bool} (k_a0 : lkSAbility a0) : W (r20_Is_J8 a0 b4) (fun r => True) := by
  unfold r20_Is_J8
  refine W.if (fun hh_1 => ?_) (fun hh_1 => ?_)
  · try simp only [bz] at hh_1
    refine W.bd (r20_specs_W (lkSAbility_Specs k_a0)) (fun r10 q_r10 => ?_)
    refine W.gb (fun gg_2 => by try simp only [bz] at gg_2; exact r20_effects_W (lkSAbility_Effects k_a0)) (fun r11 q_r11 => ?_)
    refine W.lt (fun b12 bb_3 => ?_)
    exact W.rt trivial
  · try simp only [bz] at hh_1
    refine W.lt (fun b13 bb_4 => ?_)
    exact W.rt trivial
theorem r20_Is_J7_W {a0 : SAbility} {b4 : Bool} (k_a0 : lkSAbility a0) : W (r20_Is_J7 a0 b4) (fun r => True) := by
  unfold r20_Is_J7
  refine W.if (fun hh_1 => ?_) (fun hh_1 => ?_)
  · try simp only [bz] at hh_1
    refine W.bd (r19_Is_W (lkSAbility_Replace k_a0)) (fun r15 q_r15 => ?_)
    refine W.if (fun hh_2 => ?_) (fun hh_2 => ?_)
    · try simp only [bz] at hh_2
      exact W.rt trivial
    · try simp only [bz] at hh_2
      exact r20_Is_J8_W k_a0
  · try simp only [bz] at hh_1
    refine W.if (fun hh_4 => ?_) (fun hh_4 => ?_)
    · try simp only [bz] at hh_4
      exact W.rt trivial
    · try simp only [bz] at hh_4
      exact r20_Is_J8_W k_a0
theorem r20_Is_J6_W {a0 : SAbility} {b4 : Bool} (k_a0 : lkSAbility a0) : W (r20_Is_J6 a0 b4) (fun r => True) := by
  unfold r20_Is_J6
  refine W.if (fun hh_1 => ?_) (fun hh_1 => ?_)
  · try simp only [bz] at hh_1
    refine W.bd (r18_Is_W (lkSAbility_Trigger k_a0)) (fun r19 q_r19 => ?_)
    refine W.if (fun hh_2 => ?_) (fun hh_2 => ?_)
    · try simp only [bz] at hh_2
      exact W.rt trivial
    · try simp only [bz] at hh_2
      exact r20_Is_J7_W k_a0
  · try simp only [bz] at hh_1
    refine W.lt (fun b21 bb_4 => ?_)
    refine W.if (fun hh_5 => ?_) (fun hh_5 => ?_)
    · try simp only [bb_4, bz] at hh_5
      exact W.rt trivial
    · try simp only [bb_4, bz] at hh_5
      exact r20_Is_J7_W k_a0
theorem r20_Is_J5_W {a0 : SAbility} {b4 : Bool} (k_a0 : lkSAbility a0) : W (r20_Is_J5 a0 b4) (fun r => True) := by
  unfold r20_Is_J5
  refine W.if (fun hh_1 => ?_) (fun hh_1 => ?_)
  · try simp only [bz] at hh_1
    refine W.bd (r20_price_W) (fun r24 q_r24 => ?_)
    refine W.if (fun hh_2 => ?_) (fun hh_2 => ?_)
    · try simp only [bz] at hh_2
      exact W.rt trivial
    · try simp only [bz] at hh_2
      exact r20_Is_J6_W k_a0
  · try simp only [bz] at hh_1
    refine W.lt (fun b26 bb_4 => ?_)
    refine W.if (fun hh_5 => ?_) (fun hh_5 => ?_)
    · try simp only [bb_4, bz] at hh_5
      exact W.rt trivial
    · try simp only [bb_4, bz] at hh_5
      exact r20_Is_J6_W k_a0
theorem r20_Is_W {a0 : SAbility} (k_a0 : lkSAbility a0) : W (r20_Is a0) (fun r => True) := by
  unfold r20_Is
  refine W.lt (fun b1 bb_1 => ?_)
  refine W.if (fun hh_2 => ?_) (fun hh_2 => ?_)
  · try simp only [bb_1, bz] at hh_2
    exact W.rt trivial
  · try simp only [bb_1, bz] at hh_2
    refine W.lt (fun b3 bb_3 => ?_)
    refine W.lt (fun b4 bb_4 => ?_)
    refine W.if (fun hh_5 => ?_) (fun hh_5 => ?_)
    · try simp only [bb_1, bb_3, bb_4, bz] at hh_5
      refine W.bd (r13_Is_W (lkSAbility_Filter k_a0)) (fun r29 q_r29 => ?_)
      replace q_r29 : r29 = true → 0 ≤ a0.Filter.Zone ∧ a0.Filter.Zone ≤ 5 ∧ 0 ≤ a0.Filter.Who ∧ a0.Filter.Who ≤ 2 ∧ 0 ≤ a0.Filter.Self ∧ a0.Filter.Self ≤ 2 ∧ 0 ≤ a0.Filter.Tap ∧ a0.Filter.Tap ≤ 2 ∧ 0 ≤ a0.Filter.Power.Kind ∧ a0.Filter.Power.Kind ≤ 3 ∧ 0 ≤ a0.Filter.Tough.Kind ∧ a0.Filter.Tough.Kind ≤ 3 ∧ 0 ≤ a0.Filter.Value.Kind ∧ a0.Filter.Value.Kind ≤ 3 ∧ a0.Filter.Sub.length ≤ 32 := q_r29
      have ll_6 : a0.Filter.Sub.length ≤ 140737488355328 := (lkSFilter_Sub (lkSAbility_Filter k_a0))
      refine W.lt (fun b30 bb_7 => ?_)
      refine W.gb (fun gg_8 => by try simp only [bb_1, bb_3, bb_4, bb_7, bz] at gg_8; exact r15_ListText_W (lkSAbility_Mods k_a0)) (fun r31 q_r31 => ?_)
      refine W.lt (fun b32 bb_9 => ?_)
      refine W.if (fun hh_10 => ?_) (fun hh_10 => ?_)
      · try simp only [bb_1, bb_3, bb_4, bb_7, bb_9, bz] at hh_10
        exact W.rt trivial
      · try simp only [bb_1, bb_3, bb_4, bb_7, bb_9, bz] at hh_10
        exact r20_Is_J5_W k_a0
    · try simp only [bb_1, bb_3, bb_4, bz] at hh_5
      refine W.lt (fun b34 bb_12 => ?_)
      refine W.if (fun hh_13 => ?_) (fun hh_13 => ?_)
      · try simp only [bb_1, bb_3, bb_4, bb_12, bz] at hh_13
        exact W.rt trivial
      · try simp only [bb_1, bb_3, bb_4, bb_12, bz] at hh_13
        exact r20_Is_J5_W k_a0
theorem r21_Is_W {a0 : SCard} (k_a0 : lkSCard a0) : W (r21_Is a0) (fun r => True) := by
  unfold r21_Is
  refine W.bd (r02_Is_W (lkSCard_Name k_a0)) (fun r1 q_r1 => ?_)
  replace q_r1 : r1 = true → a0.Name.length ≤ 32 := q_r1
  have ll_1 : a0.Name.length ≤ 140737488355328 := (lkSCard_Name k_a0)
  refine W.gb (fun gg_2 => by try simp only [bz] at gg_2; exact r08_Is_W) (fun r2 q_r2 => ?_)
  refine W.lt (fun b3 bb_3 => ?_)
  refine W.gb (fun gg_4 => by try simp only [bb_3, bz] at gg_4; exact r10_Is_W (lkSCard_Line k_a0)) (fun r4 q_r4 => ?_)
  refine W.lt (fun b5 bb_5 => ?_)
  refine W.gb (fun gg_6 => by try simp only [bb_3, bb_5, bz] at gg_6; exact r11_Is_W) (fun r6 q_r6 => ?_)
  refine W.lt (fun b7 bb_7 => ?_)
  refine W.lt (fun b8 bb_8 => ?_)
  refine W.lt (fun b9 bb_9 => ?_)
  refine W.if (fun hh_10 => ?_) (fun hh_10 => ?_)
  · try simp only [bb_3, bb_5, bb_7, bb_8, bb_9, bz] at hh_10
    exact W.rt trivial
  · try simp only [bb_3, bb_5, bb_7, bb_8, bb_9, bz] at hh_10
    refine W.lt (fun b11 bb_11 => ?_)
    refine W.lt (fun b12 bb_12 => ?_)
    refine W.lt (fun b13 bb_13 => ?_)
    refine W.gb (fun gg_14 => by try simp only [bb_3, bb_5, bb_7, bb_8, bb_9, bb_11, bb_12, bb_13, bz] at gg_14; exact r21_creature_W) (fun r14 q_r14 => ?_)
    refine W.lt (fun b15 bb_15 => ?_)
    refine W.lt (fun b16 bb_16 => ?_)
    refine W.lt (fun b17 bb_17 => ?_)
    refine W.lt (fun b18 bb_18 => ?_)
    refine W.if (fun hh_19 => ?_) (fun hh_19 => ?_)
    · try simp only [bb_3, bb_5, bb_7, bb_8, bb_9, bb_11, bb_12, bb_13, bb_15, bb_16, bb_17, bb_18, bz] at hh_19
      exact W.rt trivial
    · try simp only [bb_3, bb_5, bb_7, bb_8, bb_9, bb_11, bb_12, bb_13, bb_15, bb_16, bb_17, bb_18, bz] at hh_19
      have ll_20 : a0.Abilities.length ≤ 140737488355328 := lkL_len (by decide) (lkSCard_Abilities k_a0)
      refine W.it (fun (v : Int × Int) => 0 ≤ v.2 ∧ (v.2 ≤ (a0.Abilities.length : Int) ∨ v.2 ≤ 0)) (fun v => ((a0.Abilities.length : Int) - v.2).toNat) ?_ ?_ (fun v hv => ?_)
      · (try dsimp only); first | omega | (simp; omega) | (and_intros <;> first | omega | assumption | (simp; omega) | simp)
      · (try dsimp only); first | omega | (simp; omega) | (and_intros <;> first | omega | assumption | (simp; omega) | simp)
      · obtain ⟨vt3_32, vt4_33⟩ := v
        replace hv : 0 ≤ vt4_33 ∧ (vt4_33 ≤ (a0.Abilities.length : Int) ∨ vt4_33 ≤ 0) := hv
        show W (r21_Is_B35 a0 vt3_32 vt4_33) _
        unfold r21_Is_B35
        refine W.if (fun hh_21 => ?_) (fun hh_21 => ?_)
        · try simp only [bb_3, bb_5, bb_7, bb_8, bb_9, bb_11, bb_12, bb_13, bb_15, bb_16, bb_17, bb_18, bz] at hh_21
          refine W.bd (W.idx (by omega)) (fun e39 q_e39 => ?_)
          refine W.bd (r20_Is_W (show lkSAbility e39 from lkL_mem (lkSCard_Abilities k_a0) q_e39.1)) (fun r40 q_r40 => ?_)
          refine W.if (fun hh_22 => ?_) (fun hh_22 => ?_)
          · try simp only [bb_3, bb_5, bb_7, bb_8, bb_9, bb_11, bb_12, bb_13, bb_15, bb_16, bb_17, bb_18, bz] at hh_22
            refine W.ex ?_
            try dsimp only [Sum.elim_inl, Sum.elim_inr]
            exact W.rt trivial
          · try simp only [bb_3, bb_5, bb_7, bb_8, bb_9, bb_11, bb_12, bb_13, bb_15, bb_16, bb_17, bb_18, bz] at hh_22
            refine W.re q_e39.2.2 ?_
            refine W.if (fun hh_23 => ?_) (fun hh_23 => ?_)
            · try simp only [bb_3, bb_5, bb_7, bb_8, bb_9, bb_11, bb_12, bb_13, bb_15, bb_16, bb_17, bb_18, bz] at hh_23
              unfold r21_Is_J38
              have ww_24 : wrap64 (vt4_33 + (1 : Int)) = vt4_33 + (1 : Int) := wrap64_id (by omega) (by omega)
              exact W.nx (by (try dsimp only); first | omega | (and_intros <;> first | omega | assumption) | (simp; omega)) (by (try dsimp only); omega)
            · try simp only [bb_3, bb_5, bb_7, bb_8, bb_9, bb_11, bb_12, bb_13, bb_15, bb_16, bb_17, bb_18, bz] at hh_23
              unfold r21_Is_J38
              have ww_25 : wrap64 (vt4_33 + (1 : Int)) = vt4_33 + (1 : Int) := wrap64_id (by omega) (by omega)
              exact W.nx (by (try dsimp only); first | omega | (and_intros <;> first | omega | assumption) | (simp; omega)) (by (try dsimp only); omega)
        · try simp only [bb_3, bb_5, bb_7, bb_8, bb_9, bb_11, bb_12, bb_13, bb_15, bb_16, bb_17, bb_18, bz] at hh_21
          refine W.ex ?_
          try dsimp only [Sum.elim_inl, Sum.elim_inr]
          unfold r21_Is_J21
          refine W.bd (r21_fast_W) (fun r22 q_r22 => ?_)
          refine W.if (fun hh_26 => ?_) (fun hh_26 => ?_)
          · try simp only [bb_3, bb_5, bb_7, bb_8, bb_9, bb_11, bb_12, bb_13, bb_15, bb_16, bb_17, bb_18, bz] at hh_26
            refine W.lt (fun b24 bb_27 => ?_)
            refine W.lt (fun b25 bb_28 => ?_)
            refine W.lt (fun b26 bb_29 => ?_)
            exact W.rt trivial
          · try simp only [bb_3, bb_5, bb_7, bb_8, bb_9, bb_11, bb_12, bb_13, bb_15, bb_16, bb_17, bb_18, bz] at hh_26
            refine W.lt (fun b27 bb_30 => ?_)
            refine W.lt (fun b28 bb_31 => ?_)
            refine W.lt (fun b29 bb_32 => ?_)
            exact W.rt trivial
end Go.PL
