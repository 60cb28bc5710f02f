/- Functions that answer: proofs. -/
import Derived.Test.YtlinpadogiggaaaGreatDoorPlEvB
import Derived.Test.YtlinpadogiggaaaGreatDoorPlEvF4
import Derived.Test.YtlinpadogiggaaaGreatDoorPlEvF5
import Derived.Test.YtlinpadogiggaaaGreatDoorPlEvF6
import Derived.Test.YtlinpadogiggaaaGreatDoorPlEwL
import Derived.Test.YtlinpadogiggaaaGreatDoorPlEwW0
import Derived.Test.YtlinpadogiggaaaGreatDoorPlEwW1
namespace Go.PL
open Go
set_option maxRecDepth 100000
set_option linter.all false
set_option maxHeartbeats 2000000
theorem r32_Is_J28_W {a0 : List (SCard)} {a1 : SState} {a2 : SEvent} {r1 : SObject × Bool} {b2 : Bool} {r3 : Bool} {vt117_27 : Bool} (k_a0 : lkL 176 lkSCard a0) (k_a1 : lkSState a1) : W (r32_Is_J28 a0 a1 a2 r1 b2 r3 vt117_27) (fun r => True) := by
  unfold r32_Is_J28
  refine W.if (fun hh_1 => ?_) (fun hh_1 => ?_)
  · try simp only [bz] at hh_1
    refine W.lt (fun b30 bb_2 => ?_)
    refine W.lt (fun b31 bb_3 => ?_)
    refine W.gb (fun gg_4 => by try simp only [bb_2, bb_3, bz] at gg_4; exact r32_amount_W) (fun r32 q_r32 => ?_)
    refine W.lt (fun b33 bb_5 => ?_)
    exact W.rt trivial
  · try simp only [bz] at hh_1
    refine W.if (fun hh_6 => ?_) (fun hh_6 => ?_)
    · try simp only [bz] at hh_6
      refine W.lt (fun b35 bb_7 => ?_)
      refine W.lt (fun b36 bb_8 => ?_)
      refine W.gb (fun gg_9 => by try simp only [bb_7, bb_8, bz] at gg_9; have ll_10 : a0.length ≤ 140737488355328 := lkL_len (by decide) k_a0; exact W.idx (by omega)) (fun e37 q_e37 => ?_)
      refine W.lt (fun b38 bb_11 => ?_)
      refine W.gb (fun gg_12 => by try simp only [bb_7, bb_8, bb_11, bz] at gg_12; exact r32_amount_W) (fun r39 q_r39 => ?_)
      refine W.lt (fun b40 bb_13 => ?_)
      exact W.rt trivial
    · try simp only [bz] at hh_6
      refine W.if (fun hh_14 => ?_) (fun hh_14 => ?_)
      · try simp only [bz] at hh_14
        refine W.lt (fun b42 bb_15 => ?_)
        refine W.lt (fun b43 bb_16 => ?_)
        exact W.rt trivial
      · try simp only [bz] at hh_14
        refine W.if (fun hh_17 => ?_) (fun hh_17 => ?_)
        · try simp only [bz] at hh_17
          refine W.lt (fun b45 bb_18 => ?_)
          exact W.rt trivial
        · try simp only [bz] at hh_17
          refine W.if (fun hh_19 => ?_) (fun hh_19 => ?_)
          · try simp only [bz] at hh_19
            refine W.gb (fun gg_20 => by try simp only [bz] at gg_20; exact r32_in_W k_a1) (fun r47 q_r47 => ?_)
            refine W.lt (fun b48 bb_21 => ?_)
            exact W.rt trivial
          · try simp only [bz] at hh_19
            exact W.rt trivial
theorem r15_Is_J18_W {a0 : SMod} {vt51_17 : Bool} (k_a0 : lkSMod a0) : W (r15_Is_J18 a0 vt51_17) (fun r => True) := by
  unfold r15_Is_J18
  refine W.if (fun hh_1 => ?_) (fun hh_1 => ?_)
  · try simp only [bz] at hh_1
    refine W.lt (fun b20 bb_2 => ?_)
    exact W.rt trivial
  · try simp only [bz] at hh_1
    refine W.if (fun hh_3 => ?_) (fun hh_3 => ?_)
    · try simp only [bz] at hh_3
      refine W.bd (r13_Is_W (lkSMod_Filter k_a0)) (fun r22 q_r22 => ?_)
      replace q_r22 : r22 = true → 0 ≤ a0.Filter.Zone ∧ a0.Filter.Zone ≤ 5 ∧ 0 ≤ a0.Filter.Who ∧ a0.Filter.Who ≤ 2 ∧ 0 ≤ a0.Filter.Self ∧ a0.Filter.Self ≤ 2 ∧ 0 ≤ a0.Filter.Tap ∧ a0.Filter.Tap ≤ 2 ∧ 0 ≤ a0.Filter.Power.Kind ∧ a0.Filter.Power.Kind ≤ 3 ∧ 0 ≤ a0.Filter.Tough.Kind ∧ a0.Filter.Tough.Kind ≤ 3 ∧ 0 ≤ a0.Filter.Value.Kind ∧ a0.Filter.Value.Kind ≤ 3 ∧ a0.Filter.Sub.length ≤ 32 := q_r22
      have ll_4 : a0.Filter.Sub.length ≤ 140737488355328 := (lkSFilter_Sub (lkSMod_Filter k_a0))
      exact W.rt trivial
    · try simp only [bz] at hh_3
      refine W.if (fun hh_5 => ?_) (fun hh_5 => ?_)
      · try simp only [bz] at hh_5
        refine W.lt (fun b24 bb_6 => ?_)
        refine W.lt (fun b25 bb_7 => ?_)
        refine W.lt (fun b26 bb_8 => ?_)
        exact W.rt trivial
      · try simp only [bz] at hh_5
        refine W.if (fun hh_9 => ?_) (fun hh_9 => ?_)
        · try simp only [bz] at hh_9
          refine W.lt (fun b28 bb_10 => ?_)
          refine W.lt (fun b29 bb_11 => ?_)
          refine W.lt (fun b30 bb_12 => ?_)
          exact W.rt trivial
        · try simp only [bz] at hh_9
          exact W.rt trivial
theorem r15_Is_J10_W {a0 : SMod} {vt25_9 : Bool} (k_a0 : lkSMod a0) : W (r15_Is_J10 a0 vt25_9) (fun r => True) := by
  unfold r15_Is_J10
  refine W.if (fun hh_1 => ?_) (fun hh_1 => ?_)
  · try simp only [bz] at hh_1
    refine W.bd (r10_IsSub_W (lkSMod_Sub k_a0)) (fun r12 q_r12 => ?_)
    replace q_r12 : r12 = true → a0.Sub.length ≤ 32 := q_r12
    have ll_2 : a0.Sub.length ≤ 140737488355328 := (lkSMod_Sub k_a0)
    exact W.rt trivial
  · try simp only [bz] at hh_1
    refine W.if (fun hh_3 => ?_) (fun hh_3 => ?_)
    · try simp only [bz] at hh_3
      refine W.lt (fun b14 bb_4 => ?_)
      exact W.rt trivial
    · try simp only [bz] at hh_3
      refine W.if (fun hh_5 => ?_) (fun hh_5 => ?_)
      · try simp only [bz] at hh_5
        refine W.lt (fun b16 bb_6 => ?_)
        exact W.rt trivial
      · try simp only [bz] at hh_5
        refine W.if (fun hh_7 => ?_) (fun hh_7 => ?_)
        · try simp only [bz] at hh_7
          exact r15_Is_J18_W k_a0
        · try simp only [bz] at hh_7
          exact r15_Is_J18_W k_a0
theorem r15_Is_J6_W {a0 : SMod} {vt19_5 : Bool} (k_a0 : lkSMod a0) : W (r15_Is_J6 a0 vt19_5) (fun r => True) := by
  unfold r15_Is_J6
  refine W.if (fun hh_1 => ?_) (fun hh_1 => ?_)
  · try simp only [bz] at hh_1
    refine W.bd (r15_types_W) (fun r8 q_r8 => ?_)
    exact W.rt trivial
  · try simp only [bz] at hh_1
    refine W.if (fun hh_2 => ?_) (fun hh_2 => ?_)
    · try simp only [bz] at hh_2
      exact r15_Is_J10_W k_a0
    · try simp only [bz] at hh_2
      exact r15_Is_J10_W k_a0
theorem r15_Is_W {a0 : SMod} (k_a0 : lkSMod a0) : W (r15_Is a0) (fun r => True) := by
  unfold r15_Is
  refine W.lt (fun b1 bb_1 => ?_)
  refine W.gb (fun gg_2 => by try simp only [bb_1, bz] at gg_2; exact r15_used_W) (fun r2 q_r2 => ?_)
  refine W.lt (fun b3 bb_3 => ?_)
  refine W.if (fun hh_4 => ?_) (fun hh_4 => ?_)
  · try simp only [bb_1, bb_3, bz] at hh_4
    exact W.rt trivial
  · try simp only [bb_1, bb_3, bz] at hh_4
    refine W.if (fun hh_5 => ?_) (fun hh_5 => ?_)
    · try simp only [bb_1, bb_3, bz] at hh_5
      exact r15_Is_J6_W k_a0
    · try simp only [bb_1, bb_3, bz] at hh_5
      exact r15_Is_J6_W k_a0
theorem r13_Text_J39_W {l7_38 : List (List UInt8)} (k_l7_38 : lkL 16 lkS l7_38) (p_0 : l7_38.length ≤ 49) (p_1 : ∀ y ∈ l7_38, y.length ≤ 600) : W (r13_Text_J39 l7_38) (fun r => r.length ≤ 31000) := by
  unfold r13_Text_J39
  have ll_1 : l7_38.length ≤ 140737488355328 := lkL_len (by decide) k_l7_38
  refine W.if (fun hh_2 => ?_) (fun hh_2 => ?_)
  · try simp only [bz] at hh_2
    refine W.rt ?_
    have ll_3 : str_any.length = 3 := rfl
    first | assumption | omega | (simp only [bz]; omega) | (simp only [bz]; intros; omega) | (intros; simp only [bz] at *; omega) | exact ⟨by simp, by simp⟩ | decide | simp_all
  · try simp only [bz] at hh_2
    have ll_4 : str_x20.length = 1 := rfl
    refine W.bd (r02_Join_W k_l7_38 (by unfold lkS; omega) (by first | assumption | omega | exact wrapu64_bd _ | (simp; done) | (simp; omega)) (by first | assumption | omega | exact wrapu64_bd _ | (simp; done) | (simp; omega)) (by first | assumption | omega | exact wrapu64_bd _ | (simp; done) | (simp; omega))) (fun r41 q_r41 => ?_)
    replace q_r41 : r41.length ≤ 30500 := q_r41
    refine W.rt ?_
    first | assumption | omega | (simp only [bz]; omega) | (simp only [bz]; intros; omega) | (intros; simp only [bz] at *; omega) | exact ⟨by simp, by simp⟩ | decide | simp_all
theorem r13_Text_J36_W {a0 : SFilter} {l7_35 : List (List UInt8)} (k_l7_35 : lkL 16 lkS l7_35) (p_0 : 0 ≤ a0.Zone ∧ a0.Zone ≤ 5 ∧ 0 ≤ a0.Who ∧ a0.Who ≤ 2 ∧ 0 ≤ a0.Self ∧ a0.Self ≤ 2 ∧ 0 ≤ a0.Tap ∧ a0.Tap ≤ 2 ∧ 0 ≤ a0.Power.Kind ∧ a0.Power.Kind ≤ 3 ∧ 0 ≤ a0.Tough.Kind ∧ a0.Tough.Kind ≤ 3 ∧ 0 ≤ a0.Value.Kind ∧ a0.Value.Kind ≤ 3 ∧ a0.Sub.length ≤ 32) (p_1 : l7_35.length ≤ 48) (p_2 : ∀ y ∈ l7_35, y.length ≤ 600) : W (r13_Text_J36 a0 l7_35) (fun r => r.length ≤ 31000) := by
  unfold r13_Text_J36
  have ll_1 : str_value.length = 5 := rfl
  refine W.bd (r13_boundWord_W (by unfold lkS; omega) (by first | assumption | omega | exact wrapu64_bd _ | (simp; done) | (simp; omega)) (by first | assumption | omega | exact wrapu64_bd _ | (simp; done) | (simp; omega))) (fun r37 q_r37 => ?_)
  replace q_r37 : r37.length ≤ 100 := q_r37
  refine W.if (fun hh_2 => ?_) (fun hh_2 => ?_)
  · try simp only [bz] at hh_2
    have ll_3 : l7_35.length ≤ 140737488355328 := lkL_len (by decide) k_l7_35
    exact r13_Text_J39_W k_l7_35 (by first | assumption | omega | exact wrapu64_bd _ | (simp; done) | (simp; omega)) (by first | assumption | omega | exact wrapu64_bd _ | (simp; done) | (simp; omega))
  · try simp only [bz] at hh_2
    have ll_5 : l7_35.length ≤ 140737488355328 := lkL_len (by decide) k_l7_35
    have ll_6 : ([r37] : List (List UInt8)).length = 1 := rfl
    refine W.bd (W.app (by first | omega | (simp; omega)) (by unfold maxLen; first | omega | (simp; omega))) (fun l43 q_l43 => ?_)
    have ll_7 : l43.length = (l7_35).length + ([r37] : List (List UInt8)).length := by rw [q_l43, List.length_append]
    have aa_8 : ∀ y ∈ l43, y.length ≤ 600 := by rw [q_l43]; exact all_app p_2 (all_one (by omega))
    exact r13_Text_J39_W (lkL_words (by assumption) (by omega) (by omega)) (by first | assumption | omega | exact wrapu64_bd _ | (simp; done) | (simp; omega)) (by first | assumption | omega | exact wrapu64_bd _ | (simp; done) | (simp; omega))
theorem r13_Text_J33_W {a0 : SFilter} {l7_32 : List (List UInt8)} (k_a0 : lkSFilter a0) (k_l7_32 : lkL 16 lkS l7_32) (p_0 : 0 ≤ a0.Zone ∧ a0.Zone ≤ 5 ∧ 0 ≤ a0.Who ∧ a0.Who ≤ 2 ∧ 0 ≤ a0.Self ∧ a0.Self ≤ 2 ∧ 0 ≤ a0.Tap ∧ a0.Tap ≤ 2 ∧ 0 ≤ a0.Power.Kind ∧ a0.Power.Kind ≤ 3 ∧ 0 ≤ a0.Tough.Kind ∧ a0.Tough.Kind ≤ 3 ∧ 0 ≤ a0.Value.Kind ∧ a0.Value.Kind ≤ 3 ∧ a0.Sub.length ≤ 32) (p_1 : l7_32.length ≤ 47) (p_2 : ∀ y ∈ l7_32, y.length ≤ 600) : W (r13_Text_J33 a0 l7_32) (fun r => r.length ≤ 31000) := by
  unfold r13_Text_J33
  have ll_1 : str_tough.length = 5 := rfl
  refine W.bd (r13_boundWord_W (by unfold lkS; omega) (by first | assumption | omega | exact wrapu64_bd _ | (simp; done) | (simp; omega)) (by first | assumption | omega | exact wrapu64_bd _ | (simp; done) | (simp; omega))) (fun r34 q_r34 => ?_)
  replace q_r34 : r34.length ≤ 100 := q_r34
  refine W.if (fun hh_2 => ?_) (fun hh_2 => ?_)
  · try simp only [bz] at hh_2
    have ll_3 : a0.Sub.length ≤ 140737488355328 := (lkSFilter_Sub k_a0)
    have ll_4 : l7_32.length ≤ 140737488355328 := lkL_len (by decide) k_l7_32
    exact r13_Text_J36_W k_l7_32 (by first | assumption | omega | exact wrapu64_bd _ | (simp; done) | (simp; omega)) (by first | assumption | omega | exact wrapu64_bd _ | (simp; done) | (simp; omega)) (by first | assumption | omega | exact wrapu64_bd _ | (simp; done) | (simp; omega))
  · try simp only [bz] at hh_2
    have ll_6 : l7_32.length ≤ 140737488355328 := lkL_len (by decide) k_l7_32
    have ll_7 : ([r34] : List (List UInt8)).length = 1 := rfl
    refine W.bd (W.app (by first | omega | (simp; omega)) (by unfold maxLen; first | omega | (simp; omega))) (fun l45 q_l45 => ?_)
    have ll_8 : l45.length = (l7_32).length + ([r34] : List (List UInt8)).length := by rw [q_l45, List.length_append]
    have aa_9 : ∀ y ∈ l45, y.length ≤ 600 := by rw [q_l45]; exact all_app p_2 (all_one (by omega))
    have ll_10 : a0.Sub.length ≤ 140737488355328 := (lkSFilter_Sub k_a0)
    exact r13_Text_J36_W (lkL_words (by assumption) (by omega) (by omega)) (by first | assumption | omega | exact wrapu64_bd _ | (simp; done) | (simp; omega)) (by first | assumption | omega | exact wrapu64_bd _ | (simp; done) | (simp; omega)) (by first | assumption | omega | exact wrapu64_bd _ | (simp; done) | (simp; omega))
theorem r13_Text_J30_W {a0 : SFilter} {l7_29 : List (List UInt8)} (k_a0 : lkSFilter a0) (k_l7_29 : lkL 16 lkS l7_29) (p_0 : 0 ≤ a0.Zone ∧ a0.Zone ≤ 5 ∧ 0 ≤ a0.Who ∧ a0.Who ≤ 2 ∧ 0 ≤ a0.Self ∧ a0.Self ≤ 2 ∧ 0 ≤ a0.Tap ∧ a0.Tap ≤ 2 ∧ 0 ≤ a0.Power.Kind ∧ a0.Power.Kind ≤ 3 ∧ 0 ≤ a0.Tough.Kind ∧ a0.Tough.Kind ≤ 3 ∧ 0 ≤ a0.Value.Kind ∧ a0.Value.Kind ≤ 3 ∧ a0.Sub.length ≤ 32) (p_1 : l7_29.length ≤ 46) (p_2 : ∀ y ∈ l7_29, y.length ≤ 600) : W (r13_Text_J30 a0 l7_29) (fun r => r.length ≤ 31000) := by
  unfold r13_Text_J30
  have ll_1 : str_power.length = 5 := rfl
  refine W.bd (r13_boundWord_W (by unfold lkS; omega) (by first | assumption | omega | exact wrapu64_bd _ | (simp; done) | (simp; omega)) (by first | assumption | omega | exact wrapu64_bd _ | (simp; done) | (simp; omega))) (fun r31 q_r31 => ?_)
  replace q_r31 : r31.length ≤ 100 := q_r31
  refine W.if (fun hh_2 => ?_) (fun hh_2 => ?_)
  · try simp only [bz] at hh_2
    have ll_3 : a0.Sub.length ≤ 140737488355328 := (lkSFilter_Sub k_a0)
    have ll_4 : l7_29.length ≤ 140737488355328 := lkL_len (by decide) k_l7_29
    exact r13_Text_J33_W k_a0 k_l7_29 (by first | assumption | omega | exact wrapu64_bd _ | (simp; done) | (simp; omega)) (by first | assumption | omega | exact wrapu64_bd _ | (simp; done) | (simp; omega)) (by first | assumption | omega | exact wrapu64_bd _ | (simp; done) | (simp; omega))
  · try simp only [bz] at hh_2
    have ll_6 : l7_29.length ≤ 140737488355328 := lkL_len (by decide) k_l7_29
    have ll_7 : ([r31] : List (List UInt8)).length = 1 := rfl
    refine W.bd (W.app (by first | omega | (simp; omega)) (by unfold maxLen; first | omega | (simp; omega))) (fun l47 q_l47 => ?_)
    have ll_8 : l47.length = (l7_29).length + ([r31] : List (List UInt8)).length := by rw [q_l47, List.length_append]
    have aa_9 : ∀ y ∈ l47, y.length ≤ 600 := by rw [q_l47]; exact all_app p_2 (all_one (by omega))
    have ll_10 : a0.Sub.length ≤ 140737488355328 := (lkSFilter_Sub k_a0)
    exact r13_Text_J33_W k_a0 (lkL_words (by assumption) (by omega) (by omega)) (by first | assumption | omega | exact wrapu64_bd _ | (simp; done) | (simp; omega)) (by first | assumption | omega | exact wrapu64_bd _ | (simp; done) | (simp; omega)) (by first | assumption | omega | exact wrapu64_bd _ | (simp; done) | (simp; omega))
theorem r13_Text_J25_W {a0 : SFilter} {r6 : List (List UInt8)} {l7_24 : List (List UInt8)} (k_a0 : lkSFilter a0) (k_r6 : lkL 16 lkS r6) (p_0 : 0 ≤ a0.Zone ∧ a0.Zone ≤ 5 ∧ 0 ≤ a0.Who ∧ a0.Who ≤ 2 ∧ 0 ≤ a0.Self ∧ a0.Self ≤ 2 ∧ 0 ≤ a0.Tap ∧ a0.Tap ≤ 2 ∧ 0 ≤ a0.Power.Kind ∧ a0.Power.Kind ≤ 3 ∧ 0 ≤ a0.Tough.Kind ∧ a0.Tough.Kind ≤ 3 ∧ 0 ≤ a0.Value.Kind ∧ a0.Value.Kind ≤ 3 ∧ a0.Sub.length ≤ 32) (p_1 : l7_24.length ≤ 27) (p_2 : ∀ y ∈ l7_24, y.length ≤ 600) (p_3 : r6.length = 3) (p_4 : ∀ y ∈ r6, y.length ≤ 40) : W (r13_Text_J25 a0 r6 l7_24) (fun r => r.length ≤ 31000) := by
  unfold r13_Text_J25
  refine W.it (fun (v : Int × (List (List UInt8))) => 0 ≤ v.1 ∧ v.1 ≤ 17 ∧ (v.2.length : Int) ≤ 27 + v.1 ∧ ∀ y ∈ v.2, y.length ≤ 600) (fun v => (17 - v.1).toNat) ?_ ?_ (fun v hv => ?_)
  · (try dsimp only); first | omega | (simp; omega) | (and_intros <;> first | omega | assumption | (simp; omega) | simp)
  · (try dsimp only); first | omega | (simp; omega) | (and_intros <;> first | omega | assumption | (simp; omega) | simp)
  · obtain ⟨vt12_52, l7_53⟩ := v
    replace hv : 0 ≤ vt12_52 ∧ vt12_52 ≤ 17 ∧ (l7_53.length : Int) ≤ 27 + vt12_52 ∧ ∀ y ∈ l7_53, y.length ≤ 600 := hv
    obtain ⟨vv_1, vv_2, vv_3, vv_4⟩ := hv
    show W (r13_Text_B55 a0 vt12_52 l7_53) _
    unfold r13_Text_B55
    refine W.if (fun hh_5 => ?_) (fun hh_5 => ?_)
    · try simp only [bz] at hh_5
      refine W.bd (r13_bit_W (by first | assumption | omega | exact wrapu64_bd _ | (simp; done) | (simp; omega))) (fun r59 q_r59 => ?_)
      refine W.if (fun hh_6 => ?_) (fun hh_6 => ?_)
      · try simp only [bz] at hh_6
        refine W.bd (r11_Name_W) (fun r61 q_r61 => ?_)
        replace q_r61 : r61.length ≤ 40 := q_r61
        have ll_7 : str_with_.length = 5 := rfl
        refine W.bd (W.cat (by first | omega | (simp; omega))) (fun s62 q_s62 => ?_)
        replace q_s62 : s62.length = (str_with_).length + (r61).length := q_s62.2
        have ll_8 : ([s62] : List (List UInt8)).length = 1 := rfl
        refine W.bd (W.app (by first | omega | (simp; omega)) (by unfold maxLen; first | omega | (simp; omega))) (fun l63 q_l63 => ?_)
        have ll_9 : l63.length = (l7_53).length + ([s62] : List (List UInt8)).length := by rw [q_l63, List.length_append]
        have aa_10 : ∀ y ∈ l63, y.length ≤ 600 := by rw [q_l63]; exact all_app vv_4 (all_one (by omega))
        unfold r13_Text_J58
        have ww_11 : wrap64 (vt12_52 + (1 : Int)) = vt12_52 + (1 : Int) := wrap64_id (by omega) (by omega)
        exact W.nx (by (try dsimp only); first | omega | (and_intros <;> first | omega | assumption) | (simp; omega)) (by (try dsimp only); omega)
      · try simp only [bz] at hh_6
        unfold r13_Text_J58
        have ww_12 : wrap64 (vt12_52 + (1 : Int)) = vt12_52 + (1 : Int) := wrap64_id (by omega) (by omega)
        exact W.nx (by (try dsimp only); first | omega | (and_intros <;> first | omega | assumption) | (simp; omega)) (by (try dsimp only); omega)
    · try simp only [bz] at hh_5
      refine W.ex ?_
      try dsimp only [Sum.elim_inl, Sum.elim_inr]
      unfold r13_Text_J27
      have ll_13 : r6.length ≤ 140737488355328 := lkL_len (by decide) k_r6
      refine W.bd (W.idx (by omega)) (fun e28 q_e28 => ?_)
      have ll_14 := p_4 e28 q_e28.1
      refine W.if (fun hh_15 => ?_) (fun hh_15 => ?_)
      · try simp only [bz] at hh_15
        have ll_16 : a0.Sub.length ≤ 140737488355328 := (lkSFilter_Sub k_a0)
        exact r13_Text_J30_W k_a0 (lkL_words (by assumption) (by omega) (by omega)) (by first | assumption | omega | exact wrapu64_bd _ | (simp; done) | (simp; omega)) (by first | assumption | omega | exact wrapu64_bd _ | (simp; done) | (simp; omega)) (by first | assumption | omega | exact wrapu64_bd _ | (simp; done) | (simp; omega))
      · try simp only [bz] at hh_15
        have ll_18 : ([e28] : List (List UInt8)).length = 1 := rfl
        refine W.bd (W.app (by first | omega | (simp; omega)) (by unfold maxLen; first | omega | (simp; omega))) (fun l49 q_l49 => ?_)
        have ll_19 : l49.length = (l7_53).length + ([e28] : List (List UInt8)).length := by rw [q_l49, List.length_append]
        have aa_20 : ∀ y ∈ l49, y.length ≤ 600 := by rw [q_l49]; exact all_app vv_4 (all_one (by omega))
        have ll_21 : a0.Sub.length ≤ 140737488355328 := (lkSFilter_Sub k_a0)
        exact r13_Text_J30_W k_a0 (lkL_words (by assumption) (by omega) (by omega)) (by first | assumption | omega | exact wrapu64_bd _ | (simp; done) | (simp; omega)) (by first | assumption | omega | exact wrapu64_bd _ | (simp; done) | (simp; omega)) (by first | assumption | omega | exact wrapu64_bd _ | (simp; done) | (simp; omega))
theorem r13_Text_J23_W {a0 : SFilter} {r6 : List (List UInt8)} {l7_22 : List (List UInt8)} (k_a0 : lkSFilter a0) (k_r6 : lkL 16 lkS r6) (k_l7_22 : lkL 16 lkS l7_22) (p_0 : 0 ≤ a0.Zone ∧ a0.Zone ≤ 5 ∧ 0 ≤ a0.Who ∧ a0.Who ≤ 2 ∧ 0 ≤ a0.Self ∧ a0.Self ≤ 2 ∧ 0 ≤ a0.Tap ∧ a0.Tap ≤ 2 ∧ 0 ≤ a0.Power.Kind ∧ a0.Power.Kind ≤ 3 ∧ 0 ≤ a0.Tough.Kind ∧ a0.Tough.Kind ≤ 3 ∧ 0 ≤ a0.Value.Kind ∧ a0.Value.Kind ≤ 3 ∧ a0.Sub.length ≤ 32) (p_1 : l7_22.length ≤ 26) (p_2 : ∀ y ∈ l7_22, y.length ≤ 600) (p_3 : r6.length = 3) (p_4 : ∀ y ∈ r6, y.length ≤ 40) : W (r13_Text_J23 a0 r6 l7_22) (fun r => r.length ≤ 31000) := by
  unfold r13_Text_J23
  refine W.if (fun hh_1 => ?_) (fun hh_1 => ?_)
  · try simp only [bz] at hh_1
    have ll_2 : a0.Sub.length ≤ 140737488355328 := (lkSFilter_Sub k_a0)
    have ll_3 : str_x7375623a.length = 4 := rfl
    refine W.bd (W.cat (by first | omega | (simp; omega))) (fun s65 q_s65 => ?_)
    replace q_s65 : s65.length = (str_x7375623a).length + (a0.Sub).length := q_s65.2
    have ll_4 : l7_22.length ≤ 140737488355328 := lkL_len (by decide) k_l7_22
    have ll_5 : ([s65] : List (List UInt8)).length = 1 := rfl
    refine W.bd (W.app (by first | omega | (simp; omega)) (by unfold maxLen; first | omega | (simp; omega))) (fun l66 q_l66 => ?_)
    have ll_6 : l66.length = (l7_22).length + ([s65] : List (List UInt8)).length := by rw [q_l66, List.length_append]
    have aa_7 : ∀ y ∈ l66, y.length ≤ 600 := by rw [q_l66]; exact all_app p_2 (all_one (by omega))
    have ll_8 : r6.length ≤ 140737488355328 := lkL_len (by decide) k_r6
    exact r13_Text_J25_W k_a0 k_r6 (by first | assumption | omega | exact wrapu64_bd _ | (simp; done) | (simp; omega)) (by first | assumption | omega | exact wrapu64_bd _ | (simp; done) | (simp; omega)) (by first | assumption | omega | exact wrapu64_bd _ | (simp; done) | (simp; omega)) (by first | assumption | omega | exact wrapu64_bd _ | (simp; done) | (simp; omega)) (by first | assumption | omega | exact wrapu64_bd _ | (simp; done) | (simp; omega))
  · try simp only [bz] at hh_1
    have ll_10 : a0.Sub.length ≤ 140737488355328 := (lkSFilter_Sub k_a0)
    have ll_11 : l7_22.length ≤ 140737488355328 := lkL_len (by decide) k_l7_22
    have ll_12 : r6.length ≤ 140737488355328 := lkL_len (by decide) k_r6
    exact r13_Text_J25_W k_a0 k_r6 (by first | assumption | omega | exact wrapu64_bd _ | (simp; done) | (simp; omega)) (by first | assumption | omega | exact wrapu64_bd _ | (simp; done) | (simp; omega)) (by first | assumption | omega | exact wrapu64_bd _ | (simp; done) | (simp; omega)) (by first | assumption | omega | exact wrapu64_bd _ | (simp; done) | (simp; omega)) (by first | assumption | omega | exact wrapu64_bd _ | (simp; done) | (simp; omega))
theorem r13_Text_J15_W {a0 : SFilter} {r6 : List (List UInt8)} {l7_14 : List (List UInt8)} (k_a0 : lkSFilter a0) (k_r6 : lkL 16 lkS r6) (p_0 : 0 ≤ a0.Zone ∧ a0.Zone ≤ 5 ∧ 0 ≤ a0.Who ∧ a0.Who ≤ 2 ∧ 0 ≤ a0.Self ∧ a0.Self ≤ 2 ∧ 0 ≤ a0.Tap ∧ a0.Tap ≤ 2 ∧ 0 ≤ a0.Power.Kind ∧ a0.Power.Kind ≤ 3 ∧ 0 ≤ a0.Tough.Kind ∧ a0.Tough.Kind ≤ 3 ∧ 0 ≤ a0.Value.Kind ∧ a0.Value.Kind ≤ 3 ∧ a0.Sub.length ≤ 32) (p_1 : l7_14.length ≤ 3) (p_2 : ∀ y ∈ l7_14, y.length ≤ 600) (p_3 : r6.length = 3) (p_4 : ∀ y ∈ r6, y.length ≤ 40) : W (r13_Text_J15 a0 r6 l7_14) (fun r => r.length ≤ 31000) := by
  unfold r13_Text_J15
  refine W.it (fun (v : Int × (List (List UInt8))) => 0 ≤ v.1 ∧ v.1 ≤ 6 ∧ (v.2.length : Int) ≤ 3 + v.1 ∧ ∀ y ∈ v.2, y.length ≤ 600) (fun v => (6 - v.1).toNat) ?_ ?_ (fun v hv => ?_)
  · (try dsimp only); first | omega | (simp; omega) | (and_intros <;> first | omega | assumption | (simp; omega) | simp)
  · (try dsimp only); first | omega | (simp; omega) | (and_intros <;> first | omega | assumption | (simp; omega) | simp)
  · obtain ⟨vt8_110, l7_111⟩ := v
    replace hv : 0 ≤ vt8_110 ∧ vt8_110 ≤ 6 ∧ (l7_111.length : Int) ≤ 3 + vt8_110 ∧ ∀ y ∈ l7_111, y.length ≤ 600 := hv
    obtain ⟨vv_1, vv_2, vv_3, vv_4⟩ := hv
    show W (r13_Text_B113 a0 vt8_110 l7_111) _
    unfold r13_Text_B113
    refine W.if (fun hh_5 => ?_) (fun hh_5 => ?_)
    · try simp only [bz] at hh_5
      refine W.bd (r13_bit_W (by first | assumption | omega | exact wrapu64_bd _ | (simp; done) | (simp; omega))) (fun r117 q_r117 => ?_)
      refine W.if (fun hh_6 => ?_) (fun hh_6 => ?_)
      · try simp only [bz] at hh_6
        refine W.bd (r13_typeWord_W (by first | assumption | omega | exact wrapu64_bd _ | (simp; done) | (simp; omega))) (fun r119 q_r119 => ?_)
        replace q_r119 : r119.length ≤ 500 := q_r119
        have ll_7 : ([r119] : List (List UInt8)).length = 1 := rfl
        refine W.bd (W.app (by first | omega | (simp; omega)) (by unfold maxLen; first | omega | (simp; omega))) (fun l120 q_l120 => ?_)
        have ll_8 : l120.length = (l7_111).length + ([r119] : List (List UInt8)).length := by rw [q_l120, List.length_append]
        have aa_9 : ∀ y ∈ l120, y.length ≤ 600 := by rw [q_l120]; exact all_app vv_4 (all_one (by omega))
        unfold r13_Text_J116
        have ww_10 : wrap64 (vt8_110 + (1 : Int)) = vt8_110 + (1 : Int) := wrap64_id (by omega) (by omega)
        exact W.nx (by (try dsimp only); first | omega | (and_intros <;> first | omega | assumption) | (simp; omega)) (by (try dsimp only); omega)
      · try simp only [bz] at hh_6
        unfold r13_Text_J116
        have ww_11 : wrap64 (vt8_110 + (1 : Int)) = vt8_110 + (1 : Int) := wrap64_id (by omega) (by omega)
        exact W.nx (by (try dsimp only); first | omega | (and_intros <;> first | omega | assumption) | (simp; omega)) (by (try dsimp only); omega)
    · try simp only [bz] at hh_5
      refine W.ex ?_
      try dsimp only [Sum.elim_inl, Sum.elim_inr]
      unfold r13_Text_J17
      refine W.it (fun (v : Int × (List (List UInt8))) => 0 ≤ v.1 ∧ v.1 ≤ 6 ∧ (v.2.length : Int) ≤ 9 + v.1 ∧ ∀ y ∈ v.2, y.length ≤ 600) (fun v => (6 - v.1).toNat) ?_ ?_ (fun v hv => ?_)
      · (try dsimp only); first | omega | (simp; omega) | (and_intros <;> first | omega | assumption | (simp; omega) | simp)
      · (try dsimp only); first | omega | (simp; omega) | (and_intros <;> first | omega | assumption | (simp; omega) | simp)
      · obtain ⟨vt9_96, l7_97⟩ := v
        replace hv : 0 ≤ vt9_96 ∧ vt9_96 ≤ 6 ∧ (l7_97.length : Int) ≤ 9 + vt9_96 ∧ ∀ y ∈ l7_97, y.length ≤ 600 := hv
        obtain ⟨vv_12, vv_13, vv_14, vv_15⟩ := hv
        show W (r13_Text_B99 a0 vt9_96 l7_97) _
        unfold r13_Text_B99
        refine W.if (fun hh_16 => ?_) (fun hh_16 => ?_)
        · try simp only [bz] at hh_16
          refine W.bd (r13_bit_W (by first | assumption | omega | exact wrapu64_bd _ | (simp; done) | (simp; omega))) (fun r103 q_r103 => ?_)
          refine W.if (fun hh_17 => ?_) (fun hh_17 => ?_)
          · try simp only [bz] at hh_17
            refine W.bd (r13_typeWord_W (by first | assumption | omega | exact wrapu64_bd _ | (simp; done) | (simp; omega))) (fun r105 q_r105 => ?_)
            replace q_r105 : r105.length ≤ 500 := q_r105
            have ll_18 : str_non_.length = 4 := rfl
            refine W.bd (W.cat (by first | omega | (simp; omega))) (fun s106 q_s106 => ?_)
            replace q_s106 : s106.length = (str_non_).length + (r105).length := q_s106.2
            have ll_19 : ([s106] : List (List UInt8)).length = 1 := rfl
            refine W.bd (W.app (by first | omega | (simp; omega)) (by unfold maxLen; first | omega | (simp; omega))) (fun l107 q_l107 => ?_)
            have ll_20 : l107.length = (l7_97).length + ([s106] : List (List UInt8)).length := by rw [q_l107, List.length_append]
            have aa_21 : ∀ y ∈ l107, y.length ≤ 600 := by rw [q_l107]; exact all_app vv_15 (all_one (by omega))
            unfold r13_Text_J102
            have ww_22 : wrap64 (vt9_96 + (1 : Int)) = vt9_96 + (1 : Int) := wrap64_id (by omega) (by omega)
            exact W.nx (by (try dsimp only); first | omega | (and_intros <;> first | omega | assumption) | (simp; omega)) (by (try dsimp only); omega)
          · try simp only [bz] at hh_17
            unfold r13_Text_J102
            have ww_23 : wrap64 (vt9_96 + (1 : Int)) = vt9_96 + (1 : Int) := wrap64_id (by omega) (by omega)
            exact W.nx (by (try dsimp only); first | omega | (and_intros <;> first | omega | assumption) | (simp; omega)) (by (try dsimp only); omega)
        · try simp only [bz] at hh_16
          refine W.ex ?_
          try dsimp only [Sum.elim_inl, Sum.elim_inr]
          unfold r13_Text_J19
          refine W.it (fun (v : Int × (List (List UInt8))) => 0 ≤ v.1 ∧ v.1 ≤ 5 ∧ (v.2.length : Int) ≤ 15 + v.1 ∧ ∀ y ∈ v.2, y.length ≤ 600) (fun v => (5 - v.1).toNat) ?_ ?_ (fun v hv => ?_)
          · (try dsimp only); first | omega | (simp; omega) | (and_intros <;> first | omega | assumption | (simp; omega) | simp)
          · (try dsimp only); first | omega | (simp; omega) | (and_intros <;> first | omega | assumption | (simp; omega) | simp)
          · obtain ⟨vt10_83, l7_84⟩ := v
            replace hv : 0 ≤ vt10_83 ∧ vt10_83 ≤ 5 ∧ (l7_84.length : Int) ≤ 15 + vt10_83 ∧ ∀ y ∈ l7_84, y.length ≤ 600 := hv
            obtain ⟨vv_24, vv_25, vv_26, vv_27⟩ := hv
            show W (r13_Text_B86 a0 vt10_83 l7_84) _
            unfold r13_Text_B86
            refine W.if (fun hh_28 => ?_) (fun hh_28 => ?_)
            · try simp only [bz] at hh_28
              refine W.bd (r13_bit_W (by first | assumption | omega | exact wrapu64_bd _ | (simp; done) | (simp; omega))) (fun r90 q_r90 => ?_)
              refine W.if (fun hh_29 => ?_) (fun hh_29 => ?_)
              · try simp only [bz] at hh_29
                refine W.bd (r09_Name_W) (fun r92 q_r92 => ?_)
                replace q_r92 : r92.length ≤ 10 := q_r92
                have ll_30 : ([r92] : List (List UInt8)).length = 1 := rfl
                refine W.bd (W.app (by first | omega | (simp; omega)) (by unfold maxLen; first | omega | (simp; omega))) (fun l93 q_l93 => ?_)
                have ll_31 : l93.length = (l7_84).length + ([r92] : List (List UInt8)).length := by rw [q_l93, List.length_append]
                have aa_32 : ∀ y ∈ l93, y.length ≤ 600 := by rw [q_l93]; exact all_app vv_27 (all_one (by omega))
                unfold r13_Text_J89
                have ww_33 : wrap64 (vt10_83 + (1 : Int)) = vt10_83 + (1 : Int) := wrap64_id (by omega) (by omega)
                exact W.nx (by (try dsimp only); first | omega | (and_intros <;> first | omega | assumption) | (simp; omega)) (by (try dsimp only); omega)
              · try simp only [bz] at hh_29
                unfold r13_Text_J89
                have ww_34 : wrap64 (vt10_83 + (1 : Int)) = vt10_83 + (1 : Int) := wrap64_id (by omega) (by omega)
                exact W.nx (by (try dsimp only); first | omega | (and_intros <;> first | omega | assumption) | (simp; omega)) (by (try dsimp only); omega)
            · try simp only [bz] at hh_28
              refine W.ex ?_
              try dsimp only [Sum.elim_inl, Sum.elim_inr]
              unfold r13_Text_J21
              refine W.it (fun (v : Int × (List (List UInt8))) => 0 ≤ v.1 ∧ v.1 ≤ 5 ∧ (v.2.length : Int) ≤ 20 + v.1 ∧ ∀ y ∈ v.2, y.length ≤ 600) (fun v => (5 - v.1).toNat) ?_ ?_ (fun v hv => ?_)
              · (try dsimp only); first | omega | (simp; omega) | (and_intros <;> first | omega | assumption | (simp; omega) | simp)
              · (try dsimp only); first | omega | (simp; omega) | (and_intros <;> first | omega | assumption | (simp; omega) | simp)
              · obtain ⟨vt11_69, l7_70⟩ := v
                replace hv : 0 ≤ vt11_69 ∧ vt11_69 ≤ 5 ∧ (l7_70.length : Int) ≤ 20 + vt11_69 ∧ ∀ y ∈ l7_70, y.length ≤ 600 := hv
                obtain ⟨vv_35, vv_36, vv_37, vv_38⟩ := hv
                show W (r13_Text_B72 a0 vt11_69 l7_70) _
                unfold r13_Text_B72
                refine W.if (fun hh_39 => ?_) (fun hh_39 => ?_)
                · try simp only [bz] at hh_39
                  refine W.bd (r13_bit_W (by first | assumption | omega | exact wrapu64_bd _ | (simp; done) | (simp; omega))) (fun r76 q_r76 => ?_)
                  refine W.if (fun hh_40 => ?_) (fun hh_40 => ?_)
                  · try simp only [bz] at hh_40
                    refine W.bd (r09_Name_W) (fun r78 q_r78 => ?_)
                    replace q_r78 : r78.length ≤ 10 := q_r78
                    have ll_41 : str_non_.length = 4 := rfl
                    refine W.bd (W.cat (by first | omega | (simp; omega))) (fun s79 q_s79 => ?_)
                    replace q_s79 : s79.length = (str_non_).length + (r78).length := q_s79.2
                    have ll_42 : ([s79] : List (List UInt8)).length = 1 := rfl
                    refine W.bd (W.app (by first | omega | (simp; omega)) (by unfold maxLen; first | omega | (simp; omega))) (fun l80 q_l80 => ?_)
                    have ll_43 : l80.length = (l7_70).length + ([s79] : List (List UInt8)).length := by rw [q_l80, List.length_append]
                    have aa_44 : ∀ y ∈ l80, y.length ≤ 600 := by rw [q_l80]; exact all_app vv_38 (all_one (by omega))
                    unfold r13_Text_J75
                    have ww_45 : wrap64 (vt11_69 + (1 : Int)) = vt11_69 + (1 : Int) := wrap64_id (by omega) (by omega)
                    exact W.nx (by (try dsimp only); first | omega | (and_intros <;> first | omega | assumption) | (simp; omega)) (by (try dsimp only); omega)
                  · try simp only [bz] at hh_40
                    unfold r13_Text_J75
                    have ww_46 : wrap64 (vt11_69 + (1 : Int)) = vt11_69 + (1 : Int) := wrap64_id (by omega) (by omega)
                    exact W.nx (by (try dsimp only); first | omega | (and_intros <;> first | omega | assumption) | (simp; omega)) (by (try dsimp only); omega)
                · try simp only [bz] at hh_39
                  refine W.ex ?_
                  try dsimp only [Sum.elim_inl, Sum.elim_inr]
                  have ll_47 : a0.Sub.length ≤ 140737488355328 := (lkSFilter_Sub k_a0)
                  have ll_48 : r6.length ≤ 140737488355328 := lkL_len (by decide) k_r6
                  exact r13_Text_J23_W k_a0 k_r6 (lkL_words (by assumption) (by omega) (by omega)) (by first | assumption | omega | exact wrapu64_bd _ | (simp; done) | (simp; omega)) (by first | assumption | omega | exact wrapu64_bd _ | (simp; done) | (simp; omega)) (by first | assumption | omega | exact wrapu64_bd _ | (simp; done) | (simp; omega)) (by first | assumption | omega | exact wrapu64_bd _ | (simp; done) | (simp; omega)) (by first | assumption | omega | exact wrapu64_bd _ | (simp; done) | (simp; omega))
theorem r13_Text_J12_W {a0 : SFilter} {r5 : List (List UInt8)} {r6 : List (List UInt8)} {l7_11 : List (List UInt8)} (k_a0 : lkSFilter a0) (k_r5 : lkL 16 lkS r5) (k_r6 : lkL 16 lkS r6) (k_l7_11 : lkL 16 lkS l7_11) (p_0 : 0 ≤ a0.Zone ∧ a0.Zone ≤ 5 ∧ 0 ≤ a0.Who ∧ a0.Who ≤ 2 ∧ 0 ≤ a0.Self ∧ a0.Self ≤ 2 ∧ 0 ≤ a0.Tap ∧ a0.Tap ≤ 2 ∧ 0 ≤ a0.Power.Kind ∧ a0.Power.Kind ≤ 3 ∧ 0 ≤ a0.Tough.Kind ∧ a0.Tough.Kind ≤ 3 ∧ 0 ≤ a0.Value.Kind ∧ a0.Value.Kind ≤ 3 ∧ a0.Sub.length ≤ 32) (p_1 : l7_11.length ≤ 2) (p_2 : ∀ y ∈ l7_11, y.length ≤ 600) (p_3 : r5.length = 3) (p_4 : ∀ y ∈ r5, y.length ≤ 40) (p_5 : r6.length = 3) (p_6 : ∀ y ∈ r6, y.length ≤ 40) : W (r13_Text_J12 a0 r5 r6 l7_11) (fun r => r.length ≤ 31000) := by
  unfold r13_Text_J12
  have ll_1 : r5.length ≤ 140737488355328 := lkL_len (by decide) k_r5
  refine W.bd (W.idx (by omega)) (fun e13 q_e13 => ?_)
  have ll_2 := p_4 e13 q_e13.1
  refine W.if (fun hh_3 => ?_) (fun hh_3 => ?_)
  · try simp only [bz] at hh_3
    have ll_4 : a0.Sub.length ≤ 140737488355328 := (lkSFilter_Sub k_a0)
    have ll_5 : l7_11.length ≤ 140737488355328 := lkL_len (by decide) k_l7_11
    have ll_6 : r6.length ≤ 140737488355328 := lkL_len (by decide) k_r6
    exact r13_Text_J15_W k_a0 k_r6 (by first | assumption | omega | exact wrapu64_bd _ | (simp; done) | (simp; omega)) (by first | assumption | omega | exact wrapu64_bd _ | (simp; done) | (simp; omega)) (by first | assumption | omega | exact wrapu64_bd _ | (simp; done) | (simp; omega)) (by first | assumption | omega | exact wrapu64_bd _ | (simp; done) | (simp; omega)) (by first | assumption | omega | exact wrapu64_bd _ | (simp; done) | (simp; omega))
  · try simp only [bz] at hh_3
    have ll_8 : l7_11.length ≤ 140737488355328 := lkL_len (by decide) k_l7_11
    have ll_9 : ([e13] : List (List UInt8)).length = 1 := rfl
    refine W.bd (W.app (by first | omega | (simp; omega)) (by unfold maxLen; first | omega | (simp; omega))) (fun l122 q_l122 => ?_)
    have ll_10 : l122.length = (l7_11).length + ([e13] : List (List UInt8)).length := by rw [q_l122, List.length_append]
    have aa_11 : ∀ y ∈ l122, y.length ≤ 600 := by rw [q_l122]; exact all_app p_2 (all_one (by omega))
    have ll_12 : a0.Sub.length ≤ 140737488355328 := (lkSFilter_Sub k_a0)
    have ll_13 : r6.length ≤ 140737488355328 := lkL_len (by decide) k_r6
    exact r13_Text_J15_W k_a0 k_r6 (by first | assumption | omega | exact wrapu64_bd _ | (simp; done) | (simp; omega)) (by first | assumption | omega | exact wrapu64_bd _ | (simp; done) | (simp; omega)) (by first | assumption | omega | exact wrapu64_bd _ | (simp; done) | (simp; omega)) (by first | assumption | omega | exact wrapu64_bd _ | (simp; done) | (simp; omega)) (by first | assumption | omega | exact wrapu64_bd _ | (simp; done) | (simp; omega))
theorem r13_Text_J9_W {a0 : SFilter} {r4 : List (List UInt8)} {r5 : List (List UInt8)} {r6 : List (List UInt8)} {l7_8 : List (List UInt8)} (k_a0 : lkSFilter a0) (k_r4 : lkL 16 lkS r4) (k_r5 : lkL 16 lkS r5) (k_r6 : lkL 16 lkS r6) (k_l7_8 : lkL 16 lkS l7_8) (p_0 : 0 ≤ a0.Zone ∧ a0.Zone ≤ 5 ∧ 0 ≤ a0.Who ∧ a0.Who ≤ 2 ∧ 0 ≤ a0.Self ∧ a0.Self ≤ 2 ∧ 0 ≤ a0.Tap ∧ a0.Tap ≤ 2 ∧ 0 ≤ a0.Power.Kind ∧ a0.Power.Kind ≤ 3 ∧ 0 ≤ a0.Tough.Kind ∧ a0.Tough.Kind ≤ 3 ∧ 0 ≤ a0.Value.Kind ∧ a0.Value.Kind ≤ 3 ∧ a0.Sub.length ≤ 32) (p_1 : l7_8.length ≤ 1) (p_2 : ∀ y ∈ l7_8, y.length ≤ 600) (p_3 : r4.length = 3) (p_4 : ∀ y ∈ r4, y.length ≤ 40) (p_5 : r5.length = 3) (p_6 : ∀ y ∈ r5, y.length ≤ 40) (p_7 : r6.length = 3) (p_8 : ∀ y ∈ r6, y.length ≤ 40) : W (r13_Text_J9 a0 r4 r5 r6 l7_8) (fun r => r.length ≤ 31000) := by
  unfold r13_Text_J9
  have ll_1 : r4.length ≤ 140737488355328 := lkL_len (by decide) k_r4
  refine W.bd (W.idx (by omega)) (fun e10 q_e10 => ?_)
  have ll_2 := p_4 e10 q_e10.1
  refine W.if (fun hh_3 => ?_) (fun hh_3 => ?_)
  · try simp only [bz] at hh_3
    have ll_4 : a0.Sub.length ≤ 140737488355328 := (lkSFilter_Sub k_a0)
    have ll_5 : l7_8.length ≤ 140737488355328 := lkL_len (by decide) k_l7_8
    have ll_6 : r5.length ≤ 140737488355328 := lkL_len (by decide) k_r5
    have ll_7 : r6.length ≤ 140737488355328 := lkL_len (by decide) k_r6
    exact r13_Text_J12_W k_a0 k_r5 k_r6 k_l7_8 (by first | assumption | omega | exact wrapu64_bd _ | (simp; done) | (simp; omega)) (by first | assumption | omega | exact wrapu64_bd _ | (simp; done) | (simp; omega)) (by first | assumption | omega | exact wrapu64_bd _ | (simp; done) | (simp; omega)) (by first | assumption | omega | exact wrapu64_bd _ | (simp; done) | (simp; omega)) (by first | assumption | omega | exact wrapu64_bd _ | (simp; done) | (simp; omega)) (by first | assumption | omega | exact wrapu64_bd _ | (simp; done) | (simp; omega)) (by first | assumption | omega | exact wrapu64_bd _ | (simp; done) | (simp; omega))
  · try simp only [bz] at hh_3
    have ll_9 : l7_8.length ≤ 140737488355328 := lkL_len (by decide) k_l7_8
    have ll_10 : ([e10] : List (List UInt8)).length = 1 := rfl
    refine W.bd (W.app (by first | omega | (simp; omega)) (by unfold maxLen; first | omega | (simp; omega))) (fun l124 q_l124 => ?_)
    have ll_11 : l124.length = (l7_8).length + ([e10] : List (List UInt8)).length := by rw [q_l124, List.length_append]
    have aa_12 : ∀ y ∈ l124, y.length ≤ 600 := by rw [q_l124]; exact all_app p_2 (all_one (by omega))
    have ll_13 : a0.Sub.length ≤ 140737488355328 := (lkSFilter_Sub k_a0)
    have ll_14 : r5.length ≤ 140737488355328 := lkL_len (by decide) k_r5
    have ll_15 : r6.length ≤ 140737488355328 := lkL_len (by decide) k_r6
    exact r13_Text_J12_W k_a0 k_r5 k_r6 (lkL_words (by assumption) (by omega) (by omega)) (by first | assumption | omega | exact wrapu64_bd _ | (simp; done) | (simp; omega)) (by first | assumption | omega | exact wrapu64_bd _ | (simp; done) | (simp; omega)) (by first | assumption | omega | exact wrapu64_bd _ | (simp; done) | (simp; omega)) (by first | assumption | omega | exact wrapu64_bd _ | (simp; done) | (simp; omega)) (by first | assumption | omega | exact wrapu64_bd _ | (simp; done) | (simp; omega)) (by first | assumption | omega | exact wrapu64_bd _ | (simp; done) | (simp; omega)) (by first | assumption | omega | exact wrapu64_bd _ | (simp; done) | (simp; omega))
theorem r13_Text_W {a0 : SFilter} (k_a0 : lkSFilter a0) : W (r13_Text a0) (fun r => r.length ≤ 31000) := by
  unfold r13_Text
  refine W.bd (r13_Is_W k_a0) (fun r1 q_r1 => ?_)
  replace q_r1 : r1 = true → 0 ≤ a0.Zone ∧ a0.Zone ≤ 5 ∧ 0 ≤ a0.Who ∧ a0.Who ≤ 2 ∧ 0 ≤ a0.Self ∧ a0.Self ≤ 2 ∧ 0 ≤ a0.Tap ∧ a0.Tap ≤ 2 ∧ 0 ≤ a0.Power.Kind ∧ a0.Power.Kind ≤ 3 ∧ 0 ≤ a0.Tough.Kind ∧ a0.Tough.Kind ≤ 3 ∧ 0 ≤ a0.Value.Kind ∧ a0.Value.Kind ≤ 3 ∧ a0.Sub.length ≤ 32 := q_r1
  have ll_1 : a0.Sub.length ≤ 140737488355328 := (lkSFilter_Sub k_a0)
  refine W.if (fun hh_2 => ?_) (fun hh_2 => ?_)
  · try simp only [bz] at hh_2
    refine W.rt ?_
    first | assumption | omega | (simp only [bz]; omega) | (simp only [bz]; intros; omega) | (intros; simp only [bz] at *; omega) | exact ⟨by simp, by simp⟩ | decide | simp_all
  · try simp only [bz] at hh_2
    have qq_3 := q_r1 hh_2
    refine W.bd (r13_zoneWords_W) (fun r3 q_r3 => ?_)
    replace q_r3 : r3.length = 6 ∧ ∀ y ∈ r3, y.length ≤ 40 := q_r3
    obtain ⟨q_r3_1, q_r3_2⟩ := q_r3
    refine W.bd (r13_whoWords_W) (fun r4 q_r4 => ?_)
    replace q_r4 : r4.length = 3 ∧ ∀ y ∈ r4, y.length ≤ 40 := q_r4
    obtain ⟨q_r4_1, q_r4_2⟩ := q_r4
    refine W.bd (r13_selfWords_W) (fun r5 q_r5 => ?_)
    replace q_r5 : r5.length = 3 ∧ ∀ y ∈ r5, y.length ≤ 40 := q_r5
    obtain ⟨q_r5_1, q_r5_2⟩ := q_r5
    refine W.bd (r13_tapWords_W) (fun r6 q_r6 => ?_)
    replace q_r6 : r6.length = 3 ∧ ∀ y ∈ r6, y.length ≤ 40 := q_r6
    obtain ⟨q_r6_1, q_r6_2⟩ := q_r6
    refine W.bd (W.idx (by omega)) (fun e7 q_e7 => ?_)
    have ll_4 := q_r3_2 e7 q_e7.1
    refine W.if (fun hh_5 => ?_) (fun hh_5 => ?_)
    · try simp only [bz] at hh_5
      exact r13_Text_J9_W k_a0 (lkL_words (by assumption) (by omega) (by omega)) (lkL_words (by assumption) (by omega) (by omega)) (lkL_words (by assumption) (by omega) (by omega)) lkL_nil (by first | assumption | omega | exact wrapu64_bd _ | (simp; done) | (simp; omega)) (by first | assumption | omega | exact wrapu64_bd _ | (simp; done) | (simp; omega)) (by first | assumption | omega | exact wrapu64_bd _ | (simp; done) | (simp; omega)) (by first | assumption | omega | exact wrapu64_bd _ | (simp; done) | (simp; omega)) (by first | assumption | omega | exact wrapu64_bd _ | (simp; done) | (simp; omega)) (by first | assumption | omega | exact wrapu64_bd _ | (simp; done) | (simp; omega)) (by first | assumption | omega | exact wrapu64_bd _ | (simp; done) | (simp; omega)) (by first | assumption | omega | exact wrapu64_bd _ | (simp; done) | (simp; omega)) (by first | assumption | omega | exact wrapu64_bd _ | (simp; done) | (simp; omega))
    · try simp only [bz] at hh_5
      have ll_7 : ([] : List (List UInt8)).length = 0 := rfl
      have ll_8 : ([e7] : List (List UInt8)).length = 1 := rfl
      refine W.bd (W.app (by first | omega | (simp; omega)) (by unfold maxLen; first | omega | (simp; omega))) (fun l126 q_l126 => ?_)
      have ll_9 : l126.length = ([] : List (List UInt8)).length + ([e7] : List (List UInt8)).length := by rw [q_l126, List.length_append]
      have aa_10 : ∀ y ∈ l126, y.length ≤ 600 := by rw [q_l126]; exact all_app (fun y hy => absurd hy (by simp)) (all_one (by omega))
      exact r13_Text_J9_W k_a0 (lkL_words (by assumption) (by omega) (by omega)) (lkL_words (by assumption) (by omega) (by omega)) (lkL_words (by assumption) (by omega) (by omega)) (lkL_words (by assumption) (by omega) (by omega)) (by first | assumption | omega | exact wrapu64_bd _ | (simp; done) | (simp; omega)) (by first | assumption | omega | exact wrapu64_bd _ | (simp; done) | (simp; omega)) (by first | assumption | omega | exact wrapu64_bd _ | (simp; done) | (simp; omega)) (by first | assumption | omega | exact wrapu64_bd _ | (simp; done) | (simp; omega)) (by first | assumption | omega | exact wrapu64_bd _ | (simp; done) | (simp; omega)) (by first | assumption | omega | exact wrapu64_bd _ | (simp; done) | (simp; omega)) (by first | assumption | omega | exact wrapu64_bd _ | (simp; done) | (simp; omega)) (by first | assumption | omega | exact wrapu64_bd _ | (simp; done) | (simp; omega)) (by first | assumption | omega | exact wrapu64_bd _ | (simp; done) | (simp; omega))
theorem r18_Is_J10_W {a0 : STrigger} {zone_t3_9 : Int} (k_a0 : lkSTrigger a0) : W (r18_Is_J10 a0 zone_t3_9) (fun r => True) := by
  unfold r18_Is_J10
  refine W.bd (r13_Is_W (lkSTrigger_Filter k_a0)) (fun r11 q_r11 => ?_)
  replace q_r11 : r11 = true → 0 ≤ a0.Filter.Zone ∧ a0.Filter.Zone ≤ 5 ∧ 0 ≤ a0.Filter.Who ∧ a0.Filter.Who ≤ 2 ∧ 0 ≤ a0.Filter.Self ∧ a0.Filter.Self ≤ 2 ∧ 0 ≤ a0.Filter.Tap ∧ a0.Filter.Tap ≤ 2 ∧ 0 ≤ a0.Filter.Power.Kind ∧ a0.Filter.Power.Kind ≤ 3 ∧ 0 ≤ a0.Filter.Tough.Kind ∧ a0.Filter.Tough.Kind ≤ 3 ∧ 0 ≤ a0.Filter.Value.Kind ∧ a0.Filter.Value.Kind ≤ 3 ∧ a0.Filter.Sub.length ≤ 32 := q_r11
  have ll_1 : a0.Filter.Sub.length ≤ 140737488355328 := (lkSFilter_Sub (lkSTrigger_Filter k_a0))
  refine W.lt (fun b12 bb_2 => ?_)
  exact W.rt trivial
theorem r18_Is_W {a0 : STrigger} (k_a0 : lkSTrigger a0) : W (r18_Is a0) (fun r => True) := by
  unfold r18_Is
  refine W.bd (r18_word_W) (fun r1 q_r1 => ?_)
  refine W.lt (fun b2 bb_1 => ?_)
  refine W.lt (fun b3 bb_2 => ?_)
  refine W.gb (fun gg_3 => by try simp only [bb_1, bb_2, bz] at gg_3; exact r18_hasWho_W) (fun r4 q_r4 => ?_)
  refine W.lt (fun b5 bb_4 => ?_)
  refine W.if (fun hh_5 => ?_) (fun hh_5 => ?_)
  · try simp only [bb_1, bb_2, bb_4, bz] at hh_5
    exact W.rt trivial
  · try simp only [bb_1, bb_2, bb_4, bz] at hh_5
    refine W.bd (r18_hasFilter_W) (fun r7 q_r7 => ?_)
    refine W.if (fun hh_6 => ?_) (fun hh_6 => ?_)
    · try simp only [bb_1, bb_2, bb_4, bz] at hh_6
      exact W.rt trivial
    · try simp only [bb_1, bb_2, bb_4, bz] at hh_6
      refine W.if (fun hh_7 => ?_) (fun hh_7 => ?_)
      · try simp only [bb_1, bb_2, bb_4, bz] at hh_7
        exact r18_Is_J10_W k_a0
      · try simp only [bb_1, bb_2, bb_4, bz] at hh_7
        exact r18_Is_J10_W k_a0
theorem r19_field_W {a0 : SFilter} (k_a0 : lkSFilter a0) : W (r19_field a0) (fun r => True) := by
  unfold r19_field
  refine W.bd (r13_Is_W k_a0) (fun r1 q_r1 => ?_)
  replace q_r1 : r1 = true → 0 ≤ a0.Zone ∧ a0.Zone ≤ 5 ∧ 0 ≤ a0.Who ∧ a0.Who ≤ 2 ∧ 0 ≤ a0.Self ∧ a0.Self ≤ 2 ∧ 0 ≤ a0.Tap ∧ a0.Tap ≤ 2 ∧ 0 ≤ a0.Power.Kind ∧ a0.Power.Kind ≤ 3 ∧ 0 ≤ a0.Tough.Kind ∧ a0.Tough.Kind ≤ 3 ∧ 0 ≤ a0.Value.Kind ∧ a0.Value.Kind ≤ 3 ∧ a0.Sub.length ≤ 32 := q_r1
  have ll_1 : a0.Sub.length ≤ 140737488355328 := (lkSFilter_Sub k_a0)
  refine W.lt (fun b2 bb_2 => ?_)
  exact W.rt trivial
theorem r20_spec_W {a0 : SSpec} (k_a0 : lkSSpec a0) : W (r20_spec a0) (fun r => True) := by
  unfold r20_spec
  refine W.if (fun hh_1 => ?_) (fun hh_1 => ?_)
  · try simp only [bz] at hh_1
    refine W.lt (fun b2 bb_2 => ?_)
    exact W.rt trivial
  · try simp only [bz] at hh_1
    refine W.bd (r13_Is_W (lkSSpec_Filter k_a0)) (fun r3 q_r3 => ?_)
    replace q_r3 : r3 = true → 0 ≤ a0.Filter.Zone ∧ a0.Filter.Zone ≤ 5 ∧ 0 ≤ a0.Filter.Who ∧ a0.Filter.Who ≤ 2 ∧ 0 ≤ a0.Filter.Self ∧ a0.Filter.Self ≤ 2 ∧ 0 ≤ a0.Filter.Tap ∧ a0.Filter.Tap ≤ 2 ∧ 0 ≤ a0.Filter.Power.Kind ∧ a0.Filter.Power.Kind ≤ 3 ∧ 0 ≤ a0.Filter.Tough.Kind ∧ a0.Filter.Tough.Kind ≤ 3 ∧ 0 ≤ a0.Filter.Value.Kind ∧ a0.Filter.Value.Kind ≤ 3 ∧ a0.Filter.Sub.length ≤ 32 := q_r3
    have ll_3 : a0.Filter.Sub.length ≤ 140737488355328 := (lkSFilter_Sub (lkSSpec_Filter k_a0))
    refine W.lt (fun b4 bb_4 => ?_)
    refine W.lt (fun b5 bb_5 => ?_)
    refine W.lt (fun b6 bb_6 => ?_)
    exact W.rt trivial
theorem r16_Is_J5_W {a0 : SRef} (k_a0 : lkSRef a0) : W (r16_Is_J5 a0) (fun r => True) := by
  unfold r16_Is_J5
  refine W.if (fun hh_1 => ?_) (fun hh_1 => ?_)
  · try simp only [bz] at hh_1
    refine W.bd (r13_Is_W (lkSRef_Filter k_a0)) (fun r7 q_r7 => ?_)
    replace q_r7 : r7 = true → 0 ≤ a0.Filter.Zone ∧ a0.Filter.Zone ≤ 5 ∧ 0 ≤ a0.Filter.Who ∧ a0.Filter.Who ≤ 2 ∧ 0 ≤ a0.Filter.Self ∧ a0.Filter.Self ≤ 2 ∧ 0 ≤ a0.Filter.Tap ∧ a0.Filter.Tap ≤ 2 ∧ 0 ≤ a0.Filter.Power.Kind ∧ a0.Filter.Power.Kind ≤ 3 ∧ 0 ≤ a0.Filter.Tough.Kind ∧ a0.Filter.Tough.Kind ≤ 3 ∧ 0 ≤ a0.Filter.Value.Kind ∧ a0.Filter.Value.Kind ≤ 3 ∧ a0.Filter.Sub.length ≤ 32 := q_r7
    have ll_2 : a0.Filter.Sub.length ≤ 140737488355328 := (lkSFilter_Sub (lkSRef_Filter k_a0))
    exact W.rt trivial
  · try simp only [bz] at hh_1
    exact W.rt trivial
theorem r16_Is_J2_W {a0 : SRef} {specs_t1_1 : Int} (k_a0 : lkSRef a0) : W (r16_Is_J2 a0 specs_t1_1) (fun r => True) := by
  unfold r16_Is_J2
  refine W.lt (fun b3 bb_1 => ?_)
  refine W.if (fun hh_2 => ?_) (fun hh_2 => ?_)
  · try simp only [bb_1, bz] at hh_2
    exact W.rt trivial
  · try simp only [bb_1, bz] at hh_2
    refine W.bd (r16_numbered_W) (fun r8 q_r8 => ?_)
    refine W.if (fun hh_3 => ?_) (fun hh_3 => ?_)
    · try simp only [bb_1, bz] at hh_3
      refine W.lt (fun b10 bb_4 => ?_)
      refine W.if (fun hh_5 => ?_) (fun hh_5 => ?_)
      · try simp only [bb_1, bb_4, bz] at hh_5
        exact W.rt trivial
      · try simp only [bb_1, bb_4, bz] at hh_5
        exact r16_Is_J5_W k_a0
    · try simp only [bb_1, bz] at hh_3
      refine W.if (fun hh_7 => ?_) (fun hh_7 => ?_)
      · try simp only [bb_1, bz] at hh_7
        exact W.rt trivial
      · try simp only [bb_1, bz] at hh_7
        exact r16_Is_J5_W k_a0
theorem r16_Is_W {a0 : SRef} {a1 : Int} (k_a0 : lkSRef a0) : W (r16_Is a0 a1) (fun r => True) := by
  unfold r16_Is
  refine W.if (fun hh_1 => ?_) (fun hh_1 => ?_)
  · try simp only [bz] at hh_1
    exact r16_Is_J2_W k_a0
  · try simp only [bz] at hh_1
    exact r16_Is_J2_W k_a0
theorem r17_filter_J2_W {a1 : SFilter} {zone_t5_1 : Int} (k_a1 : lkSFilter a1) : W (r17_filter_J2 a1 zone_t5_1) (fun r => True) := by
  unfold r17_filter_J2
  refine W.bd (r13_Is_W k_a1) (fun r3 q_r3 => ?_)
  replace q_r3 : r3 = true → 0 ≤ a1.Zone ∧ a1.Zone ≤ 5 ∧ 0 ≤ a1.Who ∧ a1.Who ≤ 2 ∧ 0 ≤ a1.Self ∧ a1.Self ≤ 2 ∧ 0 ≤ a1.Tap ∧ a1.Tap ≤ 2 ∧ 0 ≤ a1.Power.Kind ∧ a1.Power.Kind ≤ 3 ∧ 0 ≤ a1.Tough.Kind ∧ a1.Tough.Kind ≤ 3 ∧ 0 ≤ a1.Value.Kind ∧ a1.Value.Kind ≤ 3 ∧ a1.Sub.length ≤ 32 := q_r3
  have ll_1 : a1.Sub.length ≤ 140737488355328 := (lkSFilter_Sub k_a1)
  refine W.lt (fun b4 bb_2 => ?_)
  exact W.rt trivial
theorem r17_filter_W {a0 : Int} {a1 : SFilter} (k_a1 : lkSFilter a1) : W (r17_filter a0 a1) (fun r => True) := by
  unfold r17_filter
  refine W.if (fun hh_1 => ?_) (fun hh_1 => ?_)
  · try simp only [bz] at hh_1
    exact r17_filter_J2_W k_a1
  · try simp only [bz] at hh_1
    exact r17_filter_J2_W k_a1
theorem r14_Is_J2_W {a0 : SAmount} {b3_1 : SAmount} : W (r14_Is_J2 a0 b3_1) (fun r => True) := by
  unfold r14_Is_J2
  refine W.lt (fun b3 bb_1 => ?_)
  refine W.lt (fun b4 bb_2 => ?_)
  exact W.rt trivial
theorem r14_Is_W {a0 : SAmount} (k_a0 : lkSAmount a0) : W (r14_Is a0) (fun r => True) := by
  unfold r14_Is
  refine W.if (fun hh_1 => ?_) (fun hh_1 => ?_)
  · try simp only [bz] at hh_1
    refine W.lt (fun b6 bb_2 => ?_)
    refine W.if (fun hh_3 => ?_) (fun hh_3 => ?_)
    · try simp only [bb_2, bz] at hh_3
      exact W.rt trivial
    · try simp only [bb_2, bz] at hh_3
      exact r14_Is_J2_W
  · try simp only [bz] at hh_1
    refine W.if (fun hh_5 => ?_) (fun hh_5 => ?_)
    · try simp only [bz] at hh_5
      refine W.lt (fun b9 bb_6 => ?_)
      refine W.gb (fun gg_7 => by try simp only [bb_6, bz] at gg_7; exact r13_Is_W (lkSAmount_Filter k_a0)) (fun r10 q_r10 => ?_)
      refine W.lt (fun b11 bb_8 => ?_)
      refine W.if (fun hh_9 => ?_) (fun hh_9 => ?_)
      · try simp only [bb_6, bb_8, bz] at hh_9
        exact W.rt trivial
      · try simp only [bb_6, bb_8, bz] at hh_9
        exact r14_Is_J2_W
    · try simp only [bz] at hh_5
      refine W.if (fun hh_11 => ?_) (fun hh_11 => ?_)
      · try simp only [bz] at hh_11
        refine W.bd (r12_Name_W) (fun r14 q_r14 => ?_)
        refine W.if (fun hh_12 => ?_) (fun hh_12 => ?_)
        · try simp only [bz] at hh_12
          exact W.rt trivial
        · try simp only [bz] at hh_12
          exact r14_Is_J2_W
      · try simp only [bz] at hh_11
        exact r14_Is_J2_W
theorem r26_players_W {a0 : SState} (k_a0 : lkSState a0) : W (r26_players a0) (fun r => True) := by
  unfold r26_players
  refine W.bd (r26_in_W) (fun r1 q_r1 => ?_)
  refine W.if (fun hh_1 => ?_) (fun hh_1 => ?_)
  · try simp only [bz] at hh_1
    exact W.rt trivial
  · try simp only [bz] at hh_1
    have ll_2 : a0.Players.length ≤ 140737488355328 := lkL_len (by decide) (lkSState_Players k_a0)
    refine W.it (fun (v : Int) => 0 ≤ v ∧ (v ≤ (a0.Players.length : Int) ∨ v ≤ 0)) (fun v => ((a0.Players.length : Int) - v).toNat) ?_ ?_ (fun v hv => ?_)
    · (try dsimp only); first | omega | (simp; omega) | (and_intros <;> first | omega | assumption | (simp; omega) | simp)
    · (try dsimp only); first | omega | (simp; omega) | (and_intros <;> first | omega | assumption | (simp; omega) | simp)
    · obtain ⟨vt3_8, hv0⟩ : ∃ x, x = v := ⟨v, rfl⟩
      subst hv0
      replace hv : 0 ≤ vt3_8 ∧ (vt3_8 ≤ (a0.Players.length : Int) ∨ vt3_8 ≤ 0) := hv
      show W (r26_players_B9 a0 vt3_8) _
      unfold r26_players_B9
      refine W.if (fun hh_3 => ?_) (fun hh_3 => ?_)
      · try simp only [bz] at hh_3
        refine W.bd (W.idx (by omega)) (fun e11 q_e11 => ?_)
        refine W.bd (r26_in_W) (fun r12 q_r12 => ?_)
        refine W.gb (fun gg_4 => by try simp only [bz] at gg_4; exact r26_in_W) (fun r13 q_r13 => ?_)
        refine W.lt (fun b14 bb_5 => ?_)
        refine W.gb (fun gg_6 => by try simp only [bb_5, bz] at gg_6; exact r26_in_W) (fun r15 q_r15 => ?_)
        refine W.lt (fun b16 bb_7 => ?_)
        refine W.gb (fun gg_8 => by try simp only [bb_5, bb_7, bz] at gg_8; exact r08_Whole_W) (fun r17 q_r17 => ?_)
        refine W.lt (fun b18 bb_9 => ?_)
        refine W.if (fun hh_10 => ?_) (fun hh_10 => ?_)
        · try simp only [bb_5, bb_7, bb_9, bz] at hh_10
          refine W.ex ?_
          try dsimp only [Sum.elim_inl, Sum.elim_inr]
          exact W.rt trivial
        · try simp only [bb_5, bb_7, bb_9, bz] at hh_10
          refine W.bd (r26_list_W k_a0 (lkSPlayer_Library (show lkSPlayer e11 from lkL_mem (lkSState_Players k_a0) q_e11.1))) (fun r20 q_r20 => ?_)
          refine W.gb (fun gg_11 => by try simp only [bb_5, bb_7, bb_9, bz] at gg_11; exact r26_list_W k_a0 (lkSPlayer_Hand (show lkSPlayer e11 from lkL_mem (lkSState_Players k_a0) q_e11.1))) (fun r21 q_r21 => ?_)
          refine W.lt (fun b22 bb_12 => ?_)
          refine W.gb (fun gg_13 => by try simp only [bb_5, bb_7, bb_9, bb_12, bz] at gg_13; exact r26_list_W k_a0 (lkSPlayer_Graveyard (show lkSPlayer e11 from lkL_mem (lkSState_Players k_a0) q_e11.1))) (fun r23 q_r23 => ?_)
          refine W.lt (fun b24 bb_14 => ?_)
          refine W.if (fun hh_15 => ?_) (fun hh_15 => ?_)
          · try simp only [bb_5, bb_7, bb_9, bb_12, bb_14, bz] at hh_15
            refine W.ex ?_
            try dsimp only [Sum.elim_inl, Sum.elim_inr]
            exact W.rt trivial
          · try simp only [bb_5, bb_7, bb_9, bb_12, bb_14, bz] at hh_15
            have ww_16 : wrap64 (vt3_8 + (1 : Int)) = vt3_8 + (1 : Int) := wrap64_id (by omega) (by omega)
            exact W.nx (by (try dsimp only); first | omega | (and_intros <;> first | omega | assumption) | (simp; omega)) (by (try dsimp only); omega)
      · try simp only [bz] at hh_3
        refine W.ex ?_
        try dsimp only [Sum.elim_inl, Sum.elim_inr]
        unfold r26_players_J3
        refine W.bd (r26_list_W k_a0 (lkSState_Battlefield k_a0)) (fun r4 q_r4 => ?_)
        refine W.gb (fun gg_17 => by try simp only [bz] at gg_17; exact r26_list_W k_a0 (lkSState_Exile k_a0)) (fun r5 q_r5 => ?_)
        refine W.lt (fun b6 bb_18 => ?_)
        exact W.rt trivial
theorem event_Is_J21_W {a0 : List (SCard)} {a1 : SState} {a2 : SEvent} {r1 : SObject × Bool} {vt68_20 : Bool} (k_a0 : lkL 176 lkSCard a0) (k_a1 : lkSState a1) : W (event_Is_J21 a0 a1 a2 r1 vt68_20) (fun r => True) := by
  unfold event_Is_J21
  refine W.if (fun hh_1 => ?_) (fun hh_1 => ?_)
  · try simp only [bz] at hh_1
    refine W.bd (event_counts_W k_a1) (fun r23 q_r23 => ?_)
    exact W.rt trivial
  · try simp only [bz] at hh_1
    refine W.if (fun hh_2 => ?_) (fun hh_2 => ?_)
    · try simp only [bz] at hh_2
      refine W.bd (event_creates_W k_a0 k_a1) (fun r25 q_r25 => ?_)
      exact W.rt trivial
    · try simp only [bz] at hh_2
      refine W.if (fun hh_3 => ?_) (fun hh_3 => ?_)
      · try simp only [bz] at hh_3
        refine W.bd (zone_Find_W k_a1) (fun r27 q_r27 => ?_)
        refine W.lt (fun b28 bb_4 => ?_)
        refine W.gb (fun gg_5 => by try simp only [bb_4, bz] at gg_5; exact event_living_W k_a1) (fun r29 q_r29 => ?_)
        refine W.lt (fun b30 bb_6 => ?_)
        exact W.rt trivial
      · try simp only [bz] at hh_3
        refine W.if (fun hh_7 => ?_) (fun hh_7 => ?_)
        · try simp only [bz] at hh_7
          refine W.gb (fun gg_8 => by try simp only [bz] at gg_8; exact event_living_W k_a1) (fun r32 q_r32 => ?_)
          refine W.lt (fun b33 bb_9 => ?_)
          exact W.rt trivial
        · try simp only [bz] at hh_7
          refine W.if (fun hh_10 => ?_) (fun hh_10 => ?_)
          · try simp only [bz] at hh_10
            refine W.bd (event_fielded_W k_a1) (fun r35 q_r35 => ?_)
            refine W.lt (fun b36 bb_11 => ?_)
            exact W.rt trivial
          · try simp only [bz] at hh_10
            exact W.rt trivial
end Go.PL
