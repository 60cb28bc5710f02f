/- Functions that answer: proofs. -/
import Derived.Test.YtedobbmpljbccaaGreatDoorPlDkB
import Derived.Test.YtedobbmpljbccaaGreatDoorPlDkF3
import Derived.Test.YtedobbmpljbccaaGreatDoorPlDkF4
import Derived.Test.YtedobbmpljbccaaGreatDoorPlDkF5
import Derived.Test.YtedobbmpljbccaaGreatDoorPlDtL
import Derived.Test.YtedobbmpljbccaaGreatDoorPlDtW0
namespace Go.PL
open Go
set_option maxRecDepth 100000
set_option linter.all false
set_option maxHeartbeats 2000000
theorem r11_Text_W {a0 : Int} : W (r11_Text a0) (fun r => r.length ≤ 1000) := by
  unfold r11_Text
  refine W.bd (r11_Is_W) (fun r1 q_r1 => ?_)
  refine W.if (fun hh_1 => ?_) (fun hh_1 => ?_)
  · try simp only [bz] at hh_1
    refine W.rt ?_
    first | assumption | omega | (simp only [bz]; omega) | (simp only [bz]; intros; omega) | (intros; simp only [bz] at *; omega) | exact ⟨by simp, by simp⟩ | decide | simp_all
  · try simp only [bz] at hh_1
    refine W.it (fun (v : Int × (List UInt8) × Int) => 0 ≤ v.2.2 ∧ v.2.2 ≤ 17 ∧ (v.2.1.length : Int) ≤ 50 * v.2.2) (fun v => (17 - v.2.2).toNat) ?_ ?_ (fun v hv => ?_)
    · (try dsimp only); first | omega | (simp; omega) | (and_intros <;> first | omega | assumption | (simp; omega) | simp)
    · (try dsimp only); first | omega | (simp; omega) | (and_intros <;> first | omega | assumption | (simp; omega) | simp)
    · obtain ⟨mask_t0_9, s_t3_10, i_t4_11⟩ := v
      replace hv : 0 ≤ i_t4_11 ∧ i_t4_11 ≤ 17 ∧ (s_t3_10.length : Int) ≤ 50 * i_t4_11 := hv
      show W (r11_Text_B13 mask_t0_9 s_t3_10 i_t4_11) _
      unfold r11_Text_B13
      refine W.if (fun hh_2 => ?_) (fun hh_2 => ?_)
      · try simp only [bz] at hh_2
        refine W.if (fun hh_3 => ?_) (fun hh_3 => ?_)
        · try simp only [bz] at hh_3
          refine W.if (fun hh_4 => ?_) (fun hh_4 => ?_)
          · try simp only [bz] at hh_4
            have ll_5 : str_x2b.length = 1 := rfl
            refine W.bd (W.cat (by first | omega | (simp; omega))) (fun s23 q_s23 => ?_)
            replace q_s23 : s23.length = (s_t3_10).length + (str_x2b).length := q_s23.2
            unfold r11_Text_J19
            refine W.bd (r11_Name_W) (fun r20 q_r20 => ?_)
            replace q_r20 : r20.length ≤ 40 := q_r20
            refine W.bd (W.cat (by first | omega | (simp; omega))) (fun s21 q_s21 => ?_)
            replace q_s21 : s21.length = (s23).length + (r20).length := q_s21.2
            unfold r11_Text_J16
            have ww_6 : wrap64 (i_t4_11 + (1 : Int)) = i_t4_11 + (1 : Int) := wrap64_id (by omega) (by omega)
            exact W.nx (by (try dsimp only); first | omega | (and_intros <;> first | omega | assumption) | (simp; omega)) (by (try dsimp only); omega)
          · try simp only [bz] at hh_4
            unfold r11_Text_J19
            refine W.bd (r11_Name_W) (fun r20 q_r20 => ?_)
            replace q_r20 : r20.length ≤ 40 := q_r20
            refine W.bd (W.cat (by first | omega | (simp; omega))) (fun s21 q_s21 => ?_)
            replace q_s21 : s21.length = (s_t3_10).length + (r20).length := q_s21.2
            unfold r11_Text_J16
            have ww_7 : wrap64 (i_t4_11 + (1 : Int)) = i_t4_11 + (1 : Int) := wrap64_id (by omega) (by omega)
            exact W.nx (by (try dsimp only); first | omega | (and_intros <;> first | omega | assumption) | (simp; omega)) (by (try dsimp only); omega)
        · try simp only [bz] at hh_3
          unfold r11_Text_J16
          have ww_8 : wrap64 (i_t4_11 + (1 : Int)) = i_t4_11 + (1 : Int) := wrap64_id (by omega) (by omega)
          exact W.nx (by (try dsimp only); first | omega | (and_intros <;> first | omega | assumption) | (simp; omega)) (by (try dsimp only); omega)
      · try simp only [bz] at hh_2
        refine W.ex ?_
        try dsimp only [Sum.elim_inl, Sum.elim_inr]
        unfold r11_Text_J4
        refine W.if (fun hh_9 => ?_) (fun hh_9 => ?_)
        · try simp only [bz] at hh_9
          refine W.rt ?_
          have ll_10 : str_none.length = 4 := rfl
          first | assumption | omega | (simp only [bz]; omega) | (simp only [bz]; intros; omega) | (intros; simp only [bz] at *; omega) | exact ⟨by simp, by simp⟩ | decide | simp_all
        · try simp only [bz] at hh_9
          refine W.rt ?_
          first | assumption | omega | (simp only [bz]; omega) | (simp only [bz]; intros; omega) | (intros; simp only [bz] at *; omega) | exact ⟨by simp, by simp⟩ | decide | simp_all
theorem r13_boundWord_W {a0 : List UInt8} {a1 : SBound} (k_a0 : lkS a0) (p_0 : a0.length ≤ 10) (p_1 : 0 ≤ a1.Kind ∧ a1.Kind ≤ 3) : W (r13_boundWord a0 a1) (fun r => r.length ≤ 100) := by
  unfold r13_boundWord
  refine W.if (fun hh_1 => ?_) (fun hh_1 => ?_)
  · try simp only [bz] at hh_1
    refine W.rt ?_
    first | assumption | omega | (simp only [bz]; omega) | (simp only [bz]; intros; omega) | (intros; simp only [bz] at *; omega) | exact ⟨by simp, by simp⟩ | decide | simp_all
  · try simp only [bz] at hh_1
    refine W.bd (r13_signs_W) (fun r2 q_r2 => ?_)
    replace q_r2 : r2.length = 4 ∧ ∀ y ∈ r2, y.length ≤ 40 := q_r2
    obtain ⟨q_r2_1, q_r2_2⟩ := q_r2
    refine W.bd (W.idx (by omega)) (fun e3 q_e3 => ?_)
    have ll_2 := q_r2_2 e3 q_e3.1
    have ll_3 : a0.length ≤ 140737488355328 := k_a0
    refine W.bd (W.cat (by first | omega | (simp; omega))) (fun s4 q_s4 => ?_)
    replace q_s4 : s4.length = (a0).length + (e3).length := q_s4.2
    refine W.bd (r01_Text_W) (fun r5 q_r5 => ?_)
    replace q_r5 : r5.length ≤ 21 := q_r5
    refine W.bd (W.cat (by first | omega | (simp; omega))) (fun s6 q_s6 => ?_)
    replace q_s6 : s6.length = (s4).length + (r5).length := q_s6.2
    refine W.rt ?_
    first | assumption | omega | (simp only [bz]; omega) | (simp only [bz]; intros; omega) | (intros; simp only [bz] at *; omega) | exact ⟨by simp, by simp⟩ | decide | simp_all
theorem r08_Text_J6_W {a0 : SCost} {s_t3_5 : List UInt8} (p_0 : ∀ i : Int, 0 ≤ i → i < 5 → a0.Color.l.getD i.toNat default ≤ 9) (p_1 : s_t3_5.length ≤ 40) : W (r08_Text_J6 a0 s_t3_5) (fun r => True) := by
  unfold r08_Text_J6
  refine W.it (fun (v : (List UInt8) × Int) => 0 ≤ v.2 ∧ v.2 ≤ 5 ∧ (v.1.length : Int) ≤ 40 + 9 * v.2) (fun v => (5 - v.2).toNat) ?_ ?_ (fun v hv => ?_)
  · (try dsimp only); first | omega | (simp; omega) | (and_intros <;> first | omega | assumption | (simp; omega) | simp)
  · (try dsimp only); first | omega | (simp; omega) | (and_intros <;> first | omega | assumption | (simp; omega) | simp)
  · obtain ⟨s_t3_12, i_t5_13⟩ := v
    replace hv : 0 ≤ i_t5_13 ∧ i_t5_13 ≤ 5 ∧ (s_t3_12.length : Int) ≤ 40 + 9 * i_t5_13 := hv
    show W (r08_Text_B15 a0 s_t3_12 i_t5_13) _
    unfold r08_Text_B15
    refine W.if (fun hh_1 => ?_) (fun hh_1 => ?_)
    · try simp only [bz] at hh_1
      refine W.it (fun (v : (List UInt8) × Int) => 0 ≤ v.2 ∧ v.2 ≤ 9 ∧ (v.1.length : Int) ≤ 40 + 9 * i_t5_13 + v.2) (fun v => (9 - v.2).toNat) ?_ ?_ (fun v hv => ?_)
      · (try dsimp only); first | omega | (simp; omega) | (and_intros <;> first | omega | assumption | (simp; omega) | simp)
      · (try dsimp only); first | omega | (simp; omega) | (and_intros <;> first | omega | assumption | (simp; omega) | simp)
      · obtain ⟨s_t3_21, k_t6_22⟩ := v
        replace hv : 0 ≤ k_t6_22 ∧ k_t6_22 ≤ 9 ∧ (s_t3_21.length : Int) ≤ 40 + 9 * i_t5_13 + k_t6_22 := hv
        show W (r08_Text_B24 a0 i_t5_13 s_t3_21 k_t6_22) _
        unfold r08_Text_B24
        have ll_2 : a0.Color.l.length = 5 := rfl
        refine W.bd (W.idx (by omega)) (fun e25 q_e25 => ?_)
        have ee := p_0 i_t5_13 (by omega) (by omega); rw [← q_e25.2.1] at ee
        refine W.if (fun hh_3 => ?_) (fun hh_3 => ?_)
        · try simp only [bz] at hh_3
          have ll_4 : str_ACJRE.length = 5 := rfl
          have ww_5 : wrap64 (i_t5_13 + (1 : Int)) = i_t5_13 + (1 : Int) := wrap64_id (by omega) (by omega)
          refine W.bd (W.ssub (by omega)) (fun s27 q_s27 => ?_)
          replace q_s27 : (s27.length : Int) = (wrap64 (i_t5_13 + (1 : Int))) - i_t5_13 := q_s27
          refine W.bd (W.cat (by first | omega | (simp; omega))) (fun s28 q_s28 => ?_)
          replace q_s28 : s28.length = (s_t3_21).length + (s27).length := q_s28.2
          have ww_6 : wrap64 (k_t6_22 + (1 : Int)) = k_t6_22 + (1 : Int) := wrap64_id (by omega) (by omega)
          exact W.nx (by (try dsimp only); first | omega | (and_intros <;> first | omega | assumption) | (simp; omega)) (by (try dsimp only); omega)
        · try simp only [bz] at hh_3
          refine W.ex ?_
          try dsimp only [Sum.elim_inl, Sum.elim_inr]
          unfold r08_Text_J18
          have ww_7 : wrap64 (i_t5_13 + (1 : Int)) = i_t5_13 + (1 : Int) := wrap64_id (by omega) (by omega)
          exact W.nx (by (try dsimp only); first | omega | (and_intros <;> first | omega | assumption) | (simp; omega)) (by (try dsimp only); omega)
    · try simp only [bz] at hh_1
      refine W.ex ?_
      try dsimp only [Sum.elim_inl, Sum.elim_inr]
      unfold r08_Text_J8
      refine W.if (fun hh_8 => ?_) (fun hh_8 => ?_)
      · try simp only [bz] at hh_8
        exact W.rt trivial
      · try simp only [bz] at hh_8
        exact W.rt trivial
theorem r08_Text_J4_W {a0 : SCost} {s_t3_3 : List UInt8} (k_s_t3_3 : lkS s_t3_3) (p_0 : ∀ i : Int, 0 ≤ i → i < 5 → a0.Color.l.getD i.toNat default ≤ 9) (p_1 : s_t3_3.length ≤ 2) : W (r08_Text_J4 a0 s_t3_3) (fun r => True) := by
  unfold r08_Text_J4
  refine W.if (fun hh_1 => ?_) (fun hh_1 => ?_)
  · try simp only [bz] at hh_1
    refine W.bd (r01_Text_W) (fun r30 q_r30 => ?_)
    replace q_r30 : r30.length ≤ 21 := q_r30
    have ll_2 : s_t3_3.length ≤ 140737488355328 := k_s_t3_3
    refine W.bd (W.cat (by first | omega | (simp; omega))) (fun s31 q_s31 => ?_)
    replace q_s31 : s31.length = (s_t3_3).length + (r30).length := q_s31.2
    have ll_3 : a0.Color.l.length = 5 := rfl
    exact r08_Text_J6_W (by first | assumption | omega | exact wrapu64_bd _ | (simp; done) | (simp; omega)) (by first | assumption | omega | exact wrapu64_bd _ | (simp; done) | (simp; omega))
  · try simp only [bz] at hh_1
    have ll_5 : a0.Color.l.length = 5 := rfl
    have ll_6 : s_t3_3.length ≤ 140737488355328 := k_s_t3_3
    exact r08_Text_J6_W (by first | assumption | omega | exact wrapu64_bd _ | (simp; done) | (simp; omega)) (by first | assumption | omega | exact wrapu64_bd _ | (simp; done) | (simp; omega))
theorem r08_Text_W {a0 : SCost} : W (r08_Text a0) (fun r => True) := by
  unfold r08_Text
  refine W.bd (r08_Is_W) (fun r1 q_r1 => ?_)
  replace q_r1 : r1 = true → a0.X ≤ 2 ∧ ∀ i : Int, 0 ≤ i → i < 5 → a0.Color.l.getD i.toNat default ≤ 9 := q_r1
  have ll_1 : a0.Color.l.length = 5 := rfl
  refine W.if (fun hh_2 => ?_) (fun hh_2 => ?_)
  · try simp only [bz] at hh_2
    exact W.rt trivial
  · try simp only [bz] at hh_2
    have qq_3 := q_r1 hh_2
    have qq_4 := qq_3.2
    refine W.it (fun (v : (List UInt8) × Int) => 0 ≤ v.2 ∧ v.2 ≤ 2 ∧ (v.1.length : Int) ≤ v.2) (fun v => (2 - v.2).toNat) ?_ ?_ (fun v hv => ?_)
    · (try dsimp only); first | omega | (simp; omega) | (and_intros <;> first | omega | assumption | (simp; omega) | simp)
    · (try dsimp only); first | omega | (simp; omega) | (and_intros <;> first | omega | assumption | (simp; omega) | simp)
    · obtain ⟨s_t3_34, i_t4_35⟩ := v
      replace hv : 0 ≤ i_t4_35 ∧ i_t4_35 ≤ 2 ∧ (s_t3_34.length : Int) ≤ i_t4_35 := hv
      show W (r08_Text_B37 a0 s_t3_34 i_t4_35) _
      unfold r08_Text_B37
      refine W.if (fun hh_5 => ?_) (fun hh_5 => ?_)
      · try simp only [bz] at hh_5
        have ll_6 : str_X.length = 1 := rfl
        refine W.bd (W.cat (by first | omega | (simp; omega))) (fun s39 q_s39 => ?_)
        replace q_s39 : s39.length = (s_t3_34).length + (str_X).length := q_s39.2
        have ww_7 : wrap64 (i_t4_35 + (1 : Int)) = i_t4_35 + (1 : Int) := wrap64_id (by omega) (by omega)
        exact W.nx (by (try dsimp only); first | omega | (and_intros <;> first | omega | assumption) | (simp; omega)) (by (try dsimp only); omega)
      · try simp only [bz] at hh_5
        refine W.ex ?_
        try dsimp only [Sum.elim_inl, Sum.elim_inr]
        exact r08_Text_J4_W (by unfold lkS; omega) (by first | assumption | omega | exact wrapu64_bd _ | (simp; done) | (simp; omega)) (by first | assumption | omega | exact wrapu64_bd _ | (simp; done) | (simp; omega))
theorem r10_Is_W {a0 : SLine} (k_a0 : lkSLine a0) : W (r10_Is a0) (fun r => True) := by
  unfold r10_Is
  refine W.lt (fun b1 bb_1 => ?_)
  refine W.lt (fun b2 bb_2 => ?_)
  refine W.lt (fun b3 bb_3 => ?_)
  refine W.lt (fun b4 bb_4 => ?_)
  refine W.if (fun hh_5 => ?_) (fun hh_5 => ?_)
  · try simp only [bb_1, bb_2, bb_3, bb_4, bz] at hh_5
    exact W.rt trivial
  · try simp only [bb_1, bb_2, bb_3, bb_4, bz] at hh_5
    have ll_6 : a0.Subs.length ≤ 140737488355328 := lkL_len (by decide) (lkSLine_Subs k_a0)
    refine W.it (fun (v : Int) => 0 ≤ v ∧ (v ≤ (a0.Subs.length : Int) ∨ v ≤ 0)) (fun v => ((a0.Subs.length : Int) - v).toNat) ?_ ?_ (fun v hv => ?_)
    · (try dsimp only); first | omega | (simp; omega) | (and_intros <;> first | omega | assumption | (simp; omega) | simp)
    · (try dsimp only); first | omega | (simp; omega) | (and_intros <;> first | omega | assumption | (simp; omega) | simp)
    · obtain ⟨i_t3_13, hv0⟩ : ∃ x, x = v := ⟨v, rfl⟩
      subst hv0
      replace hv : 0 ≤ i_t3_13 ∧ (i_t3_13 ≤ (a0.Subs.length : Int) ∨ i_t3_13 ≤ 0) := hv
      show W (r10_Is_B14 a0 i_t3_13) _
      unfold r10_Is_B14
      refine W.if (fun hh_7 => ?_) (fun hh_7 => ?_)
      · try simp only [bb_1, bb_2, bb_3, bb_4, bz] at hh_7
        refine W.bd (W.idx (by omega)) (fun e16 q_e16 => ?_)
        refine W.bd (r10_IsSub_W (show lkS e16 from lkL_mem (lkSLine_Subs k_a0) q_e16.1)) (fun r17 q_r17 => ?_)
        replace q_r17 : r17 = true → e16.length ≤ 32 := q_r17
        have ll_8 : e16.length ≤ 140737488355328 := (show lkS e16 from lkL_mem (lkSLine_Subs k_a0) q_e16.1)
        refine W.gb (fun gg_9 => by try simp only [bb_1, bb_2, bb_3, bb_4, bz] at gg_9; exact W.idx (by have ww_10 : wrap64 (i_t3_13 - (1 : Int)) = i_t3_13 - (1 : Int) := wrap64_id (by omega) (by omega); omega)) (fun e18 q_e18 => ?_)
        refine W.gb (fun gg_11 => by try simp only [bb_1, bb_2, bb_3, bb_4, bz] at gg_11; exact W.idx (by omega)) (fun e19 q_e19 => ?_)
        refine W.lt (fun b20 bb_12 => ?_)
        refine W.lt (fun b21 bb_13 => ?_)
        refine W.if (fun hh_14 => ?_) (fun hh_14 => ?_)
        · try simp only [bb_1, bb_2, bb_3, bb_4, bb_12, bb_13, bz] at hh_14
          refine W.ex ?_
          try dsimp only [Sum.elim_inl, Sum.elim_inr]
          exact W.rt trivial
        · try simp only [bb_1, bb_2, bb_3, bb_4, bb_12, bb_13, bz] at hh_14
          have ww_15 : wrap64 (i_t3_13 + (1 : Int)) = i_t3_13 + (1 : Int) := wrap64_id (by omega) (by omega)
          exact W.nx (by (try dsimp only); first | omega | (and_intros <;> first | omega | assumption) | (simp; omega)) (by (try dsimp only); omega)
      · try simp only [bb_1, bb_2, bb_3, bb_4, bz] at hh_7
        refine W.ex ?_
        try dsimp only [Sum.elim_inl, Sum.elim_inr]
        unfold r10_Is_J6
        refine W.lt (fun b7 bb_16 => ?_)
        refine W.gb (fun gg_17 => by try simp only [bb_1, bb_2, bb_3, bb_4, bb_16, bz] at gg_17; exact r10_bit_W (by first | assumption | omega | exact wrapu64_bd _ | (simp; done) | (simp; omega))) (fun r8 q_r8 => ?_)
        refine W.gb (fun gg_18 => by try simp only [bb_1, bb_2, bb_3, bb_4, bb_16, bz] at gg_18; exact r10_bit_W (by first | assumption | omega | exact wrapu64_bd _ | (simp; done) | (simp; omega))) (fun r9 q_r9 => ?_)
        refine W.lt (fun b10 bb_19 => ?_)
        refine W.lt (fun b11 bb_20 => ?_)
        exact W.rt trivial
theorem r13_Is_W {a0 : SFilter} (k_a0 : lkSFilter a0) : W (r13_Is a0) (fun r => r = true → 0 ≤ a0.Zone ∧ a0.Zone ≤ 5 ∧ 0 ≤ a0.Who ∧ a0.Who ≤ 2 ∧ 0 ≤ a0.Self ∧ a0.Self ≤ 2 ∧ 0 ≤ a0.Tap ∧ a0.Tap ≤ 2 ∧ 0 ≤ a0.Power.Kind ∧ a0.Power.Kind ≤ 3 ∧ 0 ≤ a0.Tough.Kind ∧ a0.Tough.Kind ≤ 3 ∧ 0 ≤ a0.Value.Kind ∧ a0.Value.Kind ≤ 3 ∧ a0.Sub.length ≤ 32) := by
  unfold r13_Is
  refine W.lt (fun b1 bb_1 => ?_)
  refine W.lt (fun b2 bb_2 => ?_)
  refine W.lt (fun b3 bb_3 => ?_)
  refine W.lt (fun b4 bb_4 => ?_)
  refine W.lt (fun b5 bb_5 => ?_)
  refine W.lt (fun b6 bb_6 => ?_)
  refine W.lt (fun b7 bb_7 => ?_)
  refine W.if (fun hh_8 => ?_) (fun hh_8 => ?_)
  · try simp only [bb_1, bb_2, bb_3, bb_4, bb_5, bb_6, bb_7, bz] at hh_8
    refine W.rt ?_
    first | (intro hz; cases hz; done) | (intro hz; simp only [bb_1, bb_2, bb_3, bb_4, bb_5, bb_6, bb_7, bz] at hz; have hS : a0.Sub.length ≤ 32 := (by by_cases hs : a0.Sub = []; (rw [hs]; decide); (simp_all)); have h1 := q_r18 hz.1.1; have h2 := q_r19 (by simp only [bz]; exact hz.1.1) hz.1.2; have h3 := q_r21 (by simp only [bb_1, bb_2, bb_3, bb_4, bb_5, bb_6, bb_7, bz]; exact hz.1) hz.2; omega)
  · try simp only [bb_1, bb_2, bb_3, bb_4, bb_5, bb_6, bb_7, bz] at hh_8
    refine W.bd (r13_apart_W) (fun r9 q_r9 => ?_)
    refine W.gb (fun gg_9 => by try simp only [bb_1, bb_2, bb_3, bb_4, bb_5, bb_6, bb_7, bz] at gg_9; exact r13_apart_W) (fun r10 q_r10 => ?_)
    refine W.lt (fun b11 bb_10 => ?_)
    refine W.if (fun hh_11 => ?_) (fun hh_11 => ?_)
    · try simp only [bb_1, bb_2, bb_3, bb_4, bb_5, bb_6, bb_7, bb_10, bz] at hh_11
      refine W.rt ?_
      first | (intro hz; cases hz; done) | (intro hz; simp only [bb_1, bb_2, bb_3, bb_4, bb_5, bb_6, bb_7, bb_10, bz] at hz; have hS : a0.Sub.length ≤ 32 := (by by_cases hs : a0.Sub = []; (rw [hs]; decide); (simp_all)); have h1 := q_r18 hz.1.1; have h2 := q_r19 (by simp only [bz]; exact hz.1.1) hz.1.2; have h3 := q_r21 (by simp only [bb_1, bb_2, bb_3, bb_4, bb_5, bb_6, bb_7, bb_10, bz]; exact hz.1) hz.2; omega)
    · try simp only [bb_1, bb_2, bb_3, bb_4, bb_5, bb_6, bb_7, bb_10, bz] at hh_11
      refine W.gb (fun gg_12 => by try simp only [bb_1, bb_2, bb_3, bb_4, bb_5, bb_6, bb_7, bb_10, bz] at gg_12; exact r10_IsSub_W (lkSFilter_Sub k_a0)) (fun r13 q_r13 => ?_)
      refine W.lt (fun b14 bb_13 => ?_)
      refine W.lt (fun b15 bb_14 => ?_)
      refine W.lt (fun b16 bb_15 => ?_)
      refine W.if (fun hh_16 => ?_) (fun hh_16 => ?_)
      · try simp only [bb_1, bb_2, bb_3, bb_4, bb_5, bb_6, bb_7, bb_10, bb_13, bb_14, bb_15, bz] at hh_16
        refine W.rt ?_
        first | (intro hz; cases hz; done) | (intro hz; simp only [bb_1, bb_2, bb_3, bb_4, bb_5, bb_6, bb_7, bb_10, bb_13, bb_14, bb_15, bz] at hz; have hS : a0.Sub.length ≤ 32 := (by by_cases hs : a0.Sub = []; (rw [hs]; decide); (simp_all)); have h1 := q_r18 hz.1.1; have h2 := q_r19 (by simp only [bz]; exact hz.1.1) hz.1.2; have h3 := q_r21 (by simp only [bb_1, bb_2, bb_3, bb_4, bb_5, bb_6, bb_7, bb_10, bb_13, bb_14, bb_15, bz]; exact hz.1) hz.2; omega)
      · try simp only [bb_1, bb_2, bb_3, bb_4, bb_5, bb_6, bb_7, bb_10, bb_13, bb_14, bb_15, bz] at hh_16
        refine W.bd (r13_bound_W) (fun r18 q_r18 => ?_)
        replace q_r18 : r18 = true → 0 ≤ a0.Power.Kind ∧ a0.Power.Kind ≤ 3 := q_r18
        refine W.gb (fun gg_17 => by try simp only [bb_1, bb_2, bb_3, bb_4, bb_5, bb_6, bb_7, bb_10, bb_13, bb_14, bb_15, bz] at gg_17; exact r13_bound_W) (fun r19 q_r19 => ?_)
        refine W.lt (fun b20 bb_18 => ?_)
        refine W.gb (fun gg_19 => by try simp only [bb_1, bb_2, bb_3, bb_4, bb_5, bb_6, bb_7, bb_10, bb_13, bb_14, bb_15, bb_18, bz] at gg_19; exact r13_bound_W) (fun r21 q_r21 => ?_)
        refine W.lt (fun b22 bb_20 => ?_)
        refine W.rt ?_
        first | (intro hz; cases hz; done) | (intro hz; simp only [bb_1, bb_2, bb_3, bb_4, bb_5, bb_6, bb_7, bb_10, bb_13, bb_14, bb_15, bb_18, bb_20, bz] at hz; have hS : a0.Sub.length ≤ 32 := (by by_cases hs : a0.Sub = []; (rw [hs]; decide); (simp_all)); have h1 := q_r18 hz.1.1; have h2 := q_r19 (by simp only [bz]; exact hz.1.1) hz.1.2; have h3 := q_r21 (by simp only [bb_1, bb_2, bb_3, bb_4, bb_5, bb_6, bb_7, bb_10, bb_13, bb_14, bb_15, bb_18, bb_20, bz]; exact hz.1) hz.2; omega)
theorem r13_typeWord_W {a0 : Int} (p_0 : a0 ≤ 100) : W (r13_typeWord a0) (fun r => r.length ≤ 500) := by
  unfold r13_typeWord
  refine W.it (fun (v : Int × Int) => 0 ≤ v.2 ∧ (v.2 ≤ a0 ∨ v.2 ≤ 0)) (fun v => (a0 - v.2).toNat) ?_ ?_ (fun v hv => ?_)
  · (try dsimp only); first | omega | (simp; omega) | (and_intros <;> first | omega | assumption | (simp; omega) | simp)
  · (try dsimp only); first | omega | (simp; omega) | (and_intros <;> first | omega | assumption | (simp; omega) | simp)
  · obtain ⟨mask_t3_6, k_t4_7⟩ := v
    replace hv : 0 ≤ k_t4_7 ∧ (k_t4_7 ≤ a0 ∨ k_t4_7 ≤ 0) := hv
    show W (r13_typeWord_B9 a0 mask_t3_6 k_t4_7) _
    unfold r13_typeWord_B9
    refine W.if (fun hh_1 => ?_) (fun hh_1 => ?_)
    · try simp only [bz] at hh_1
      have ww_2 : wrap64 (k_t4_7 + (1 : Int)) = k_t4_7 + (1 : Int) := wrap64_id (by omega) (by omega)
      exact W.nx (by (try dsimp only); first | omega | (and_intros <;> first | omega | assumption) | (simp; omega)) (by (try dsimp only); omega)
    · try simp only [bz] at hh_1
      refine W.ex ?_
      try dsimp only [Sum.elim_inl, Sum.elim_inr]
      unfold r13_typeWord_J2
      refine W.bd (r10_TypesText_W) (fun r3 q_r3 => ?_)
      replace q_r3 : r3.length ≤ 500 := q_r3
      refine W.rt ?_
      first | assumption | omega | (simp only [bz]; omega) | (simp only [bz]; intros; omega) | (intros; simp only [bz] at *; omega) | exact ⟨by simp, by simp⟩ | decide | simp_all
theorem r08_PoolText_W {a0 : A6 (Int)} : W (r08_PoolText a0) (fun r => True) := by
  unfold r08_PoolText
  refine W.bd (r08_cost_W) (fun r1 q_r1 => ?_)
  refine W.bd (r08_Text_W) (fun r2 q_r2 => ?_)
  exact W.rt trivial
theorem r15_Is_J18_W {a0 : SMod} {vt51_17 : Bool} (k_a0 : lkSMod a0) : W (r15_Is_J18 a0 vt51_17) (fun r => True) := by
  unfold r15_Is_J18
  refine W.if (fun hh_1 => ?_) (fun hh_1 => ?_)
  · try simp only [bz] at hh_1
    refine W.lt (fun b20 bb_2 => ?_)
    exact W.rt trivial
  · try simp only [bz] at hh_1
    refine W.if (fun hh_3 => ?_) (fun hh_3 => ?_)
    · try simp only [bz] at hh_3
      refine W.bd (r13_Is_W (lkSMod_Filter k_a0)) (fun r22 q_r22 => ?_)
      replace q_r22 : r22 = true → 0 ≤ a0.Filter.Zone ∧ a0.Filter.Zone ≤ 5 ∧ 0 ≤ a0.Filter.Who ∧ a0.Filter.Who ≤ 2 ∧ 0 ≤ a0.Filter.Self ∧ a0.Filter.Self ≤ 2 ∧ 0 ≤ a0.Filter.Tap ∧ a0.Filter.Tap ≤ 2 ∧ 0 ≤ a0.Filter.Power.Kind ∧ a0.Filter.Power.Kind ≤ 3 ∧ 0 ≤ a0.Filter.Tough.Kind ∧ a0.Filter.Tough.Kind ≤ 3 ∧ 0 ≤ a0.Filter.Value.Kind ∧ a0.Filter.Value.Kind ≤ 3 ∧ a0.Filter.Sub.length ≤ 32 := q_r22
      have ll_4 : a0.Filter.Sub.length ≤ 140737488355328 := (lkSFilter_Sub (lkSMod_Filter k_a0))
      exact W.rt trivial
    · try simp only [bz] at hh_3
      refine W.if (fun hh_5 => ?_) (fun hh_5 => ?_)
      · try simp only [bz] at hh_5
        refine W.lt (fun b24 bb_6 => ?_)
        refine W.lt (fun b25 bb_7 => ?_)
        refine W.lt (fun b26 bb_8 => ?_)
        exact W.rt trivial
      · try simp only [bz] at hh_5
        refine W.if (fun hh_9 => ?_) (fun hh_9 => ?_)
        · try simp only [bz] at hh_9
          refine W.lt (fun b28 bb_10 => ?_)
          refine W.lt (fun b29 bb_11 => ?_)
          refine W.lt (fun b30 bb_12 => ?_)
          exact W.rt trivial
        · try simp only [bz] at hh_9
          exact W.rt trivial
theorem r15_Is_J10_W {a0 : SMod} {vt25_9 : Bool} (k_a0 : lkSMod a0) : W (r15_Is_J10 a0 vt25_9) (fun r => True) := by
  unfold r15_Is_J10
  refine W.if (fun hh_1 => ?_) (fun hh_1 => ?_)
  · try simp only [bz] at hh_1
    refine W.bd (r10_IsSub_W (lkSMod_Sub k_a0)) (fun r12 q_r12 => ?_)
    replace q_r12 : r12 = true → a0.Sub.length ≤ 32 := q_r12
    have ll_2 : a0.Sub.length ≤ 140737488355328 := (lkSMod_Sub k_a0)
    exact W.rt trivial
  · try simp only [bz] at hh_1
    refine W.if (fun hh_3 => ?_) (fun hh_3 => ?_)
    · try simp only [bz] at hh_3
      refine W.lt (fun b14 bb_4 => ?_)
      exact W.rt trivial
    · try simp only [bz] at hh_3
      refine W.if (fun hh_5 => ?_) (fun hh_5 => ?_)
      · try simp only [bz] at hh_5
        refine W.lt (fun b16 bb_6 => ?_)
        exact W.rt trivial
      · try simp only [bz] at hh_5
        refine W.if (fun hh_7 => ?_) (fun hh_7 => ?_)
        · try simp only [bz] at hh_7
          exact r15_Is_J18_W k_a0
        · try simp only [bz] at hh_7
          exact r15_Is_J18_W k_a0
theorem r15_Is_J6_W {a0 : SMod} {vt19_5 : Bool} (k_a0 : lkSMod a0) : W (r15_Is_J6 a0 vt19_5) (fun r => True) := by
  unfold r15_Is_J6
  refine W.if (fun hh_1 => ?_) (fun hh_1 => ?_)
  · try simp only [bz] at hh_1
    refine W.bd (r15_types_W) (fun r8 q_r8 => ?_)
    exact W.rt trivial
  · try simp only [bz] at hh_1
    refine W.if (fun hh_2 => ?_) (fun hh_2 => ?_)
    · try simp only [bz] at hh_2
      exact r15_Is_J10_W k_a0
    · try simp only [bz] at hh_2
      exact r15_Is_J10_W k_a0
theorem r15_Is_W {a0 : SMod} (k_a0 : lkSMod a0) : W (r15_Is a0) (fun r => True) := by
  unfold r15_Is
  refine W.lt (fun b1 bb_1 => ?_)
  refine W.gb (fun gg_2 => by try simp only [bb_1, bz] at gg_2; exact r15_used_W) (fun r2 q_r2 => ?_)
  refine W.lt (fun b3 bb_3 => ?_)
  refine W.if (fun hh_4 => ?_) (fun hh_4 => ?_)
  · try simp only [bb_1, bb_3, bz] at hh_4
    exact W.rt trivial
  · try simp only [bb_1, bb_3, bz] at hh_4
    refine W.if (fun hh_5 => ?_) (fun hh_5 => ?_)
    · try simp only [bb_1, bb_3, bz] at hh_5
      exact r15_Is_J6_W k_a0
    · try simp only [bb_1, bb_3, bz] at hh_5
      exact r15_Is_J6_W k_a0
theorem r13_Text_J39_W {l7_38 : List (List UInt8)} (k_l7_38 : lkL 16 lkS l7_38) (p_0 : l7_38.length ≤ 49) (p_1 : ∀ y ∈ l7_38, y.length ≤ 600) : W (r13_Text_J39 l7_38) (fun r => r.length ≤ 31000) := by
  unfold r13_Text_J39
  have ll_1 : l7_38.length ≤ 140737488355328 := lkL_len (by decide) k_l7_38
  refine W.if (fun hh_2 => ?_) (fun hh_2 => ?_)
  · try simp only [bz] at hh_2
    refine W.rt ?_
    have ll_3 : str_any.length = 3 := rfl
    first | assumption | omega | (simp only [bz]; omega) | (simp only [bz]; intros; omega) | (intros; simp only [bz] at *; omega) | exact ⟨by simp, by simp⟩ | decide | simp_all
  · try simp only [bz] at hh_2
    have ll_4 : str_x20.length = 1 := rfl
    refine W.bd (r02_Join_W k_l7_38 (by unfold lkS; omega) (by first | assumption | omega | exact wrapu64_bd _ | (simp; done) | (simp; omega)) (by first | assumption | omega | exact wrapu64_bd _ | (simp; done) | (simp; omega)) (by first | assumption | omega | exact wrapu64_bd _ | (simp; done) | (simp; omega))) (fun r41 q_r41 => ?_)
    replace q_r41 : r41.length ≤ 30500 := q_r41
    refine W.rt ?_
    first | assumption | omega | (simp only [bz]; omega) | (simp only [bz]; intros; omega) | (intros; simp only [bz] at *; omega) | exact ⟨by simp, by simp⟩ | decide | simp_all
theorem r13_Text_J36_W {a0 : SFilter} {l7_35 : List (List UInt8)} (k_l7_35 : lkL 16 lkS l7_35) (p_0 : 0 ≤ a0.Zone ∧ a0.Zone ≤ 5 ∧ 0 ≤ a0.Who ∧ a0.Who ≤ 2 ∧ 0 ≤ a0.Self ∧ a0.Self ≤ 2 ∧ 0 ≤ a0.Tap ∧ a0.Tap ≤ 2 ∧ 0 ≤ a0.Power.Kind ∧ a0.Power.Kind ≤ 3 ∧ 0 ≤ a0.Tough.Kind ∧ a0.Tough.Kind ≤ 3 ∧ 0 ≤ a0.Value.Kind ∧ a0.Value.Kind ≤ 3 ∧ a0.Sub.length ≤ 32) (p_1 : l7_35.length ≤ 48) (p_2 : ∀ y ∈ l7_35, y.length ≤ 600) : W (r13_Text_J36 a0 l7_35) (fun r => r.length ≤ 31000) := by
  unfold r13_Text_J36
  have ll_1 : str_value.length = 5 := rfl
  refine W.bd (r13_boundWord_W (by unfold lkS; omega) (by first | assumption | omega | exact wrapu64_bd _ | (simp; done) | (simp; omega)) (by first | assumption | omega | exact wrapu64_bd _ | (simp; done) | (simp; omega))) (fun r37 q_r37 => ?_)
  replace q_r37 : r37.length ≤ 100 := q_r37
  refine W.if (fun hh_2 => ?_) (fun hh_2 => ?_)
  · try simp only [bz] at hh_2
    have ll_3 : l7_35.length ≤ 140737488355328 := lkL_len (by decide) k_l7_35
    exact r13_Text_J39_W k_l7_35 (by first | assumption | omega | exact wrapu64_bd _ | (simp; done) | (simp; omega)) (by first | assumption | omega | exact wrapu64_bd _ | (simp; done) | (simp; omega))
  · try simp only [bz] at hh_2
    have ll_5 : l7_35.length ≤ 140737488355328 := lkL_len (by decide) k_l7_35
    have ll_6 : ([r37] : List (List UInt8)).length = 1 := rfl
    refine W.bd (W.app (by first | omega | (simp; omega)) (by unfold maxLen; first | omega | (simp; omega))) (fun l43 q_l43 => ?_)
    have ll_7 : l43.length = (l7_35).length + ([r37] : List (List UInt8)).length := by rw [q_l43, List.length_append]
    have aa_8 : ∀ y ∈ l43, y.length ≤ 600 := by rw [q_l43]; exact all_app p_2 (all_one (by omega))
    exact r13_Text_J39_W (lkL_words (by assumption) (by omega) (by omega)) (by first | assumption | omega | exact wrapu64_bd _ | (simp; done) | (simp; omega)) (by first | assumption | omega | exact wrapu64_bd _ | (simp; done) | (simp; omega))
theorem r13_Text_J33_W {a0 : SFilter} {l7_32 : List (List UInt8)} (k_a0 : lkSFilter a0) (k_l7_32 : lkL 16 lkS l7_32) (p_0 : 0 ≤ a0.Zone ∧ a0.Zone ≤ 5 ∧ 0 ≤ a0.Who ∧ a0.Who ≤ 2 ∧ 0 ≤ a0.Self ∧ a0.Self ≤ 2 ∧ 0 ≤ a0.Tap ∧ a0.Tap ≤ 2 ∧ 0 ≤ a0.Power.Kind ∧ a0.Power.Kind ≤ 3 ∧ 0 ≤ a0.Tough.Kind ∧ a0.Tough.Kind ≤ 3 ∧ 0 ≤ a0.Value.Kind ∧ a0.Value.Kind ≤ 3 ∧ a0.Sub.length ≤ 32) (p_1 : l7_32.length ≤ 47) (p_2 : ∀ y ∈ l7_32, y.length ≤ 600) : W (r13_Text_J33 a0 l7_32) (fun r => r.length ≤ 31000) := by
  unfold r13_Text_J33
  have ll_1 : str_tough.length = 5 := rfl
  refine W.bd (r13_boundWord_W (by unfold lkS; omega) (by first | assumption | omega | exact wrapu64_bd _ | (simp; done) | (simp; omega)) (by first | assumption | omega | exact wrapu64_bd _ | (simp; done) | (simp; omega))) (fun r34 q_r34 => ?_)
  replace q_r34 : r34.length ≤ 100 := q_r34
  refine W.if (fun hh_2 => ?_) (fun hh_2 => ?_)
  · try simp only [bz] at hh_2
    have ll_3 : a0.Sub.length ≤ 140737488355328 := (lkSFilter_Sub k_a0)
    have ll_4 : l7_32.length ≤ 140737488355328 := lkL_len (by decide) k_l7_32
    exact r13_Text_J36_W k_l7_32 (by first | assumption | omega | exact wrapu64_bd _ | (simp; done) | (simp; omega)) (by first | assumption | omega | exact wrapu64_bd _ | (simp; done) | (simp; omega)) (by first | assumption | omega | exact wrapu64_bd _ | (simp; done) | (simp; omega))
  · try simp only [bz] at hh_2
    have ll_6 : l7_32.length ≤ 140737488355328 := lkL_len (by decide) k_l7_32
    have ll_7 : ([r34] : List (List UInt8)).length = 1 := rfl
    refine W.bd (W.app (by first | omega | (simp; omega)) (by unfold maxLen; first | omega | (simp; omega))) (fun l45 q_l45 => ?_)
    have ll_8 : l45.length = (l7_32).length + ([r34] : List (List UInt8)).length := by rw [q_l45, List.length_append]
    have aa_9 : ∀ y ∈ l45, y.length ≤ 600 := by rw [q_l45]; exact all_app p_2 (all_one (by omega))
    have ll_10 : a0.Sub.length ≤ 140737488355328 := (lkSFilter_Sub k_a0)
    exact r13_Text_J36_W (lkL_words (by assumption) (by omega) (by omega)) (by first | assumption | omega | exact wrapu64_bd _ | (simp; done) | (simp; omega)) (by first | assumption | omega | exact wrapu64_bd _ | (simp; done) | (simp; omega)) (by first | assumption | omega | exact wrapu64_bd _ | (simp; done) | (simp; omega))
theorem r13_Text_J30_W {a0 : SFilter} {l7_29 : List (List UInt8)} (k_a0 : lkSFilter a0) (k_l7_29 : lkL 16 lkS l7_29) (p_0 : 0 ≤ a0.Zone ∧ a0.Zone ≤ 5 ∧ 0 ≤ a0.Who ∧ a0.Who ≤ 2 ∧ 0 ≤ a0.Self ∧ a0.Self ≤ 2 ∧ 0 ≤ a0.Tap ∧ a0.Tap ≤ 2 ∧ 0 ≤ a0.Power.Kind ∧ a0.Power.Kind ≤ 3 ∧ 0 ≤ a0.Tough.Kind ∧ a0.Tough.Kind ≤ 3 ∧ 0 ≤ a0.Value.Kind ∧ a0.Value.Kind ≤ 3 ∧ a0.Sub.length ≤ 32) (p_1 : l7_29.length ≤ 46) (p_2 : ∀ y ∈ l7_29, y.length ≤ 600) : W (r13_Text_J30 a0 l7_29) (fun r => r.length ≤ 31000) := by
  unfold r13_Text_J30
  have ll_1 : str_power.length = 5 := rfl
  refine W.bd (r13_boundWord_W (by unfold lkS; omega) (by first | assumption | omega | exact wrapu64_bd _ | (simp; done) | (simp; omega)) (by first | assumption | omega | exact wrapu64_bd _ | (simp; done) | (simp; omega))) (fun r31 q_r31 => ?_)
  replace q_r31 : r31.length ≤ 100 := q_r31
  refine W.if (fun hh_2 => ?_) (fun hh_2 => ?_)
  · try simp only [bz] at hh_2
    have ll_3 : a0.Sub.length ≤ 140737488355328 := (lkSFilter_Sub k_a0)
    have ll_4 : l7_29.length ≤ 140737488355328 := lkL_len (by decide) k_l7_29
    exact r13_Text_J33_W k_a0 k_l7_29 (by first | assumption | omega | exact wrapu64_bd _ | (simp; done) | (simp; omega)) (by first | assumption | omega | exact wrapu64_bd _ | (simp; done) | (simp; omega)) (by first | assumption | omega | exact wrapu64_bd _ | (simp; done) | (simp; omega))
  · try simp only [bz] at hh_2
    have ll_6 : l7_29.length ≤ 140737488355328 := lkL_len (by decide) k_l7_29
    have ll_7 : ([r31] : List (List UInt8)).length = 1 := rfl
    refine W.bd (W.app (by first | omega | (simp; omega)) (by unfold maxLen; first | omega | (simp; omega))) (fun l47 q_l47 => ?_)
    have ll_8 : l47.length = (l7_29).length + ([r31] : List (List UInt8)).length := by rw [q_l47, List.length_append]
    have aa_9 : ∀ y ∈ l47, y.length ≤ 600 := by rw [q_l47]; exact all_app p_2 (all_one (by omega))
    have ll_10 : a0.Sub.length ≤ 140737488355328 := (lkSFilter_Sub k_a0)
    exact r13_Text_J33_W k_a0 (lkL_words (by assumption) (by omega) (by omega)) (by first | assumption | omega | exact wrapu64_bd _ | (simp; done) | (simp; omega)) (by first | assumption | omega | exact wrapu64_bd _ | (simp; done) | (simp; omega)) (by first | assumption | omega | exact wrapu64_bd _ | (simp; done) | (simp; omega))
theorem r13_Text_J25_W {a0 : SFilter} {r6 : List (List UInt8)} {l7_24 : List (List UInt8)} (k_a0 : lkSFilter a0) (k_r6 : lkL 16 lkS r6) (p_0 : 0 ≤ a0.Zone ∧ a0.Zone ≤ 5 ∧ 0 ≤ a0.Who ∧ a0.Who ≤ 2 ∧ 0 ≤ a0.Self ∧ a0.Self ≤ 2 ∧ 0 ≤ a0.Tap ∧ a0.Tap ≤ 2 ∧ 0 ≤ a0.Power.Kind ∧ a0.Power.Kind ≤ 3 ∧ 0 ≤ a0.Tough.Kind ∧ a0.Tough.Kind ≤ 3 ∧ 0 ≤ a0.Value.Kind ∧ a0.Value.Kind ≤ 3 ∧ a0.Sub.length ≤ 32) (p_1 : l7_24.length ≤ 27) (p_2 : ∀ y ∈ l7_24, y.length ≤ 600) (p_3 : r6.length = 3) (p_4 : ∀ y ∈ r6, y.length ≤ 40) : W (r13_Text_J25 a0 r6 l7_24) (fun r => r.length ≤ 31000) := by
  unfold r13_Text_J25
  refine W.it (fun (v : Int × (List (List UInt8))) => 0 ≤ v.1 ∧ v.1 ≤ 17 ∧ (v.2.length : Int) ≤ 27 + v.1 ∧ ∀ y ∈ v.2, y.length ≤ 600) (fun v => (17 - v.1).toNat) ?_ ?_ (fun v hv => ?_)
  · (try dsimp only); first | omega | (simp; omega) | (and_intros <;> first | omega | assumption | (simp; omega) | simp)
  · (try dsimp only); first | omega | (simp; omega) | (and_intros <;> first | omega | assumption | (simp; omega) | simp)
  · obtain ⟨vt12_52, l7_53⟩ := v
    replace hv : 0 ≤ vt12_52 ∧ vt12_52 ≤ 17 ∧ (l7_53.length : Int) ≤ 27 + vt12_52 ∧ ∀ y ∈ l7_53, y.length ≤ 600 := hv
    obtain ⟨vv_1, vv_2, vv_3, vv_4⟩ := hv
    show W (r13_Text_B55 a0 vt12_52 l7_53) _
    unfold r13_Text_B55
    refine W.if (fun hh_5 => ?_) (fun hh_5 => ?_)
    · try simp only [bz] at hh_5
      refine W.bd (r13_bit_W (by first | assumption | omega | exact wrapu64_bd _ | (simp; done) | (simp; omega))) (fun r59 q_r59 => ?_)
      refine W.if (fun hh_6 => ?_) (fun hh_6 => ?_)
      · try simp only [bz] at hh_6
        refine W.bd (r11_Name_W) (fun r61 q_r61 => ?_)
        replace q_r61 : r61.length ≤ 40 := q_r61
        have ll_7 : str_with_.length = 5 := rfl
        refine W.bd (W.cat (by first | omega | (simp; omega))) (fun s62 q_s62 => ?_)
        replace q_s62 : s62.length = (str_with_).length + (r61).length := q_s62.2
        have ll_8 : ([s62] : List (List UInt8)).length = 1 := rfl
        refine W.bd (W.app (by first | omega | (simp; omega)) (by unfold maxLen; first | omega | (simp; omega))) (fun l63 q_l63 => ?_)
        have ll_9 : l63.length = (l7_53).length + ([s62] : List (List UInt8)).length := by rw [q_l63, List.length_append]
        have aa_10 : ∀ y ∈ l63, y.length ≤ 600 := by rw [q_l63]; exact all_app vv_4 (all_one (by omega))
        unfold r13_Text_J58
        have ww_11 : wrap64 (vt12_52 + (1 : Int)) = vt12_52 + (1 : Int) := wrap64_id (by omega) (by omega)
        exact W.nx (by (try dsimp only); first | omega | (and_intros <;> first | omega | assumption) | (simp; omega)) (by (try dsimp only); omega)
      · try simp only [bz] at hh_6
        unfold r13_Text_J58
        have ww_12 : wrap64 (vt12_52 + (1 : Int)) = vt12_52 + (1 : Int) := wrap64_id (by omega) (by omega)
        exact W.nx (by (try dsimp only); first | omega | (and_intros <;> first | omega | assumption) | (simp; omega)) (by (try dsimp only); omega)
    · try simp only [bz] at hh_5
      refine W.ex ?_
      try dsimp only [Sum.elim_inl, Sum.elim_inr]
      unfold r13_Text_J27
      have ll_13 : r6.length ≤ 140737488355328 := lkL_len (by decide) k_r6
      refine W.bd (W.idx (by omega)) (fun e28 q_e28 => ?_)
      have ll_14 := p_4 e28 q_e28.1
      refine W.if (fun hh_15 => ?_) (fun hh_15 => ?_)
      · try simp only [bz] at hh_15
        have ll_16 : a0.Sub.length ≤ 140737488355328 := (lkSFilter_Sub k_a0)
        exact r13_Text_J30_W k_a0 (lkL_words (by assumption) (by omega) (by omega)) (by first | assumption | omega | exact wrapu64_bd _ | (simp; done) | (simp; omega)) (by first | assumption | omega | exact wrapu64_bd _ | (simp; done) | (simp; omega)) (by first | assumption | omega | exact wrapu64_bd _ | (simp; done) | (simp; omega))
      · try simp only [bz] at hh_15
        have ll_18 : ([e28] : List (List UInt8)).length = 1 := rfl
        refine W.bd (W.app (by first | omega | (simp; omega)) (by unfold maxLen; first | omega | (simp; omega))) (fun l49 q_l49 => ?_)
        have ll_19 : l49.length = (l7_53).length + ([e28] : List (List UInt8)).length := by rw [q_l49, List.length_append]
        have aa_20 : ∀ y ∈ l49, y.length ≤ 600 := by rw [q_l49]; exact all_app vv_4 (all_one (by omega))
        have ll_21 : a0.Sub.length ≤ 140737488355328 := (lkSFilter_Sub k_a0)
        exact r13_Text_J30_W k_a0 (lkL_words (by assumption) (by omega) (by omega)) (by first | assumption | omega | exact wrapu64_bd _ | (simp; done) | (simp; omega)) (by first | assumption | omega | exact wrapu64_bd _ | (simp; done) | (simp; omega)) (by first | assumption | omega | exact wrapu64_bd _ | (simp; done) | (simp; omega))
theorem r13_Text_J23_W {a0 : SFilter} {r6 : List (List UInt8)} {l7_22 : List (List UInt8)} (k_a0 : lkSFilter a0) (k_r6 : lkL 16 lkS r6) (k_l7_22 : lkL 16 lkS l7_22) (p_0 : 0 ≤ a0.Zone ∧ a0.Zone ≤ 5 ∧ 0 ≤ a0.Who ∧ a0.Who ≤ 2 ∧ 0 ≤ a0.Self ∧ a0.Self ≤ 2 ∧ 0 ≤ a0.Tap ∧ a0.Tap ≤ 2 ∧ 0 ≤ a0.Power.Kind ∧ a0.Power.Kind ≤ 3 ∧ 0 ≤ a0.Tough.Kind ∧ a0.Tough.Kind ≤ 3 ∧ 0 ≤ a0.Value.Kind ∧ a0.Value.Kind ≤ 3 ∧ a0.Sub.length ≤ 32) (p_1 : l7_22.length ≤ 26) (p_2 : ∀ y ∈ l7_22, y.length ≤ 600) (p_3 : r6.length = 3) (p_4 : ∀ y ∈ r6, y.length ≤ 40) : W (r13_Text_J23 a0 r6 l7_22) (fun r => r.length ≤ 31000) := by
  unfold r13_Text_J23
  refine W.if (fun hh_1 => ?_) (fun hh_1 => ?_)
  · try simp only [bz] at hh_1
    have ll_2 : a0.Sub.length ≤ 140737488355328 := (lkSFilter_Sub k_a0)
    have ll_3 : str_x7375623a.length = 4 := rfl
    refine W.bd (W.cat (by first | omega | (simp; omega))) (fun s65 q_s65 => ?_)
    replace q_s65 : s65.length = (str_x7375623a).length + (a0.Sub).length := q_s65.2
    have ll_4 : l7_22.length ≤ 140737488355328 := lkL_len (by decide) k_l7_22
    have ll_5 : ([s65] : List (List UInt8)).length = 1 := rfl
    refine W.bd (W.app (by first | omega | (simp; omega)) (by unfold maxLen; first | omega | (simp; omega))) (fun l66 q_l66 => ?_)
    have ll_6 : l66.length = (l7_22).length + ([s65] : List (List UInt8)).length := by rw [q_l66, List.length_append]
    have aa_7 : ∀ y ∈ l66, y.length ≤ 600 := by rw [q_l66]; exact all_app p_2 (all_one (by omega))
    have ll_8 : r6.length ≤ 140737488355328 := lkL_len (by decide) k_r6
    exact r13_Text_J25_W k_a0 k_r6 (by first | assumption | omega | exact wrapu64_bd _ | (simp; done) | (simp; omega)) (by first | assumption | omega | exact wrapu64_bd _ | (simp; done) | (simp; omega)) (by first | assumption | omega | exact wrapu64_bd _ | (simp; done) | (simp; omega)) (by first | assumption | omega | exact wrapu64_bd _ | (simp; done) | (simp; omega)) (by first | assumption | omega | exact wrapu64_bd _ | (simp; done) | (simp; omega))
  · try simp only [bz] at hh_1
    have ll_10 : a0.Sub.length ≤ 140737488355328 := (lkSFilter_Sub k_a0)
    have ll_11 : l7_22.length ≤ 140737488355328 := lkL_len (by decide) k_l7_22
    have ll_12 : r6.length ≤ 140737488355328 := lkL_len (by decide) k_r6
    exact r13_Text_J25_W k_a0 k_r6 (by first | assumption | omega | exact wrapu64_bd _ | (simp; done) | (simp; omega)) (by first | assumption | omega | exact wrapu64_bd _ | (simp; done) | (simp; omega)) (by first | assumption | omega | exact wrapu64_bd _ | (simp; done) | (simp; omega)) (by first | assumption | omega | exact wrapu64_bd _ | (simp; done) | (simp; omega)) (by first | assumption | omega | exact wrapu64_bd _ | (simp; done) | (simp; omega))
theorem r13_Text_J15_W {a0 : SFilter} {r6 : List (List UInt8)} {l7_14 : List (List UInt8)} (k_a0 : lkSFilter a0) (k_r6 : lkL 16 lkS r6) (p_0 : 0 ≤ a0.Zone ∧ a0.Zone ≤ 5 ∧ 0 ≤ a0.Who ∧ a0.Who ≤ 2 ∧ 0 ≤ a0.Self ∧ a0.Self ≤ 2 ∧ 0 ≤ a0.Tap ∧ a0.Tap ≤ 2 ∧ 0 ≤ a0.Power.Kind ∧ a0.Power.Kind ≤ 3 ∧ 0 ≤ a0.Tough.Kind ∧ a0.Tough.Kind ≤ 3 ∧ 0 ≤ a0.Value.Kind ∧ a0.Value.Kind ≤ 3 ∧ a0.Sub.length ≤ 32) (p_1 : l7_14.length ≤ 3) (p_2 : ∀ y ∈ l7_14, y.length ≤ 600) (p_3 : r6.length = 3) (p_4 : ∀ y ∈ r6, y.length ≤ 40) : W (r13_Text_J15 a0 r6 l7_14) (fun r => r.length ≤ 31000) := by
  unfold r13_Text_J15
  refine W.it (fun (v : Int × (List (List UInt8))) => 0 ≤ v.1 ∧ v.1 ≤ 6 ∧ (v.2.length : Int) ≤ 3 + v.1 ∧ ∀ y ∈ v.2, y.length ≤ 600) (fun v => (6 - v.1).toNat) ?_ ?_ (fun v hv => ?_)
  · (try dsimp only); first | omega | (simp; omega) | (and_intros <;> first | omega | assumption | (simp; omega) | simp)
  · (try dsimp only); first | omega | (simp; omega) | (and_intros <;> first | omega | assumption | (simp; omega) | simp)
  · obtain ⟨vt8_110, l7_111⟩ := v
    replace hv : 0 ≤ vt8_110 ∧ vt8_110 ≤ 6 ∧ (l7_111.length : Int) ≤ 3 + vt8_110 ∧ ∀ y ∈ l7_111, y.length ≤ 600 := hv
    obtain ⟨vv_1, vv_2, vv_3, vv_4⟩ := hv
    show W (r13_Text_B113 a0 vt8_110 l7_111) _
    unfold r13_Text_B113
    refine W.if (fun hh_5 => ?_) (fun hh_5 => ?_)
    · try simp only [bz] at hh_5
      refine W.bd (r13_bit_W (by first | assumption | omega | exact wrapu64_bd _ | (simp; done) | (simp; omega))) (fun r117 q_r117 => ?_)
      refine W.if (fun hh_6 => ?_) (fun hh_6 => ?_)
      · try simp only [bz] at hh_6
        refine W.bd (r13_typeWord_W (by first | assumption | omega | exact wrapu64_bd _ | (simp; done) | (simp; omega))) (fun r119 q_r119 => ?_)
        replace q_r119 : r119.length ≤ 500 := q_r119
        have ll_7 : ([r119] : List (List UInt8)).length = 1 := rfl
        refine W.bd (W.app (by first | omega | (simp; omega)) (by unfold maxLen; first | omega | (simp; omega))) (fun l120 q_l120 => ?_)
        have ll_8 : l120.length = (l7_111).length + ([r119] : List (List UInt8)).length := by rw [q_l120, List.length_append]
        have aa_9 : ∀ y ∈ l120, y.length ≤ 600 := by rw [q_l120]; exact all_app vv_4 (all_one (by omega))
        unfold r13_Text_J116
        have ww_10 : wrap64 (vt8_110 + (1 : Int)) = vt8_110 + (1 : Int) := wrap64_id (by omega) (by omega)
        exact W.nx (by (try dsimp only); first | omega | (and_intros <;> first | omega | assumption) | (simp; omega)) (by (try dsimp only); omega)
      · try simp only [bz] at hh_6
        unfold r13_Text_J116
        have ww_11 : wrap64 (vt8_110 + (1 : Int)) = vt8_110 + (1 : Int) := wrap64_id (by omega) (by omega)
        exact W.nx (by (try dsimp only); first | omega | (and_intros <;> first | omega | assumption) | (simp; omega)) (by (try dsimp only); omega)
    · try simp only [bz] at hh_5
      refine W.ex ?_
      try dsimp only [Sum.elim_inl, Sum.elim_inr]
      unfold r13_Text_J17
      refine W.it (fun (v : Int × (List (List UInt8))) => 0 ≤ v.1 ∧ v.1 ≤ 6 ∧ (v.2.length : Int) ≤ 9 + v.1 ∧ ∀ y ∈ v.2, y.length ≤ 600) (fun v => (6 - v.1).toNat) ?_ ?_ (fun v hv => ?_)
      · (try dsimp only); first | omega | (simp; omega) | (and_intros <;> first | omega | assumption | (simp; omega) | simp)
      · (try dsimp only); first | omega | (simp; omega) | (and_intros <;> first | omega | assumption | (simp; omega) | simp)
      · obtain ⟨vt9_96, l7_97⟩ := v
        replace hv : 0 ≤ vt9_96 ∧ vt9_96 ≤ 6 ∧ (l7_97.length : Int) ≤ 9 + vt9_96 ∧ ∀ y ∈ l7_97, y.length ≤ 600 := hv
        obtain ⟨vv_12, vv_13, vv_14, vv_15⟩ := hv
        show W (r13_Text_B99 a0 vt9_96 l7_97) _
        unfold r13_Text_B99
        refine W.if (fun hh_16 => ?_) (fun hh_16 => ?_)
        · try simp only [bz] at hh_16
          refine W.bd (r13_bit_W (by first | assumption | omega | exact wrapu64_bd _ | (simp; done) | (simp; omega))) (fun r103 q_r103 => ?_)
          refine W.if (fun hh_17 => ?_) (fun hh_17 => ?_)
          · try simp only [bz] at hh_17
            refine W.bd (r13_typeWord_W (by first | assumption | omega | exact wrapu64_bd _ | (simp; done) | (simp; omega))) (fun r105 q_r105 => ?_)
            replace q_r105 : r105.length ≤ 500 := q_r105
            have ll_18 : str_non_.length = 4 := rfl
            refine W.bd (W.cat (by first | omega | (simp; omega))) (fun s106 q_s106 => ?_)
            replace q_s106 : s106.length = (str_non_).length + (r105).length := q_s106.2
            have ll_19 : ([s106] : List (List UInt8)).length = 1 := rfl
            refine W.bd (W.app (by first | omega | (simp; omega)) (by unfold maxLen; first | omega | (simp; omega))) (fun l107 q_l107 => ?_)
            have ll_20 : l107.length = (l7_97).length + ([s106] : List (List UInt8)).length := by rw [q_l107, List.length_append]
            have aa_21 : ∀ y ∈ l107, y.length ≤ 600 := by rw [q_l107]; exact all_app vv_15 (all_one (by omega))
            unfold r13_Text_J102
            have ww_22 : wrap64 (vt9_96 + (1 : Int)) = vt9_96 + (1 : Int) := wrap64_id (by omega) (by omega)
            exact W.nx (by (try dsimp only); first | omega | (and_intros <;> first | omega | assumption) | (simp; omega)) (by (try dsimp only); omega)
          · try simp only [bz] at hh_17
            unfold r13_Text_J102
            have ww_23 : wrap64 (vt9_96 + (1 : Int)) = vt9_96 + (1 : Int) := wrap64_id (by omega) (by omega)
            exact W.nx (by (try dsimp only); first | omega | (and_intros <;> first | omega | assumption) | (simp; omega)) (by (try dsimp only); omega)
        · try simp only [bz] at hh_16
          refine W.ex ?_
          try dsimp only [Sum.elim_inl, Sum.elim_inr]
          unfold r13_Text_J19
          refine W.it (fun (v : Int × (List (List UInt8))) => 0 ≤ v.1 ∧ v.1 ≤ 5 ∧ (v.2.length : Int) ≤ 15 + v.1 ∧ ∀ y ∈ v.2, y.length ≤ 600) (fun v => (5 - v.1).toNat) ?_ ?_ (fun v hv => ?_)
          · (try dsimp only); first | omega | (simp; omega) | (and_intros <;> first | omega | assumption | (simp; omega) | simp)
          · (try dsimp only); first | omega | (simp; omega) | (and_intros <;> first | omega | assumption | (simp; omega) | simp)
          · obtain ⟨vt10_83, l7_84⟩ := v
            replace hv : 0 ≤ vt10_83 ∧ vt10_83 ≤ 5 ∧ (l7_84.length : Int) ≤ 15 + vt10_83 ∧ ∀ y ∈ l7_84, y.length ≤ 600 := hv
            obtain ⟨vv_24, vv_25, vv_26, vv_27⟩ := hv
            show W (r13_Text_B86 a0 vt10_83 l7_84) _
            unfold r13_Text_B86
            refine W.if (fun hh_28 => ?_) (fun hh_28 => ?_)
            · try simp only [bz] at hh_28
              refine W.bd (r13_bit_W (by first | assumption | omega | exact wrapu64_bd _ | (simp; done) | (simp; omega))) (fun r90 q_r90 => ?_)
              refine W.if (fun hh_29 => ?_) (fun hh_29 => ?_)
              · try simp only [bz] at hh_29
                refine W.bd (r09_Name_W) (fun r92 q_r92 => ?_)
                replace q_r92 : r92.length ≤ 10 := q_r92
                have ll_30 : ([r92] : List (List UInt8)).length = 1 := rfl
                refine W.bd (W.app (by first | omega | (simp; omega)) (by unfold maxLen; first | omega | (simp; omega))) (fun l93 q_l93 => ?_)
                have ll_31 : l93.length = (l7_84).length + ([r92] : List (List UInt8)).length := by rw [q_l93, List.length_append]
                have aa_32 : ∀ y ∈ l93, y.length ≤ 600 := by rw [q_l93]; exact all_app vv_27 (all_one (by omega))
                unfold r13_Text_J89
                have ww_33 : wrap64 (vt10_83 + (1 : Int)) = vt10_83 + (1 : Int) := wrap64_id (by omega) (by omega)
                exact W.nx (by (try dsimp only); first | omega | (and_intros <;> first | omega | assumption) | (simp; omega)) (by (try dsimp only); omega)
              · try simp only [bz] at hh_29
                unfold r13_Text_J89
                have ww_34 : wrap64 (vt10_83 + (1 : Int)) = vt10_83 + (1 : Int) := wrap64_id (by omega) (by omega)
                exact W.nx (by (try dsimp only); first | omega | (and_intros <;> first | omega | assumption) | (simp; omega)) (by (try dsimp only); omega)
            · try simp only [bz] at hh_28
              refine W.ex ?_
              try dsimp only [Sum.elim_inl, Sum.elim_inr]
              unfold r13_Text_J21
              refine W.it (fun (v : Int × (List (List UInt8))) => 0 ≤ v.1 ∧ v.1 ≤ 5 ∧ (v.2.length : Int) ≤ 20 + v.1 ∧ ∀ y ∈ v.2, y.length ≤ 600) (fun v => (5 - v.1).toNat) ?_ ?_ (fun v hv => ?_)
              · (try dsimp only); first | omega | (simp; omega) | (and_intros <;> first | omega | assumption | (simp; omega) | simp)
              · (try dsimp only); first | omega | (simp; omega) | (and_intros <;> first | omega | assumption | (simp; omega) | simp)
              · obtain ⟨vt11_69, l7_70⟩ := v
                replace hv : 0 ≤ vt11_69 ∧ vt11_69 ≤ 5 ∧ (l7_70.length : Int) ≤ 20 + vt11_69 ∧ ∀ y ∈ l7_70, y.length ≤ 600 := hv
                obtain ⟨vv_35, vv_36, vv_37, vv_38⟩ := hv
                show W (r13_Text_B72 a0 vt11_69 l7_70) _
                unfold r13_Text_B72
                refine W.if (fun hh_39 => ?_) (fun hh_39 => ?_)
                · try simp only [bz] at hh_39
                  refine W.bd (r13_bit_W (by first | assumption | omega | exact wrapu64_bd _ | (simp; done) | (simp; omega))) (fun r76 q_r76 => ?_)
                  refine W.if (fun hh_40 => ?_) (fun hh_40 => ?_)
                  · try simp only [bz] at hh_40
                    refine W.bd (r09_Name_W) (fun r78 q_r78 => ?_)
                    replace q_r78 : r78.length ≤ 10 := q_r78
                    have ll_41 : str_non_.length = 4 := rfl
                    refine W.bd (W.cat (by first | omega | (simp; omega))) (fun s79 q_s79 => ?_)
                    replace q_s79 : s79.length = (str_non_).length + (r78).length := q_s79.2
                    have ll_42 : ([s79] : List (List UInt8)).length = 1 := rfl
                    refine W.bd (W.app (by first | omega | (simp; omega)) (by unfold maxLen; first | omega | (simp; omega))) (fun l80 q_l80 => ?_)
                    have ll_43 : l80.length = (l7_70).length + ([s79] : List (List UInt8)).length := by rw [q_l80, List.length_append]
                    have aa_44 : ∀ y ∈ l80, y.length ≤ 600 := by rw [q_l80]; exact all_app vv_38 (all_one (by omega))
                    unfold r13_Text_J75
                    have ww_45 : wrap64 (vt11_69 + (1 : Int)) = vt11_69 + (1 : Int) := wrap64_id (by omega) (by omega)
                    exact W.nx (by (try dsimp only); first | omega | (and_intros <;> first | omega | assumption) | (simp; omega)) (by (try dsimp only); omega)
                  · try simp only [bz] at hh_40
                    unfold r13_Text_J75
                    have ww_46 : wrap64 (vt11_69 + (1 : Int)) = vt11_69 + (1 : Int) := wrap64_id (by omega) (by omega)
                    exact W.nx (by (try dsimp only); first | omega | (and_intros <;> first | omega | assumption) | (simp; omega)) (by (try dsimp only); omega)
                · try simp only [bz] at hh_39
                  refine W.ex ?_
                  try dsimp only [Sum.elim_inl, Sum.elim_inr]
                  have ll_47 : a0.Sub.length ≤ 140737488355328 := (lkSFilter_Sub k_a0)
                  have ll_48 : r6.length ≤ 140737488355328 := lkL_len (by decide) k_r6
                  exact r13_Text_J23_W k_a0 k_r6 (lkL_words (by assumption) (by omega) (by omega)) (by first | assumption | omega | exact wrapu64_bd _ | (simp; done) | (simp; omega)) (by first | assumption | omega | exact wrapu64_bd _ | (simp; done) | (simp; omega)) (by first | assumption | omega | exact wrapu64_bd _ | (simp; done) | (simp; omega)) (by first | assumption | omega | exact wrapu64_bd _ | (simp; done) | (simp; omega)) (by first | assumption | omega | exact wrapu64_bd _ | (simp; done) | (simp; omega))
theorem r13_Text_J12_W {a0 : SFilter} {r5 : List (List UInt8)} {r6 : List (List UInt8)} {l7_11 : List (List UInt8)} (k_a0 : lkSFilter a0) (k_r5 : lkL 16 lkS r5) (k_r6 : lkL 16 lkS r6) (k_l7_11 : lkL 16 lkS l7_11) (p_0 : 0 ≤ a0.Zone ∧ a0.Zone ≤ 5 ∧ 0 ≤ a0.Who ∧ a0.Who ≤ 2 ∧ 0 ≤ a0.Self ∧ a0.Self ≤ 2 ∧ 0 ≤ a0.Tap ∧ a0.Tap ≤ 2 ∧ 0 ≤ a0.Power.Kind ∧ a0.Power.Kind ≤ 3 ∧ 0 ≤ a0.Tough.Kind ∧ a0.Tough.Kind ≤ 3 ∧ 0 ≤ a0.Value.Kind ∧ a0.Value.Kind ≤ 3 ∧ a0.Sub.length ≤ 32) (p_1 : l7_11.length ≤ 2) (p_2 : ∀ y ∈ l7_11, y.length ≤ 600) (p_3 : r5.length = 3) (p_4 : ∀ y ∈ r5, y.length ≤ 40) (p_5 : r6.length = 3) (p_6 : ∀ y ∈ r6, y.length ≤ 40) : W (r13_Text_J12 a0 r5 r6 l7_11) (fun r => r.length ≤ 31000) := by
  unfold r13_Text_J12
  have ll_1 : r5.length ≤ 140737488355328 := lkL_len (by decide) k_r5
  refine W.bd (W.idx (by omega)) (fun e13 q_e13 => ?_)
  have ll_2 := p_4 e13 q_e13.1
  refine W.if (fun hh_3 => ?_) (fun hh_3 => ?_)
  · try simp only [bz] at hh_3
    have ll_4 : a0.Sub.length ≤ 140737488355328 := (lkSFilter_Sub k_a0)
    have ll_5 : l7_11.length ≤ 140737488355328 := lkL_len (by decide) k_l7_11
    have ll_6 : r6.length ≤ 140737488355328 := lkL_len (by decide) k_r6
    exact r13_Text_J15_W k_a0 k_r6 (by first | assumption | omega | exact wrapu64_bd _ | (simp; done) | (simp; omega)) (by first | assumption | omega | exact wrapu64_bd _ | (simp; done) | (simp; omega)) (by first | assumption | omega | exact wrapu64_bd _ | (simp; done) | (simp; omega)) (by first | assumption | omega | exact wrapu64_bd _ | (simp; done) | (simp; omega)) (by first | assumption | omega | exact wrapu64_bd _ | (simp; done) | (simp; omega))
  · try simp only [bz] at hh_3
    have ll_8 : l7_11.length ≤ 140737488355328 := lkL_len (by decide) k_l7_11
    have ll_9 : ([e13] : List (List UInt8)).length = 1 := rfl
    refine W.bd (W.app (by first | omega | (simp; omega)) (by unfold maxLen; first | omega | (simp; omega))) (fun l122 q_l122 => ?_)
    have ll_10 : l122.length = (l7_11).length + ([e13] : List (List UInt8)).length := by rw [q_l122, List.length_append]
    have aa_11 : ∀ y ∈ l122, y.length ≤ 600 := by rw [q_l122]; exact all_app p_2 (all_one (by omega))
    have ll_12 : a0.Sub.length ≤ 140737488355328 := (lkSFilter_Sub k_a0)
    have ll_13 : r6.length ≤ 140737488355328 := lkL_len (by decide) k_r6
    exact r13_Text_J15_W k_a0 k_r6 (by first | assumption | omega | exact wrapu64_bd _ | (simp; done) | (simp; omega)) (by first | assumption | omega | exact wrapu64_bd _ | (simp; done) | (simp; omega)) (by first | assumption | omega | exact wrapu64_bd _ | (simp; done) | (simp; omega)) (by first | assumption | omega | exact wrapu64_bd _ | (simp; done) | (simp; omega)) (by first | assumption | omega | exact wrapu64_bd _ | (simp; done) | (simp; omega))
theorem r13_Text_J9_W {a0 : SFilter} {r4 : List (List UInt8)} {r5 : List (List UInt8)} {r6 : List (List UInt8)} {l7_8 : List (List UInt8)} (k_a0 : lkSFilter a0) (k_r4 : lkL 16 lkS r4) (k_r5 : lkL 16 lkS r5) (k_r6 : lkL 16 lkS r6) (k_l7_8 : lkL 16 lkS l7_8) (p_0 : 0 ≤ a0.Zone ∧ a0.Zone ≤ 5 ∧ 0 ≤ a0.Who ∧ a0.Who ≤ 2 ∧ 0 ≤ a0.Self ∧ a0.Self ≤ 2 ∧ 0 ≤ a0.Tap ∧ a0.Tap ≤ 2 ∧ 0 ≤ a0.Power.Kind ∧ a0.Power.Kind ≤ 3 ∧ 0 ≤ a0.Tough.Kind ∧ a0.Tough.Kind ≤ 3 ∧ 0 ≤ a0.Value.Kind ∧ a0.Value.Kind ≤ 3 ∧ a0.Sub.length ≤ 32) (p_1 : l7_8.length ≤ 1) (p_2 : ∀ y ∈ l7_8, y.length ≤ 600) (p_3 : r4.length = 3) (p_4 : ∀ y ∈ r4, y.length ≤ 40) (p_5 : r5.length = 3) (p_6 : ∀ y ∈ r5, y.length ≤ 40) (p_7 : r6.length = 3) (p_8 : ∀ y ∈ r6, y.length ≤ 40) : W (r13_Text_J9 a0 r4 r5 r6 l7_8) (fun r => r.length ≤ 31000) := by
  unfold r13_Text_J9
  have ll_1 : r4.length ≤ 140737488355328 := lkL_len (by decide) k_r4
  refine W.bd (W.idx (by omega)) (fun e10 q_e10 => ?_)
  have ll_2 := p_4 e10 q_e10.1
  refine W.if (fun hh_3 => ?_) (fun hh_3 => ?_)
  · try simp only [bz] at hh_3
    have ll_4 : a0.Sub.length ≤ 140737488355328 := (lkSFilter_Sub k_a0)
    have ll_5 : l7_8.length ≤ 140737488355328 := lkL_len (by decide) k_l7_8
    have ll_6 : r5.length ≤ 140737488355328 := lkL_len (by decide) k_r5
    have ll_7 : r6.length ≤ 140737488355328 := lkL_len (by decide) k_r6
    exact r13_Text_J12_W k_a0 k_r5 k_r6 k_l7_8 (by first | assumption | omega | exact wrapu64_bd _ | (simp; done) | (simp; omega)) (by first | assumption | omega | exact wrapu64_bd _ | (simp; done) | (simp; omega)) (by first | assumption | omega | exact wrapu64_bd _ | (simp; done) | (simp; omega)) (by first | assumption | omega | exact wrapu64_bd _ | (simp; done) | (simp; omega)) (by first | assumption | omega | exact wrapu64_bd _ | (simp; done) | (simp; omega)) (by first | assumption | omega | exact wrapu64_bd _ | (simp; done) | (simp; omega)) (by first | assumption | omega | exact wrapu64_bd _ | (simp; done) | (simp; omega))
  · try simp only [bz] at hh_3
    have ll_9 : l7_8.length ≤ 140737488355328 := lkL_len (by decide) k_l7_8
    have ll_10 : ([e10] : List (List UInt8)).length = 1 := rfl
    refine W.bd (W.app (by first | omega | (simp; omega)) (by unfold maxLen; first | omega | (simp; omega))) (fun l124 q_l124 => ?_)
    have ll_11 : l124.length = (l7_8).length + ([e10] : List (List UInt8)).length := by rw [q_l124, List.length_append]
    have aa_12 : ∀ y ∈ l124, y.length ≤ 600 := by rw [q_l124]; exact all_app p_2 (all_one (by omega))
    have ll_13 : a0.Sub.length ≤ 140737488355328 := (lkSFilter_Sub k_a0)
    have ll_14 : r5.length ≤ 140737488355328 := lkL_len (by decide) k_r5
    have ll_15 : r6.length ≤ 140737488355328 := lkL_len (by decide) k_r6
    exact r13_Text_J12_W k_a0 k_r5 k_r6 (lkL_words (by assumption) (by omega) (by omega)) (by first | assumption | omega | exact wrapu64_bd _ | (simp; done) | (simp; omega)) (by first | assumption | omega | exact wrapu64_bd _ | (simp; done) | (simp; omega)) (by first | assumption | omega | exact wrapu64_bd _ | (simp; done) | (simp; omega)) (by first | assumption | omega | exact wrapu64_bd _ | (simp; done) | (simp; omega)) (by first | assumption | omega | exact wrapu64_bd _ | (simp; done) | (simp; omega)) (by first | assumption | omega | exact wrapu64_bd _ | (simp; done) | (simp; omega)) (by first | assumption | omega | exact wrapu64_bd _ | (simp; done) | (simp; omega))
end Go.PL
