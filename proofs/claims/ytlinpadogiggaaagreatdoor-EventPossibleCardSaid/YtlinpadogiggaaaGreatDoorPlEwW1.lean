/- Functions that answer: proofs. -/
import Derived.Test.YtlinpadogiggaaaGreatDoorPlEvB
import Derived.Test.YtlinpadogiggaaaGreatDoorPlEvF2
import Derived.Test.YtlinpadogiggaaaGreatDoorPlEvF3
import Derived.Test.YtlinpadogiggaaaGreatDoorPlEvF4
import Derived.Test.YtlinpadogiggaaaGreatDoorPlEwL
import Derived.Test.YtlinpadogiggaaaGreatDoorPlEwW0
namespace Go.PL
open Go
set_option maxRecDepth 100000
set_option linter.all false
set_option maxHeartbeats 2000000
theorem r10_joined_W {a0 : List (List UInt8)} {a1 : Int} {a2 : List UInt8} (k_a0 : lkL 16 lkS a0) (k_a2 : lkS a2) (p_0 : a0.length ≤ 10) (p_1 : ∀ y ∈ a0, y.length ≤ 40) (p_2 : a2.length ≤ 1) : W (r10_joined a0 a1 a2) (fun r => r.length ≤ 500) := by
  unfold r10_joined
  have ll_1 : a0.length ≤ 140737488355328 := lkL_len (by decide) k_a0
  refine W.it (fun (v : (List UInt8) × Int) => 0 ≤ v.2 ∧ (v.2 ≤ a0.length ∨ v.2 ≤ 0) ∧ (v.1.length : Int) ≤ 41 * v.2) (fun v => ((a0.length : Int) - v.2).toNat) ?_ ?_ (fun v hv => ?_)
  · (try dsimp only); first | omega | (simp; omega) | (and_intros <;> first | omega | assumption | (simp; omega) | simp)
  · (try dsimp only); first | omega | (simp; omega) | (and_intros <;> first | omega | assumption | (simp; omega) | simp)
  · obtain ⟨s_t7_5, i_t8_6⟩ := v
    replace hv : 0 ≤ i_t8_6 ∧ (i_t8_6 ≤ a0.length ∨ i_t8_6 ≤ 0) ∧ (s_t7_5.length : Int) ≤ 41 * i_t8_6 := hv
    show W (r10_joined_B8 a0 a1 a2 s_t7_5 i_t8_6) _
    unfold r10_joined_B8
    refine W.if (fun hh_2 => ?_) (fun hh_2 => ?_)
    · try simp only [bz] at hh_2
      refine W.bd (r10_bit_W (by first | assumption | omega | exact wrapu64_bd _ | (simp; done) | (simp; omega))) (fun r12 q_r12 => ?_)
      refine W.if (fun hh_3 => ?_) (fun hh_3 => ?_)
      · try simp only [bz] at hh_3
        refine W.if (fun hh_4 => ?_) (fun hh_4 => ?_)
        · try simp only [bz] at hh_4
          have ll_5 : a2.length ≤ 140737488355328 := k_a2
          refine W.bd (W.cat (by first | omega | (simp; omega))) (fun s19 q_s19 => ?_)
          replace q_s19 : s19.length = (s_t7_5).length + (a2).length := q_s19.2
          unfold r10_joined_J15
          refine W.bd (W.idx (by omega)) (fun e16 q_e16 => ?_)
          have ll_6 := p_1 e16 q_e16.1
          have ll_7 : e16.length ≤ 140737488355328 := (show lkS e16 from lkL_mem k_a0 q_e16.1)
          refine W.bd (W.cat (by first | omega | (simp; omega))) (fun s17 q_s17 => ?_)
          replace q_s17 : s17.length = (s19).length + (e16).length := q_s17.2
          unfold r10_joined_J11
          have ww_8 : wrap64 (i_t8_6 + (1 : Int)) = i_t8_6 + (1 : Int) := wrap64_id (by omega) (by omega)
          exact W.nx (by (try dsimp only); first | omega | (and_intros <;> first | omega | assumption) | (simp; omega)) (by (try dsimp only); omega)
        · try simp only [bz] at hh_4
          unfold r10_joined_J15
          refine W.bd (W.idx (by omega)) (fun e16 q_e16 => ?_)
          have ll_9 := p_1 e16 q_e16.1
          have ll_10 : e16.length ≤ 140737488355328 := (show lkS e16 from lkL_mem k_a0 q_e16.1)
          refine W.bd (W.cat (by first | omega | (simp; omega))) (fun s17 q_s17 => ?_)
          replace q_s17 : s17.length = (s_t7_5).length + (e16).length := q_s17.2
          unfold r10_joined_J11
          have ww_11 : wrap64 (i_t8_6 + (1 : Int)) = i_t8_6 + (1 : Int) := wrap64_id (by omega) (by omega)
          exact W.nx (by (try dsimp only); first | omega | (and_intros <;> first | omega | assumption) | (simp; omega)) (by (try dsimp only); omega)
      · try simp only [bz] at hh_3
        unfold r10_joined_J11
        have ww_12 : wrap64 (i_t8_6 + (1 : Int)) = i_t8_6 + (1 : Int) := wrap64_id (by omega) (by omega)
        exact W.nx (by (try dsimp only); first | omega | (and_intros <;> first | omega | assumption) | (simp; omega)) (by (try dsimp only); omega)
    · try simp only [bz] at hh_2
      refine W.ex ?_
      try dsimp only [Sum.elim_inl, Sum.elim_inr]
      unfold r10_joined_J2
      refine W.rt ?_
      first | assumption | omega | (simp only [bz]; omega) | (simp only [bz]; intros; omega) | (intros; simp only [bz] at *; omega) | exact ⟨by simp, by simp⟩ | decide | simp_all
theorem r09_Text_W {a0 : Int} : W (r09_Text a0) (fun r => r.length ≤ 150) := by
  unfold r09_Text
  refine W.bd (r09_Is_W) (fun r1 q_r1 => ?_)
  refine W.if (fun hh_1 => ?_) (fun hh_1 => ?_)
  · try simp only [bz] at hh_1
    refine W.rt ?_
    first | assumption | omega | (simp only [bz]; omega) | (simp only [bz]; intros; omega) | (intros; simp only [bz] at *; omega) | exact ⟨by simp, by simp⟩ | decide | simp_all
  · try simp only [bz] at hh_1
    refine W.if (fun hh_2 => ?_) (fun hh_2 => ?_)
    · try simp only [bz] at hh_2
      refine W.rt ?_
      have ll_3 : str_none.length = 4 := rfl
      first | assumption | omega | (simp only [bz]; omega) | (simp only [bz]; intros; omega) | (intros; simp only [bz] at *; omega) | exact ⟨by simp, by simp⟩ | decide | simp_all
    · try simp only [bz] at hh_2
      refine W.it (fun (v : (List UInt8) × Int) => 0 ≤ v.2 ∧ v.2 ≤ 5 ∧ (v.1.length : Int) ≤ 20 * v.2) (fun v => (5 - v.2).toNat) ?_ ?_ (fun v hv => ?_)
      · (try dsimp only); first | omega | (simp; omega) | (and_intros <;> first | omega | assumption | (simp; omega) | simp)
      · (try dsimp only); first | omega | (simp; omega) | (and_intros <;> first | omega | assumption | (simp; omega) | simp)
      · obtain ⟨out_t3_8, i_t4_9⟩ := v
        replace hv : 0 ≤ i_t4_9 ∧ i_t4_9 ≤ 5 ∧ (out_t3_8.length : Int) ≤ 20 * i_t4_9 := hv
        show W (r09_Text_B11 a0 out_t3_8 i_t4_9) _
        unfold r09_Text_B11
        refine W.if (fun hh_4 => ?_) (fun hh_4 => ?_)
        · try simp only [bz] at hh_4
          refine W.bd (W.need (by first | omega | (refine shl_ne ?_; omega))) (fun u15 q_u15 => ?_)
          refine W.bd (W.need (by first | omega | (refine shl_ne ?_; omega))) (fun u16 q_u16 => ?_)
          refine W.if (fun hh_5 => ?_) (fun hh_5 => ?_)
          · try simp only [bz] at hh_5
            refine W.if (fun hh_6 => ?_) (fun hh_6 => ?_)
            · try simp only [bz] at hh_6
              have ll_7 : str_x2b.length = 1 := rfl
              refine W.bd (W.cat (by first | omega | (simp; omega))) (fun s23 q_s23 => ?_)
              replace q_s23 : s23.length = (out_t3_8).length + (str_x2b).length := q_s23.2
              unfold r09_Text_J19
              refine W.bd (r09_Name_W) (fun r20 q_r20 => ?_)
              replace q_r20 : r20.length ≤ 10 := q_r20
              refine W.bd (W.cat (by first | omega | (simp; omega))) (fun s21 q_s21 => ?_)
              replace q_s21 : s21.length = (s23).length + (r20).length := q_s21.2
              unfold r09_Text_J14
              have ww_8 : wrap64 (i_t4_9 + (1 : Int)) = i_t4_9 + (1 : Int) := wrap64_id (by omega) (by omega)
              exact W.nx (by (try dsimp only); first | omega | (and_intros <;> first | omega | assumption) | (simp; omega)) (by (try dsimp only); omega)
            · try simp only [bz] at hh_6
              unfold r09_Text_J19
              refine W.bd (r09_Name_W) (fun r20 q_r20 => ?_)
              replace q_r20 : r20.length ≤ 10 := q_r20
              refine W.bd (W.cat (by first | omega | (simp; omega))) (fun s21 q_s21 => ?_)
              replace q_s21 : s21.length = (out_t3_8).length + (r20).length := q_s21.2
              unfold r09_Text_J14
              have ww_9 : wrap64 (i_t4_9 + (1 : Int)) = i_t4_9 + (1 : Int) := wrap64_id (by omega) (by omega)
              exact W.nx (by (try dsimp only); first | omega | (and_intros <;> first | omega | assumption) | (simp; omega)) (by (try dsimp only); omega)
          · try simp only [bz] at hh_5
            unfold r09_Text_J14
            have ww_10 : wrap64 (i_t4_9 + (1 : Int)) = i_t4_9 + (1 : Int) := wrap64_id (by omega) (by omega)
            exact W.nx (by (try dsimp only); first | omega | (and_intros <;> first | omega | assumption) | (simp; omega)) (by (try dsimp only); omega)
        · try simp only [bz] at hh_4
          refine W.ex ?_
          try dsimp only [Sum.elim_inl, Sum.elim_inr]
          unfold r09_Text_J5
          refine W.rt ?_
          first | assumption | omega | (simp only [bz]; omega) | (simp only [bz]; intros; omega) | (intros; simp only [bz] at *; omega) | exact ⟨by simp, by simp⟩ | decide | simp_all
theorem r11_Name_W {a0 : Int} : W (r11_Name a0) (fun r => r.length ≤ 40) := by
  unfold r11_Name
  refine W.lt (fun b1 bb_1 => ?_)
  refine W.if (fun hh_2 => ?_) (fun hh_2 => ?_)
  · try simp only [bb_1, bz] at hh_2
    refine W.rt ?_
    first | assumption | omega | (simp only [bb_1, bz]; omega) | (simp only [bb_1, bz]; intros; omega) | (intros; simp only [bb_1, bz] at *; omega) | exact ⟨by simp, by simp⟩ | decide | simp_all
  · try simp only [bb_1, bz] at hh_2
    refine W.bd (r11_names_W) (fun r3 q_r3 => ?_)
    replace q_r3 : r3.length = 17 ∧ ∀ y ∈ r3, y.length ≤ 40 := q_r3
    obtain ⟨q_r3_1, q_r3_2⟩ := q_r3
    refine W.bd (W.idx (by omega)) (fun e4 q_e4 => ?_)
    have ll_3 := q_r3_2 e4 q_e4.1
    refine W.rt ?_
    first | assumption | omega | (simp only [bb_1, bz]; omega) | (simp only [bb_1, bz]; intros; omega) | (intros; simp only [bb_1, bz] at *; omega) | exact ⟨by simp, by simp⟩ | decide | simp_all
theorem r01_Text_W {a0 : Int} : W (r01_Text a0) (fun r => r.length ≤ 21) := by
  unfold r01_Text
  refine W.if (fun hh_1 => ?_) (fun hh_1 => ?_)
  · try simp only [bz] at hh_1
    refine W.bd (r01_digits_W (by first | assumption | omega | exact wrapu64_bd _ | (simp; done) | (simp; omega))) (fun r2 q_r2 => ?_)
    replace q_r2 : r2.length ≤ 20 := q_r2
    have ll_2 : str_x2d.length = 1 := rfl
    refine W.bd (W.cat (by first | omega | (simp; omega))) (fun s3 q_s3 => ?_)
    replace q_s3 : s3.length = (str_x2d).length + (r2).length := q_s3.2
    refine W.rt ?_
    first | assumption | omega | (simp only [bz]; omega) | (simp only [bz]; intros; omega) | (intros; simp only [bz] at *; omega) | exact ⟨by simp, by simp⟩ | decide | simp_all
  · try simp only [bz] at hh_1
    refine W.bd (r01_digits_W (by first | assumption | omega | exact wrapu64_bd _ | (simp; done) | (simp; omega))) (fun r4 q_r4 => ?_)
    replace q_r4 : r4.length ≤ 20 := q_r4
    refine W.rt ?_
    first | assumption | omega | (simp only [bz]; omega) | (simp only [bz]; intros; omega) | (intros; simp only [bz] at *; omega) | exact ⟨by simp, by simp⟩ | decide | simp_all
theorem r20_price_W {a0 : SPrice} : W (r20_price a0) (fun r => True) := by
  unfold r20_price
  refine W.bd (r08_Is_W) (fun r1 q_r1 => ?_)
  replace q_r1 : r1 = true → a0.Mana.X ≤ 2 ∧ ∀ i : Int, 0 ≤ i → i < 5 → a0.Mana.Color.l.getD i.toNat default ≤ 9 := q_r1
  have ll_1 : a0.Mana.Color.l.length = 5 := rfl
  refine W.lt (fun b2 bb_2 => ?_)
  refine W.lt (fun b3 bb_3 => ?_)
  refine W.lt (fun b4 bb_4 => ?_)
  exact W.rt trivial
theorem r18_hasFilter_W {a0 : Int} : W (r18_hasFilter a0) (fun r => True) := by
  unfold r18_hasFilter
  refine W.bd (r18_word_W) (fun r1 q_r1 => ?_)
  refine W.gb (fun gg_1 => by try simp only [bz] at gg_1; exact r18_hasWho_W) (fun r2 q_r2 => ?_)
  refine W.lt (fun b3 bb_2 => ?_)
  refine W.lt (fun b4 bb_3 => ?_)
  exact W.rt trivial
theorem r17_uses_W {a0 : Int} {a1 : Int} : W (r17_uses a0 a1) (fun r => True) := by
  unfold r17_uses
  refine W.bd (r17_Uses_W) (fun r1 q_r1 => ?_)
  replace q_r1 : r1.length ≤ 5 := q_r1
  refine W.it (fun (v : Int) => 0 ≤ v ∧ (v ≤ (r1.length : Int) ∨ v ≤ 0)) (fun v => ((r1.length : Int) - v).toNat) ?_ ?_ (fun v hv => ?_)
  · (try dsimp only); first | omega | (simp; omega) | (and_intros <;> first | omega | assumption | (simp; omega) | simp)
  · (try dsimp only); first | omega | (simp; omega) | (and_intros <;> first | omega | assumption | (simp; omega) | simp)
  · obtain ⟨i_t6_4, hv0⟩ : ∃ x, x = v := ⟨v, rfl⟩
    subst hv0
    replace hv : 0 ≤ i_t6_4 ∧ (i_t6_4 ≤ (r1.length : Int) ∨ i_t6_4 ≤ 0) := hv
    show W (r17_uses_B5 a1 r1 i_t6_4) _
    unfold r17_uses_B5
    refine W.if (fun hh_1 => ?_) (fun hh_1 => ?_)
    · try simp only [bz] at hh_1
      refine W.bd (W.sidx (by omega)) (fun c7 q_c7 => ?_)
      refine W.if (fun hh_2 => ?_) (fun hh_2 => ?_)
      · try simp only [bz] at hh_2
        refine W.ex ?_
        try dsimp only [Sum.elim_inl, Sum.elim_inr]
        exact W.rt trivial
      · try simp only [bz] at hh_2
        have ww_3 : wrap64 (i_t6_4 + (1 : Int)) = i_t6_4 + (1 : Int) := wrap64_id (by omega) (by omega)
        exact W.nx (by (try dsimp only); first | omega | (and_intros <;> first | omega | assumption) | (simp; omega)) (by (try dsimp only); omega)
    · try simp only [bz] at hh_1
      refine W.ex ?_
      try dsimp only [Sum.elim_inl, Sum.elim_inr]
      unfold r17_uses_J2
      exact W.rt trivial
theorem r22_creates_W {a0 : List (SCard)} {a1 : SCard} (k_a0 : lkL 176 lkSCard a0) (k_a1 : lkSCard a1) : W (r22_creates a0 a1) (fun r => True) := by
  unfold r22_creates
  have ll_1 : a1.Abilities.length ≤ 140737488355328 := lkL_len (by decide) (lkSCard_Abilities k_a1)
  refine W.it (fun (v : Int) => 0 ≤ v ∧ (v ≤ (a1.Abilities.length : Int) ∨ v ≤ 0)) (fun v => ((a1.Abilities.length : Int) - v).toNat) ?_ ?_ (fun v hv => ?_)
  · (try dsimp only); first | omega | (simp; omega) | (and_intros <;> first | omega | assumption | (simp; omega) | simp)
  · (try dsimp only); first | omega | (simp; omega) | (and_intros <;> first | omega | assumption | (simp; omega) | simp)
  · obtain ⟨i_t5_3, hv0⟩ : ∃ x, x = v := ⟨v, rfl⟩
    subst hv0
    replace hv : 0 ≤ i_t5_3 ∧ (i_t5_3 ≤ (a1.Abilities.length : Int) ∨ i_t5_3 ≤ 0) := hv
    show W (r22_creates_B4 a0 a1 i_t5_3) _
    unfold r22_creates_B4
    refine W.if (fun hh_2 => ?_) (fun hh_2 => ?_)
    · try simp only [bz] at hh_2
      refine W.it (fun (v : Int) => 0 ≤ v ∧ v ≤ 140737488355328) (fun v => (140737488355328 - v).toNat) ?_ ?_ (fun v hv => ?_)
      · (try dsimp only); first | omega | (simp; omega) | (and_intros <;> first | omega | assumption | (simp; omega) | simp)
      · (try dsimp only); first | omega | (simp; omega) | (and_intros <;> first | omega | assumption | (simp; omega) | simp)
      · obtain ⟨k_t6_8, hv0⟩ : ∃ x, x = v := ⟨v, rfl⟩
        subst hv0
        replace hv : 0 ≤ k_t6_8 ∧ k_t6_8 ≤ 140737488355328 := hv
        show W (r22_creates_B9 a0 a1 i_t5_3 k_t6_8) _
        unfold r22_creates_B9
        refine W.bd (W.idx (by omega)) (fun e10 q_e10 => ?_)
        have ll_3 : e10.Effects.length ≤ 140737488355328 := lkL_len (by decide) (lkSAbility_Effects (show lkSAbility e10 from lkL_mem (lkSCard_Abilities k_a1) q_e10.1))
        refine W.if (fun hh_4 => ?_) (fun hh_4 => ?_)
        · try simp only [bz] at hh_4
          refine W.re q_e10.2.2 ?_
          refine W.bd (W.idx (by omega)) (fun e13 q_e13 => ?_)
          refine W.gb (fun gg_5 => by try simp only [bz] at gg_5; exact r22_token_W k_a0) (fun r14 q_r14 => ?_)
          refine W.lt (fun b15 bb_6 => ?_)
          refine W.if (fun hh_7 => ?_) (fun hh_7 => ?_)
          · try simp only [bb_6, bz] at hh_7
            refine W.ex ?_
            try dsimp only [Sum.elim_inl, Sum.elim_inr]
            refine W.ex ?_
            try dsimp only [Sum.elim_inl, Sum.elim_inr]
            exact W.rt trivial
          · try simp only [bb_6, bz] at hh_7
            have ww_8 : wrap64 (k_t6_8 + (1 : Int)) = k_t6_8 + (1 : Int) := wrap64_id (by omega) (by omega)
            exact W.nx (by (try dsimp only); first | omega | (and_intros <;> first | omega | assumption) | (simp; omega)) (by (try dsimp only); omega)
        · try simp only [bz] at hh_4
          refine W.ex ?_
          try dsimp only [Sum.elim_inl, Sum.elim_inr]
          unfold r22_creates_J6
          have ww_9 : wrap64 (i_t5_3 + (1 : Int)) = i_t5_3 + (1 : Int) := wrap64_id (by omega) (by omega)
          exact W.nx (by (try dsimp only); first | omega | (and_intros <;> first | omega | assumption) | (simp; omega)) (by (try dsimp only); omega)
    · try simp only [bz] at hh_2
      refine W.ex ?_
      try dsimp only [Sum.elim_inl, Sum.elim_inr]
      unfold r22_creates_J1
      exact W.rt trivial
theorem r25_Find_W {a0 : SState} {a1 : Int} (k_a0 : lkSState a0) : W (r25_Find a0 a1) (fun r => True) := by
  unfold r25_Find
  refine W.bd (r25_place_W k_a0) (fun r1 q_r1 => ?_)
  replace q_r1 : -1 ≤ r1 ∧ r1 < a0.Objects.length := q_r1
  have ll_1 : a0.Objects.length ≤ 140737488355328 := lkL_len (by decide) (lkSState_Objects k_a0)
  refine W.if (fun hh_2 => ?_) (fun hh_2 => ?_)
  · try simp only [bz] at hh_2
    exact W.rt trivial
  · try simp only [bz] at hh_2
    refine W.bd (W.idx (by omega)) (fun e3 q_e3 => ?_)
    exact W.rt trivial
theorem r26_player_W {a0 : SState} {a1 : Int} : W (r26_player a0 a1) (fun r => True) := by
  unfold r26_player
  refine W.bd (r26_in_W) (fun r1 q_r1 => ?_)
  exact W.rt trivial
theorem r24_Is_W {a0 : SObject} {a1 : Int} {a2 : Int} : W (r24_Is a0 a1 a2) (fun r => r = true → 1 ≤ a0.Id) := by
  unfold r24_Is
  refine W.lt (fun b1 bb_1 => ?_)
  refine W.lt (fun b2 bb_2 => ?_)
  refine W.lt (fun b3 bb_3 => ?_)
  refine W.lt (fun b4 bb_4 => ?_)
  refine W.lt (fun b5 bb_5 => ?_)
  refine W.lt (fun b6 bb_6 => ?_)
  refine W.lt (fun b7 bb_7 => ?_)
  refine W.lt (fun b8 bb_8 => ?_)
  refine W.if (fun hh_9 => ?_) (fun hh_9 => ?_)
  · try simp only [bb_1, bb_2, bb_3, bb_4, bb_5, bb_6, bb_7, bb_8, bz] at hh_9
    refine W.rt ?_
    first | (intro hz; cases hz; done) | (intro _; omega)
  · try simp only [bb_1, bb_2, bb_3, bb_4, bb_5, bb_6, bb_7, bb_8, bz] at hh_9
    refine W.lt (fun b10 bb_10 => ?_)
    refine W.lt (fun b11 bb_11 => ?_)
    refine W.lt (fun b12 bb_12 => ?_)
    refine W.lt (fun b13 bb_13 => ?_)
    refine W.lt (fun b14 bb_14 => ?_)
    refine W.lt (fun b15 bb_15 => ?_)
    refine W.lt (fun b16 bb_16 => ?_)
    refine W.if (fun hh_17 => ?_) (fun hh_17 => ?_)
    · try simp only [bb_1, bb_2, bb_3, bb_4, bb_5, bb_6, bb_7, bb_8, bb_10, bb_11, bb_12, bb_13, bb_14, bb_15, bb_16, bz] at hh_17
      refine W.rt ?_
      first | (intro hz; cases hz; done) | (intro _; omega)
    · try simp only [bb_1, bb_2, bb_3, bb_4, bb_5, bb_6, bb_7, bb_8, bb_10, bb_11, bb_12, bb_13, bb_14, bb_15, bb_16, bz] at hh_17
      refine W.bd (r12_Is_W) (fun r18 q_r18 => ?_)
      refine W.lt (fun b19 bb_18 => ?_)
      refine W.lt (fun b20 bb_19 => ?_)
      refine W.lt (fun b21 bb_20 => ?_)
      refine W.lt (fun b22 bb_21 => ?_)
      refine W.if (fun hh_22 => ?_) (fun hh_22 => ?_)
      · try simp only [bb_1, bb_2, bb_3, bb_4, bb_5, bb_6, bb_7, bb_8, bb_10, bb_11, bb_12, bb_13, bb_14, bb_15, bb_16, bb_18, bb_19, bb_20, bb_21, bz] at hh_22
        refine W.rt ?_
        first | (intro hz; cases hz; done) | (intro _; omega)
      · try simp only [bb_1, bb_2, bb_3, bb_4, bb_5, bb_6, bb_7, bb_8, bb_10, bb_11, bb_12, bb_13, bb_14, bb_15, bb_16, bb_18, bb_19, bb_20, bb_21, bz] at hh_22
        refine W.gb (fun gg_23 => by try simp only [bb_1, bb_2, bb_3, bb_4, bb_5, bb_6, bb_7, bb_8, bb_10, bb_11, bb_12, bb_13, bb_14, bb_15, bb_16, bb_18, bb_19, bb_20, bb_21, bz] at gg_23; exact r24_Calm_W) (fun r24 q_r24 => ?_)
        refine W.gb (fun gg_24 => by try simp only [bb_1, bb_2, bb_3, bb_4, bb_5, bb_6, bb_7, bb_8, bb_10, bb_11, bb_12, bb_13, bb_14, bb_15, bb_16, bb_18, bb_19, bb_20, bb_21, bz] at gg_24; exact r24_Ended_W) (fun r25 q_r25 => ?_)
        refine W.lt (fun b26 bb_25 => ?_)
        refine W.lt (fun b27 bb_26 => ?_)
        refine W.lt (fun b28 bb_27 => ?_)
        refine W.lt (fun b29 bb_28 => ?_)
        refine W.lt (fun b30 bb_29 => ?_)
        refine W.rt ?_
        first | (intro hz; cases hz; done) | (intro _; omega)
theorem r25_List_W {a0 : SState} {a1 : Int} {a2 : Int} (k_a0 : lkSState a0) : W (r25_List a0 a1 a2) (fun r => lkL 8 lkT r) := by
  unfold r25_List
  refine W.if (fun hh_1 => ?_) (fun hh_1 => ?_)
  · try simp only [bz] at hh_1
    refine W.bd (r25_ints_W (lkSState_Battlefield k_a0)) (fun r2 q_r2 => ?_)
    replace q_r2 : lkL 8 lkT r2 := q_r2
    refine W.rt ?_
    exact q_r2
  · try simp only [bz] at hh_1
    refine W.if (fun hh_2 => ?_) (fun hh_2 => ?_)
    · try simp only [bz] at hh_2
      refine W.bd (r25_ints_W (lkSState_Exile k_a0)) (fun r4 q_r4 => ?_)
      replace q_r4 : lkL 8 lkT r4 := q_r4
      refine W.rt ?_
      exact q_r4
    · try simp only [bz] at hh_2
      refine W.lt (fun b5 bb_3 => ?_)
      refine W.if (fun hh_4 => ?_) (fun hh_4 => ?_)
      · try simp only [bb_3, bz] at hh_4
        refine W.rt ?_
        exact lkL_nil
      · try simp only [bb_3, bz] at hh_4
        refine W.if (fun hh_5 => ?_) (fun hh_5 => ?_)
        · try simp only [bb_3, bz] at hh_5
          have ll_6 : a0.Players.length ≤ 140737488355328 := lkL_len (by decide) (lkSState_Players k_a0)
          refine W.bd (W.idx (by omega)) (fun e8 q_e8 => ?_)
          refine W.bd (r25_ints_W (lkSPlayer_Hand (show lkSPlayer e8 from lkL_mem (lkSState_Players k_a0) q_e8.1))) (fun r9 q_r9 => ?_)
          replace q_r9 : lkL 8 lkT r9 := q_r9
          refine W.rt ?_
          exact q_r9
        · try simp only [bb_3, bz] at hh_5
          refine W.if (fun hh_7 => ?_) (fun hh_7 => ?_)
          · try simp only [bb_3, bz] at hh_7
            have ll_8 : a0.Players.length ≤ 140737488355328 := lkL_len (by decide) (lkSState_Players k_a0)
            refine W.bd (W.idx (by omega)) (fun e11 q_e11 => ?_)
            refine W.bd (r25_ints_W (lkSPlayer_Library (show lkSPlayer e11 from lkL_mem (lkSState_Players k_a0) q_e11.1))) (fun r12 q_r12 => ?_)
            replace q_r12 : lkL 8 lkT r12 := q_r12
            refine W.rt ?_
            exact q_r12
          · try simp only [bb_3, bz] at hh_7
            refine W.if (fun hh_9 => ?_) (fun hh_9 => ?_)
            · try simp only [bb_3, bz] at hh_9
              have ll_10 : a0.Players.length ≤ 140737488355328 := lkL_len (by decide) (lkSState_Players k_a0)
              refine W.bd (W.idx (by omega)) (fun e14 q_e14 => ?_)
              refine W.bd (r25_ints_W (lkSPlayer_Graveyard (show lkSPlayer e14 from lkL_mem (lkSState_Players k_a0) q_e14.1))) (fun r15 q_r15 => ?_)
              replace q_r15 : lkL 8 lkT r15 := q_r15
              refine W.rt ?_
              exact q_r15
            · try simp only [bb_3, bz] at hh_9
              refine W.rt ?_
              exact lkL_nil
theorem r17_Same_W {a0 : SEffect} {a1 : SEffect} (k_a0 : lkSEffect a0) (k_a1 : lkSEffect a1) : W (r17_Same a0 a1) (fun r => True) := by
  unfold r17_Same
  refine W.lt (fun b1 bb_1 => ?_)
  refine W.lt (fun b2 bb_2 => ?_)
  refine W.lt (fun b3 bb_3 => ?_)
  refine W.lt (fun b4 bb_4 => ?_)
  refine W.lt (fun b5 bb_5 => ?_)
  refine W.lt (fun b6 bb_6 => ?_)
  refine W.lt (fun b7 bb_7 => ?_)
  refine W.gb (fun gg_8 => by try simp only [bb_1, bb_2, bb_3, bb_4, bb_5, bb_6, bb_7, bz] at gg_8; exact r17_SameMods_W (lkSEffect_Mods k_a0) (lkSEffect_Mods k_a1)) (fun r8 q_r8 => ?_)
  refine W.lt (fun b9 bb_9 => ?_)
  exact W.rt trivial
theorem zone_Find_W {a0 : SState} {a1 : Int} (k_a0 : lkSState a0) : W (zone_Find a0 a1) (fun r => True) := by
  unfold zone_Find
  refine W.bd (zone_place_W k_a0) (fun r1 q_r1 => ?_)
  replace q_r1 : -1 ≤ r1 ∧ r1 < a0.Objects.length := q_r1
  have ll_1 : a0.Objects.length ≤ 140737488355328 := lkL_len (by decide) (lkSState_Objects k_a0)
  refine W.if (fun hh_2 => ?_) (fun hh_2 => ?_)
  · try simp only [bz] at hh_2
    exact W.rt trivial
  · try simp only [bz] at hh_2
    refine W.bd (W.idx (by omega)) (fun e3 q_e3 => ?_)
    exact W.rt trivial
theorem event_creates_W {a0 : List (SCard)} {a1 : SState} {a2 : SEvent} (k_a0 : lkL 176 lkSCard a0) (k_a1 : lkSState a1) : W (event_creates a0 a1 a2) (fun r => True) := by
  unfold event_creates
  refine W.bd (event_living_W k_a1) (fun r1 q_r1 => ?_)
  refine W.lt (fun b2 bb_1 => ?_)
  refine W.lt (fun b3 bb_2 => ?_)
  refine W.gb (fun gg_3 => by try simp only [bb_1, bb_2, bz] at gg_3; have ll_4 : a0.length ≤ 140737488355328 := lkL_len (by decide) k_a0; exact W.idx (by omega)) (fun e4 q_e4 => ?_)
  refine W.lt (fun b5 bb_5 => ?_)
  refine W.gb (fun gg_6 => by try simp only [bb_1, bb_2, bb_5, bz] at gg_6; exact event_amount_W) (fun r6 q_r6 => ?_)
  refine W.lt (fun b7 bb_7 => ?_)
  exact W.rt trivial
theorem r10_IsSub_W {a0 : List UInt8} (k_a0 : lkS a0) : W (r10_IsSub a0) (fun r => r = true → a0.length ≤ 32) := by
  unfold r10_IsSub
  refine W.bd (r02_Is_W k_a0) (fun r1 q_r1 => ?_)
  replace q_r1 : r1 = true → a0.length ≤ 32 := q_r1
  have ll_1 : a0.length ≤ 140737488355328 := k_a0
  refine W.gb (fun gg_2 => by try simp only [bz] at gg_2; exact r10_superWords_W) (fun r2 q_r2 => ?_)
  refine W.gb (fun gg_3 => by have qq_4 : r2.length = 2 ∧ ∀ y ∈ r2, y.length ≤ 40 := q_r2 gg_3; obtain ⟨qq_4_1, qq_4_2⟩ := qq_4; try simp only [bz] at gg_3; exact r10_index_W (lkL_words (by assumption) (by omega) (by omega))) (fun r3 q_r3 => ?_)
  refine W.lt (fun b4 bb_5 => ?_)
  refine W.gb (fun gg_6 => by try simp only [bb_5, bz] at gg_6; exact r10_typeWords_W) (fun r5 q_r5 => ?_)
  refine W.gb (fun gg_7 => by have qq_8 : r5.length = 6 ∧ ∀ y ∈ r5, y.length ≤ 40 := q_r5 gg_7; obtain ⟨qq_8_1, qq_8_2⟩ := qq_8; try simp only [bb_5, bz] at gg_7; exact r10_index_W (lkL_words (by assumption) (by omega) (by omega))) (fun r6 q_r6 => ?_)
  refine W.lt (fun b7 bb_9 => ?_)
  refine W.rt ?_
  first | assumption | omega | (simp only [bb_5, bb_9, bz]; omega) | (simp only [bb_5, bb_9, bz]; intros; omega) | (intros; simp only [bb_5, bb_9, bz] at *; omega) | exact ⟨by simp, by simp⟩ | decide | simp_all
theorem r10_TypesText_W {a0 : Int} : W (r10_TypesText a0) (fun r => r.length ≤ 500) := by
  unfold r10_TypesText
  refine W.lt (fun b1 bb_1 => ?_)
  refine W.if (fun hh_2 => ?_) (fun hh_2 => ?_)
  · try simp only [bb_1, bz] at hh_2
    refine W.rt ?_
    first | assumption | omega | (simp only [bb_1, bz]; omega) | (simp only [bb_1, bz]; intros; omega) | (intros; simp only [bb_1, bz] at *; omega) | exact ⟨by simp, by simp⟩ | decide | simp_all
  · try simp only [bb_1, bz] at hh_2
    refine W.bd (r10_typeWords_W) (fun r3 q_r3 => ?_)
    replace q_r3 : r3.length = 6 ∧ ∀ y ∈ r3, y.length ≤ 40 := q_r3
    obtain ⟨q_r3_1, q_r3_2⟩ := q_r3
    have ll_3 : str_x2b.length = 1 := rfl
    refine W.bd (r10_joined_W (lkL_words (by assumption) (by omega) (by omega)) (by unfold lkS; omega) (by first | assumption | omega | exact wrapu64_bd _ | (simp; done) | (simp; omega)) (by first | assumption | omega | exact wrapu64_bd _ | (simp; done) | (simp; omega)) (by first | assumption | omega | exact wrapu64_bd _ | (simp; done) | (simp; omega))) (fun r4 q_r4 => ?_)
    replace q_r4 : r4.length ≤ 500 := q_r4
    refine W.rt ?_
    first | assumption | omega | (simp only [bb_1, bz]; omega) | (simp only [bb_1, bz]; intros; omega) | (intros; simp only [bb_1, bz] at *; omega) | exact ⟨by simp, by simp⟩ | decide | simp_all
theorem r11_Text_W {a0 : Int} : W (r11_Text a0) (fun r => r.length ≤ 1000) := by
  unfold r11_Text
  refine W.bd (r11_Is_W) (fun r1 q_r1 => ?_)
  refine W.if (fun hh_1 => ?_) (fun hh_1 => ?_)
  · try simp only [bz] at hh_1
    refine W.rt ?_
    first | assumption | omega | (simp only [bz]; omega) | (simp only [bz]; intros; omega) | (intros; simp only [bz] at *; omega) | exact ⟨by simp, by simp⟩ | decide | simp_all
  · try simp only [bz] at hh_1
    refine W.it (fun (v : Int × (List UInt8) × Int) => 0 ≤ v.2.2 ∧ v.2.2 ≤ 17 ∧ (v.2.1.length : Int) ≤ 50 * v.2.2) (fun v => (17 - v.2.2).toNat) ?_ ?_ (fun v hv => ?_)
    · (try dsimp only); first | omega | (simp; omega) | (and_intros <;> first | omega | assumption | (simp; omega) | simp)
    · (try dsimp only); first | omega | (simp; omega) | (and_intros <;> first | omega | assumption | (simp; omega) | simp)
    · obtain ⟨mask_t0_9, s_t3_10, i_t4_11⟩ := v
      replace hv : 0 ≤ i_t4_11 ∧ i_t4_11 ≤ 17 ∧ (s_t3_10.length : Int) ≤ 50 * i_t4_11 := hv
      show W (r11_Text_B13 mask_t0_9 s_t3_10 i_t4_11) _
      unfold r11_Text_B13
      refine W.if (fun hh_2 => ?_) (fun hh_2 => ?_)
      · try simp only [bz] at hh_2
        refine W.if (fun hh_3 => ?_) (fun hh_3 => ?_)
        · try simp only [bz] at hh_3
          refine W.if (fun hh_4 => ?_) (fun hh_4 => ?_)
          · try simp only [bz] at hh_4
            have ll_5 : str_x2b.length = 1 := rfl
            refine W.bd (W.cat (by first | omega | (simp; omega))) (fun s23 q_s23 => ?_)
            replace q_s23 : s23.length = (s_t3_10).length + (str_x2b).length := q_s23.2
            unfold r11_Text_J19
            refine W.bd (r11_Name_W) (fun r20 q_r20 => ?_)
            replace q_r20 : r20.length ≤ 40 := q_r20
            refine W.bd (W.cat (by first | omega | (simp; omega))) (fun s21 q_s21 => ?_)
            replace q_s21 : s21.length = (s23).length + (r20).length := q_s21.2
            unfold r11_Text_J16
            have ww_6 : wrap64 (i_t4_11 + (1 : Int)) = i_t4_11 + (1 : Int) := wrap64_id (by omega) (by omega)
            exact W.nx (by (try dsimp only); first | omega | (and_intros <;> first | omega | assumption) | (simp; omega)) (by (try dsimp only); omega)
          · try simp only [bz] at hh_4
            unfold r11_Text_J19
            refine W.bd (r11_Name_W) (fun r20 q_r20 => ?_)
            replace q_r20 : r20.length ≤ 40 := q_r20
            refine W.bd (W.cat (by first | omega | (simp; omega))) (fun s21 q_s21 => ?_)
            replace q_s21 : s21.length = (s_t3_10).length + (r20).length := q_s21.2
            unfold r11_Text_J16
            have ww_7 : wrap64 (i_t4_11 + (1 : Int)) = i_t4_11 + (1 : Int) := wrap64_id (by omega) (by omega)
            exact W.nx (by (try dsimp only); first | omega | (and_intros <;> first | omega | assumption) | (simp; omega)) (by (try dsimp only); omega)
        · try simp only [bz] at hh_3
          unfold r11_Text_J16
          have ww_8 : wrap64 (i_t4_11 + (1 : Int)) = i_t4_11 + (1 : Int) := wrap64_id (by omega) (by omega)
          exact W.nx (by (try dsimp only); first | omega | (and_intros <;> first | omega | assumption) | (simp; omega)) (by (try dsimp only); omega)
      · try simp only [bz] at hh_2
        refine W.ex ?_
        try dsimp only [Sum.elim_inl, Sum.elim_inr]
        unfold r11_Text_J4
        refine W.if (fun hh_9 => ?_) (fun hh_9 => ?_)
        · try simp only [bz] at hh_9
          refine W.rt ?_
          have ll_10 : str_none.length = 4 := rfl
          first | assumption | omega | (simp only [bz]; omega) | (simp only [bz]; intros; omega) | (intros; simp only [bz] at *; omega) | exact ⟨by simp, by simp⟩ | decide | simp_all
        · try simp only [bz] at hh_9
          refine W.rt ?_
          first | assumption | omega | (simp only [bz]; omega) | (simp only [bz]; intros; omega) | (intros; simp only [bz] at *; omega) | exact ⟨by simp, by simp⟩ | decide | simp_all
theorem r13_boundWord_W {a0 : List UInt8} {a1 : SBound} (k_a0 : lkS a0) (p_0 : a0.length ≤ 10) (p_1 : 0 ≤ a1.Kind ∧ a1.Kind ≤ 3) : W (r13_boundWord a0 a1) (fun r => r.length ≤ 100) := by
  unfold r13_boundWord
  refine W.if (fun hh_1 => ?_) (fun hh_1 => ?_)
  · try simp only [bz] at hh_1
    refine W.rt ?_
    first | assumption | omega | (simp only [bz]; omega) | (simp only [bz]; intros; omega) | (intros; simp only [bz] at *; omega) | exact ⟨by simp, by simp⟩ | decide | simp_all
  · try simp only [bz] at hh_1
    refine W.bd (r13_signs_W) (fun r2 q_r2 => ?_)
    replace q_r2 : r2.length = 4 ∧ ∀ y ∈ r2, y.length ≤ 40 := q_r2
    obtain ⟨q_r2_1, q_r2_2⟩ := q_r2
    refine W.bd (W.idx (by omega)) (fun e3 q_e3 => ?_)
    have ll_2 := q_r2_2 e3 q_e3.1
    have ll_3 : a0.length ≤ 140737488355328 := k_a0
    refine W.bd (W.cat (by first | omega | (simp; omega))) (fun s4 q_s4 => ?_)
    replace q_s4 : s4.length = (a0).length + (e3).length := q_s4.2
    refine W.bd (r01_Text_W) (fun r5 q_r5 => ?_)
    replace q_r5 : r5.length ≤ 21 := q_r5
    refine W.bd (W.cat (by first | omega | (simp; omega))) (fun s6 q_s6 => ?_)
    replace q_s6 : s6.length = (s4).length + (r5).length := q_s6.2
    refine W.rt ?_
    first | assumption | omega | (simp only [bz]; omega) | (simp only [bz]; intros; omega) | (intros; simp only [bz] at *; omega) | exact ⟨by simp, by simp⟩ | decide | simp_all
theorem r08_Text_J6_W {a0 : SCost} {s_t3_5 : List UInt8} (p_0 : ∀ i : Int, 0 ≤ i → i < 5 → a0.Color.l.getD i.toNat default ≤ 9) (p_1 : s_t3_5.length ≤ 40) : W (r08_Text_J6 a0 s_t3_5) (fun r => True) := by
  unfold r08_Text_J6
  refine W.it (fun (v : (List UInt8) × Int) => 0 ≤ v.2 ∧ v.2 ≤ 5 ∧ (v.1.length : Int) ≤ 40 + 9 * v.2) (fun v => (5 - v.2).toNat) ?_ ?_ (fun v hv => ?_)
  · (try dsimp only); first | omega | (simp; omega) | (and_intros <;> first | omega | assumption | (simp; omega) | simp)
  · (try dsimp only); first | omega | (simp; omega) | (and_intros <;> first | omega | assumption | (simp; omega) | simp)
  · obtain ⟨s_t3_12, i_t5_13⟩ := v
    replace hv : 0 ≤ i_t5_13 ∧ i_t5_13 ≤ 5 ∧ (s_t3_12.length : Int) ≤ 40 + 9 * i_t5_13 := hv
    show W (r08_Text_B15 a0 s_t3_12 i_t5_13) _
    unfold r08_Text_B15
    refine W.if (fun hh_1 => ?_) (fun hh_1 => ?_)
    · try simp only [bz] at hh_1
      refine W.it (fun (v : (List UInt8) × Int) => 0 ≤ v.2 ∧ v.2 ≤ 9 ∧ (v.1.length : Int) ≤ 40 + 9 * i_t5_13 + v.2) (fun v => (9 - v.2).toNat) ?_ ?_ (fun v hv => ?_)
      · (try dsimp only); first | omega | (simp; omega) | (and_intros <;> first | omega | assumption | (simp; omega) | simp)
      · (try dsimp only); first | omega | (simp; omega) | (and_intros <;> first | omega | assumption | (simp; omega) | simp)
      · obtain ⟨s_t3_21, k_t6_22⟩ := v
        replace hv : 0 ≤ k_t6_22 ∧ k_t6_22 ≤ 9 ∧ (s_t3_21.length : Int) ≤ 40 + 9 * i_t5_13 + k_t6_22 := hv
        show W (r08_Text_B24 a0 i_t5_13 s_t3_21 k_t6_22) _
        unfold r08_Text_B24
        have ll_2 : a0.Color.l.length = 5 := rfl
        refine W.bd (W.idx (by omega)) (fun e25 q_e25 => ?_)
        have ee := p_0 i_t5_13 (by omega) (by omega); rw [← q_e25.2.1] at ee
        refine W.if (fun hh_3 => ?_) (fun hh_3 => ?_)
        · try simp only [bz] at hh_3
          have ll_4 : str_ACJRE.length = 5 := rfl
          have ww_5 : wrap64 (i_t5_13 + (1 : Int)) = i_t5_13 + (1 : Int) := wrap64_id (by omega) (by omega)
          refine W.bd (W.ssub (by omega)) (fun s27 q_s27 => ?_)
          replace q_s27 : (s27.length : Int) = (wrap64 (i_t5_13 + (1 : Int))) - i_t5_13 := q_s27
          refine W.bd (W.cat (by first | omega | (simp; omega))) (fun s28 q_s28 => ?_)
          replace q_s28 : s28.length = (s_t3_21).length + (s27).length := q_s28.2
          have ww_6 : wrap64 (k_t6_22 + (1 : Int)) = k_t6_22 + (1 : Int) := wrap64_id (by omega) (by omega)
          exact W.nx (by (try dsimp only); first | omega | (and_intros <;> first | omega | assumption) | (simp; omega)) (by (try dsimp only); omega)
        · try simp only [bz] at hh_3
          refine W.ex ?_
          try dsimp only [Sum.elim_inl, Sum.elim_inr]
          unfold r08_Text_J18
          have ww_7 : wrap64 (i_t5_13 + (1 : Int)) = i_t5_13 + (1 : Int) := wrap64_id (by omega) (by omega)
          exact W.nx (by (try dsimp only); first | omega | (and_intros <;> first | omega | assumption) | (simp; omega)) (by (try dsimp only); omega)
    · try simp only [bz] at hh_1
      refine W.ex ?_
      try dsimp only [Sum.elim_inl, Sum.elim_inr]
      unfold r08_Text_J8
      refine W.if (fun hh_8 => ?_) (fun hh_8 => ?_)
      · try simp only [bz] at hh_8
        exact W.rt trivial
      · try simp only [bz] at hh_8
        exact W.rt trivial
theorem r08_Text_J4_W {a0 : SCost} {s_t3_3 : List UInt8} (k_s_t3_3 : lkS s_t3_3) (p_0 : ∀ i : Int, 0 ≤ i → i < 5 → a0.Color.l.getD i.toNat default ≤ 9) (p_1 : s_t3_3.length ≤ 2) : W (r08_Text_J4 a0 s_t3_3) (fun r => True) := by
  unfold r08_Text_J4
  refine W.if (fun hh_1 => ?_) (fun hh_1 => ?_)
  · try simp only [bz] at hh_1
    refine W.bd (r01_Text_W) (fun r30 q_r30 => ?_)
    replace q_r30 : r30.length ≤ 21 := q_r30
    have ll_2 : s_t3_3.length ≤ 140737488355328 := k_s_t3_3
    refine W.bd (W.cat (by first | omega | (simp; omega))) (fun s31 q_s31 => ?_)
    replace q_s31 : s31.length = (s_t3_3).length + (r30).length := q_s31.2
    have ll_3 : a0.Color.l.length = 5 := rfl
    exact r08_Text_J6_W (by first | assumption | omega | exact wrapu64_bd _ | (simp; done) | (simp; omega)) (by first | assumption | omega | exact wrapu64_bd _ | (simp; done) | (simp; omega))
  · try simp only [bz] at hh_1
    have ll_5 : a0.Color.l.length = 5 := rfl
    have ll_6 : s_t3_3.length ≤ 140737488355328 := k_s_t3_3
    exact r08_Text_J6_W (by first | assumption | omega | exact wrapu64_bd _ | (simp; done) | (simp; omega)) (by first | assumption | omega | exact wrapu64_bd _ | (simp; done) | (simp; omega))
theorem r08_Text_W {a0 : SCost} : W (r08_Text a0) (fun r => True) := by
  unfold r08_Text
  refine W.bd (r08_Is_W) (fun r1 q_r1 => ?_)
  replace q_r1 : r1 = true → a0.X ≤ 2 ∧ ∀ i : Int, 0 ≤ i → i < 5 → a0.Color.l.getD i.toNat default ≤ 9 := q_r1
  have ll_1 : a0.Color.l.length = 5 := rfl
  refine W.if (fun hh_2 => ?_) (fun hh_2 => ?_)
  · try simp only [bz] at hh_2
    exact W.rt trivial
  · try simp only [bz] at hh_2
    have qq_3 := q_r1 hh_2
    have qq_4 := qq_3.2
    refine W.it (fun (v : (List UInt8) × Int) => 0 ≤ v.2 ∧ v.2 ≤ 2 ∧ (v.1.length : Int) ≤ v.2) (fun v => (2 - v.2).toNat) ?_ ?_ (fun v hv => ?_)
    · (try dsimp only); first | omega | (simp; omega) | (and_intros <;> first | omega | assumption | (simp; omega) | simp)
    · (try dsimp only); first | omega | (simp; omega) | (and_intros <;> first | omega | assumption | (simp; omega) | simp)
    · obtain ⟨s_t3_34, i_t4_35⟩ := v
      replace hv : 0 ≤ i_t4_35 ∧ i_t4_35 ≤ 2 ∧ (s_t3_34.length : Int) ≤ i_t4_35 := hv
      show W (r08_Text_B37 a0 s_t3_34 i_t4_35) _
      unfold r08_Text_B37
      refine W.if (fun hh_5 => ?_) (fun hh_5 => ?_)
      · try simp only [bz] at hh_5
        have ll_6 : str_X.length = 1 := rfl
        refine W.bd (W.cat (by first | omega | (simp; omega))) (fun s39 q_s39 => ?_)
        replace q_s39 : s39.length = (s_t3_34).length + (str_X).length := q_s39.2
        have ww_7 : wrap64 (i_t4_35 + (1 : Int)) = i_t4_35 + (1 : Int) := wrap64_id (by omega) (by omega)
        exact W.nx (by (try dsimp only); first | omega | (and_intros <;> first | omega | assumption) | (simp; omega)) (by (try dsimp only); omega)
      · try simp only [bz] at hh_5
        refine W.ex ?_
        try dsimp only [Sum.elim_inl, Sum.elim_inr]
        exact r08_Text_J4_W (by unfold lkS; omega) (by first | assumption | omega | exact wrapu64_bd _ | (simp; done) | (simp; omega)) (by first | assumption | omega | exact wrapu64_bd _ | (simp; done) | (simp; omega))
theorem r26_object_W {a0 : SState} {a1 : Int} (k_a0 : lkSState a0) : W (r26_object a0 a1) (fun r => True) := by
  unfold r26_object
  refine W.bd (r25_Find_W k_a0) (fun r1 q_r1 => ?_)
  exact W.rt trivial
theorem r26_placed_W {a0 : SState} {a1 : SObject} (k_a0 : lkSState a0) : W (r26_placed a0 a1) (fun r => True) := by
  unfold r26_placed
  refine W.if (fun hh_1 => ?_) (fun hh_1 => ?_)
  · try simp only [bz] at hh_1
    refine W.bd (r26_spells_W k_a0) (fun r2 q_r2 => ?_)
    exact W.rt trivial
  · try simp only [bz] at hh_1
    refine W.bd (r25_List_W k_a0) (fun r3 q_r3 => ?_)
    replace q_r3 : lkL 8 lkT r3 := q_r3
    refine W.bd (r26_times_W q_r3) (fun r4 q_r4 => ?_)
    exact W.rt trivial
theorem r17_SameList_W {a0 : List (SEffect)} {a1 : List (SEffect)} (k_a0 : lkL 560 lkSEffect a0) (k_a1 : lkL 560 lkSEffect a1) : W (r17_SameList a0 a1) (fun r => True) := by
  unfold r17_SameList
  have ll_1 : a0.length ≤ 140737488355328 := lkL_len (by decide) k_a0
  have ll_2 : a1.length ≤ 140737488355328 := lkL_len (by decide) k_a1
  refine W.if (fun hh_3 => ?_) (fun hh_3 => ?_)
  · try simp only [bz] at hh_3
    exact W.rt trivial
  · try simp only [bz] at hh_3
    refine W.it (fun (v : Int) => 0 ≤ v ∧ (v ≤ (a0.length : Int) ∨ v ≤ 0)) (fun v => ((a0.length : Int) - v).toNat) ?_ ?_ (fun v hv => ?_)
    · (try dsimp only); first | omega | (simp; omega) | (and_intros <;> first | omega | assumption | (simp; omega) | simp)
    · (try dsimp only); first | omega | (simp; omega) | (and_intros <;> first | omega | assumption | (simp; omega) | simp)
    · obtain ⟨i_t5_4, hv0⟩ : ∃ x, x = v := ⟨v, rfl⟩
      subst hv0
      replace hv : 0 ≤ i_t5_4 ∧ (i_t5_4 ≤ (a0.length : Int) ∨ i_t5_4 ≤ 0) := hv
      show W (r17_SameList_B5 a0 a1 i_t5_4) _
      unfold r17_SameList_B5
      refine W.if (fun hh_4 => ?_) (fun hh_4 => ?_)
      · try simp only [bz] at hh_4
        refine W.bd (W.idx (by omega)) (fun e7 q_e7 => ?_)
        refine W.bd (W.idx (by omega)) (fun e8 q_e8 => ?_)
        refine W.bd (r17_Same_W (show lkSEffect e7 from lkL_mem k_a0 q_e7.1) (show lkSEffect e8 from lkL_mem k_a1 q_e8.1)) (fun r9 q_r9 => ?_)
        refine W.if (fun hh_5 => ?_) (fun hh_5 => ?_)
        · try simp only [bz] at hh_5
          refine W.ex ?_
          try dsimp only [Sum.elim_inl, Sum.elim_inr]
          exact W.rt trivial
        · try simp only [bz] at hh_5
          have ww_6 : wrap64 (i_t5_4 + (1 : Int)) = i_t5_4 + (1 : Int) := wrap64_id (by omega) (by omega)
          exact W.nx (by (try dsimp only); first | omega | (and_intros <;> first | omega | assumption) | (simp; omega)) (by (try dsimp only); omega)
      · try simp only [bz] at hh_4
        refine W.ex ?_
        try dsimp only [Sum.elim_inl, Sum.elim_inr]
        unfold r17_SameList_J2
        exact W.rt trivial
theorem event_fielded_W {a0 : SState} {a1 : Int} (k_a0 : lkSState a0) : W (event_fielded a0 a1) (fun r => True) := by
  unfold event_fielded
  refine W.bd (zone_Find_W k_a0) (fun r1 q_r1 => ?_)
  refine W.lt (fun b2 bb_1 => ?_)
  exact W.rt trivial
theorem r32_in_W {a0 : SState} {a1 : Int} {a2 : Int} (k_a0 : lkSState a0) : W (r32_in a0 a1 a2) (fun r => True) := by
  unfold r32_in
  refine W.bd (r25_Find_W k_a0) (fun r1 q_r1 => ?_)
  refine W.lt (fun b2 bb_1 => ?_)
  exact W.rt trivial
theorem r10_Is_W {a0 : SLine} (k_a0 : lkSLine a0) : W (r10_Is a0) (fun r => True) := by
  unfold r10_Is
  refine W.lt (fun b1 bb_1 => ?_)
  refine W.lt (fun b2 bb_2 => ?_)
  refine W.lt (fun b3 bb_3 => ?_)
  refine W.lt (fun b4 bb_4 => ?_)
  refine W.if (fun hh_5 => ?_) (fun hh_5 => ?_)
  · try simp only [bb_1, bb_2, bb_3, bb_4, bz] at hh_5
    exact W.rt trivial
  · try simp only [bb_1, bb_2, bb_3, bb_4, bz] at hh_5
    have ll_6 : a0.Subs.length ≤ 140737488355328 := lkL_len (by decide) (lkSLine_Subs k_a0)
    refine W.it (fun (v : Int) => 0 ≤ v ∧ (v ≤ (a0.Subs.length : Int) ∨ v ≤ 0)) (fun v => ((a0.Subs.length : Int) - v).toNat) ?_ ?_ (fun v hv => ?_)
    · (try dsimp only); first | omega | (simp; omega) | (and_intros <;> first | omega | assumption | (simp; omega) | simp)
    · (try dsimp only); first | omega | (simp; omega) | (and_intros <;> first | omega | assumption | (simp; omega) | simp)
    · obtain ⟨vt3_13, hv0⟩ : ∃ x, x = v := ⟨v, rfl⟩
      subst hv0
      replace hv : 0 ≤ vt3_13 ∧ (vt3_13 ≤ (a0.Subs.length : Int) ∨ vt3_13 ≤ 0) := hv
      show W (r10_Is_B14 a0 vt3_13) _
      unfold r10_Is_B14
      refine W.if (fun hh_7 => ?_) (fun hh_7 => ?_)
      · try simp only [bb_1, bb_2, bb_3, bb_4, bz] at hh_7
        refine W.bd (W.idx (by omega)) (fun e16 q_e16 => ?_)
        refine W.bd (r10_IsSub_W (show lkS e16 from lkL_mem (lkSLine_Subs k_a0) q_e16.1)) (fun r17 q_r17 => ?_)
        replace q_r17 : r17 = true → e16.length ≤ 32 := q_r17
        have ll_8 : e16.length ≤ 140737488355328 := (show lkS e16 from lkL_mem (lkSLine_Subs k_a0) q_e16.1)
        refine W.gb (fun gg_9 => by try simp only [bb_1, bb_2, bb_3, bb_4, bz] at gg_9; exact W.idx (by have ww_10 : wrap64 (vt3_13 - (1 : Int)) = vt3_13 - (1 : Int) := wrap64_id (by omega) (by omega); omega)) (fun e18 q_e18 => ?_)
        refine W.gb (fun gg_11 => by try simp only [bb_1, bb_2, bb_3, bb_4, bz] at gg_11; exact W.idx (by omega)) (fun e19 q_e19 => ?_)
        refine W.lt (fun b20 bb_12 => ?_)
        refine W.lt (fun b21 bb_13 => ?_)
        refine W.if (fun hh_14 => ?_) (fun hh_14 => ?_)
        · try simp only [bb_1, bb_2, bb_3, bb_4, bb_12, bb_13, bz] at hh_14
          refine W.ex ?_
          try dsimp only [Sum.elim_inl, Sum.elim_inr]
          exact W.rt trivial
        · try simp only [bb_1, bb_2, bb_3, bb_4, bb_12, bb_13, bz] at hh_14
          have ww_15 : wrap64 (vt3_13 + (1 : Int)) = vt3_13 + (1 : Int) := wrap64_id (by omega) (by omega)
          exact W.nx (by (try dsimp only); first | omega | (and_intros <;> first | omega | assumption) | (simp; omega)) (by (try dsimp only); omega)
      · try simp only [bb_1, bb_2, bb_3, bb_4, bz] at hh_7
        refine W.ex ?_
        try dsimp only [Sum.elim_inl, Sum.elim_inr]
        unfold r10_Is_J6
        refine W.lt (fun b7 bb_16 => ?_)
        refine W.gb (fun gg_17 => by try simp only [bb_1, bb_2, bb_3, bb_4, bb_16, bz] at gg_17; exact r10_bit_W (by first | assumption | omega | exact wrapu64_bd _ | (simp; done) | (simp; omega))) (fun r8 q_r8 => ?_)
        refine W.gb (fun gg_18 => by try simp only [bb_1, bb_2, bb_3, bb_4, bb_16, bz] at gg_18; exact r10_bit_W (by first | assumption | omega | exact wrapu64_bd _ | (simp; done) | (simp; omega))) (fun r9 q_r9 => ?_)
        refine W.lt (fun b10 bb_19 => ?_)
        refine W.lt (fun b11 bb_20 => ?_)
        exact W.rt trivial
theorem r13_Is_W {a0 : SFilter} (k_a0 : lkSFilter a0) : W (r13_Is a0) (fun r => r = true → 0 ≤ a0.Zone ∧ a0.Zone ≤ 5 ∧ 0 ≤ a0.Who ∧ a0.Who ≤ 2 ∧ 0 ≤ a0.Self ∧ a0.Self ≤ 2 ∧ 0 ≤ a0.Tap ∧ a0.Tap ≤ 2 ∧ 0 ≤ a0.Power.Kind ∧ a0.Power.Kind ≤ 3 ∧ 0 ≤ a0.Tough.Kind ∧ a0.Tough.Kind ≤ 3 ∧ 0 ≤ a0.Value.Kind ∧ a0.Value.Kind ≤ 3 ∧ a0.Sub.length ≤ 32) := by
  unfold r13_Is
  refine W.lt (fun b1 bb_1 => ?_)
  refine W.lt (fun b2 bb_2 => ?_)
  refine W.lt (fun b3 bb_3 => ?_)
  refine W.lt (fun b4 bb_4 => ?_)
  refine W.lt (fun b5 bb_5 => ?_)
  refine W.lt (fun b6 bb_6 => ?_)
  refine W.lt (fun b7 bb_7 => ?_)
  refine W.if (fun hh_8 => ?_) (fun hh_8 => ?_)
  · try simp only [bb_1, bb_2, bb_3, bb_4, bb_5, bb_6, bb_7, bz] at hh_8
    refine W.rt ?_
    first | (intro hz; cases hz; done) | (intro hz; simp only [bb_1, bb_2, bb_3, bb_4, bb_5, bb_6, bb_7, bz] at hz; have hS : a0.Sub.length ≤ 32 := (by by_cases hs : a0.Sub = []; (rw [hs]; decide); (simp_all)); have h1 := q_r18 hz.1.1; have h2 := q_r19 (by simp only [bz]; exact hz.1.1) hz.1.2; have h3 := q_r21 (by simp only [bb_1, bb_2, bb_3, bb_4, bb_5, bb_6, bb_7, bz]; exact hz.1) hz.2; omega)
  · try simp only [bb_1, bb_2, bb_3, bb_4, bb_5, bb_6, bb_7, bz] at hh_8
    refine W.bd (r13_apart_W) (fun r9 q_r9 => ?_)
    refine W.gb (fun gg_9 => by try simp only [bb_1, bb_2, bb_3, bb_4, bb_5, bb_6, bb_7, bz] at gg_9; exact r13_apart_W) (fun r10 q_r10 => ?_)
    refine W.lt (fun b11 bb_10 => ?_)
    refine W.if (fun hh_11 => ?_) (fun hh_11 => ?_)
    · try simp only [bb_1, bb_2, bb_3, bb_4, bb_5, bb_6, bb_7, bb_10, bz] at hh_11
      refine W.rt ?_
      first | (intro hz; cases hz; done) | (intro hz; simp only [bb_1, bb_2, bb_3, bb_4, bb_5, bb_6, bb_7, bb_10, bz] at hz; have hS : a0.Sub.length ≤ 32 := (by by_cases hs : a0.Sub = []; (rw [hs]; decide); (simp_all)); have h1 := q_r18 hz.1.1; have h2 := q_r19 (by simp only [bz]; exact hz.1.1) hz.1.2; have h3 := q_r21 (by simp only [bb_1, bb_2, bb_3, bb_4, bb_5, bb_6, bb_7, bb_10, bz]; exact hz.1) hz.2; omega)
    · try simp only [bb_1, bb_2, bb_3, bb_4, bb_5, bb_6, bb_7, bb_10, bz] at hh_11
      refine W.gb (fun gg_12 => by try simp only [bb_1, bb_2, bb_3, bb_4, bb_5, bb_6, bb_7, bb_10, bz] at gg_12; exact r10_IsSub_W (lkSFilter_Sub k_a0)) (fun r13 q_r13 => ?_)
      refine W.lt (fun b14 bb_13 => ?_)
      refine W.lt (fun b15 bb_14 => ?_)
      refine W.lt (fun b16 bb_15 => ?_)
      refine W.if (fun hh_16 => ?_) (fun hh_16 => ?_)
      · try simp only [bb_1, bb_2, bb_3, bb_4, bb_5, bb_6, bb_7, bb_10, bb_13, bb_14, bb_15, bz] at hh_16
        refine W.rt ?_
        first | (intro hz; cases hz; done) | (intro hz; simp only [bb_1, bb_2, bb_3, bb_4, bb_5, bb_6, bb_7, bb_10, bb_13, bb_14, bb_15, bz] at hz; have hS : a0.Sub.length ≤ 32 := (by by_cases hs : a0.Sub = []; (rw [hs]; decide); (simp_all)); have h1 := q_r18 hz.1.1; have h2 := q_r19 (by simp only [bz]; exact hz.1.1) hz.1.2; have h3 := q_r21 (by simp only [bb_1, bb_2, bb_3, bb_4, bb_5, bb_6, bb_7, bb_10, bb_13, bb_14, bb_15, bz]; exact hz.1) hz.2; omega)
      · try simp only [bb_1, bb_2, bb_3, bb_4, bb_5, bb_6, bb_7, bb_10, bb_13, bb_14, bb_15, bz] at hh_16
        refine W.bd (r13_bound_W) (fun r18 q_r18 => ?_)
        replace q_r18 : r18 = true → 0 ≤ a0.Power.Kind ∧ a0.Power.Kind ≤ 3 := q_r18
        refine W.gb (fun gg_17 => by try simp only [bb_1, bb_2, bb_3, bb_4, bb_5, bb_6, bb_7, bb_10, bb_13, bb_14, bb_15, bz] at gg_17; exact r13_bound_W) (fun r19 q_r19 => ?_)
        refine W.lt (fun b20 bb_18 => ?_)
        refine W.gb (fun gg_19 => by try simp only [bb_1, bb_2, bb_3, bb_4, bb_5, bb_6, bb_7, bb_10, bb_13, bb_14, bb_15, bb_18, bz] at gg_19; exact r13_bound_W) (fun r21 q_r21 => ?_)
        refine W.lt (fun b22 bb_20 => ?_)
        refine W.rt ?_
        first | (intro hz; cases hz; done) | (intro hz; simp only [bb_1, bb_2, bb_3, bb_4, bb_5, bb_6, bb_7, bb_10, bb_13, bb_14, bb_15, bb_18, bb_20, bz] at hz; have hS : a0.Sub.length ≤ 32 := (by by_cases hs : a0.Sub = []; (rw [hs]; decide); (simp_all)); have h1 := q_r18 hz.1.1; have h2 := q_r19 (by simp only [bz]; exact hz.1.1) hz.1.2; have h3 := q_r21 (by simp only [bb_1, bb_2, bb_3, bb_4, bb_5, bb_6, bb_7, bb_10, bb_13, bb_14, bb_15, bb_18, bb_20, bz]; exact hz.1) hz.2; omega)
theorem r13_typeWord_W {a0 : Int} (p_0 : a0 ≤ 100) : W (r13_typeWord a0) (fun r => r.length ≤ 500) := by
  unfold r13_typeWord
  refine W.it (fun (v : Int × Int) => 0 ≤ v.2 ∧ (v.2 ≤ a0 ∨ v.2 ≤ 0)) (fun v => (a0 - v.2).toNat) ?_ ?_ (fun v hv => ?_)
  · (try dsimp only); first | omega | (simp; omega) | (and_intros <;> first | omega | assumption | (simp; omega) | simp)
  · (try dsimp only); first | omega | (simp; omega) | (and_intros <;> first | omega | assumption | (simp; omega) | simp)
  · obtain ⟨mask_t3_6, k_t4_7⟩ := v
    replace hv : 0 ≤ k_t4_7 ∧ (k_t4_7 ≤ a0 ∨ k_t4_7 ≤ 0) := hv
    show W (r13_typeWord_B9 a0 mask_t3_6 k_t4_7) _
    unfold r13_typeWord_B9
    refine W.if (fun hh_1 => ?_) (fun hh_1 => ?_)
    · try simp only [bz] at hh_1
      have ww_2 : wrap64 (k_t4_7 + (1 : Int)) = k_t4_7 + (1 : Int) := wrap64_id (by omega) (by omega)
      exact W.nx (by (try dsimp only); first | omega | (and_intros <;> first | omega | assumption) | (simp; omega)) (by (try dsimp only); omega)
    · try simp only [bz] at hh_1
      refine W.ex ?_
      try dsimp only [Sum.elim_inl, Sum.elim_inr]
      unfold r13_typeWord_J2
      refine W.bd (r10_TypesText_W) (fun r3 q_r3 => ?_)
      replace q_r3 : r3.length ≤ 500 := q_r3
      refine W.rt ?_
      first | assumption | omega | (simp only [bz]; omega) | (simp only [bz]; intros; omega) | (intros; simp only [bz] at *; omega) | exact ⟨by simp, by simp⟩ | decide | simp_all
theorem r08_PoolText_W {a0 : A6 (Int)} : W (r08_PoolText a0) (fun r => True) := by
  unfold r08_PoolText
  refine W.bd (r08_cost_W) (fun r1 q_r1 => ?_)
  refine W.bd (r08_Text_W) (fun r2 q_r2 => ?_)
  exact W.rt trivial
theorem r26_list_W {a0 : SState} {a1 : List (Int)} {a2 : Int} {a3 : Int} (k_a0 : lkSState a0) (k_a1 : lkL 8 lkT a1) : W (r26_list a0 a1 a2 a3) (fun r => True) := by
  unfold r26_list
  have ll_1 : a1.length ≤ 140737488355328 := lkL_len (by decide) k_a1
  refine W.it (fun (v : Int) => 0 ≤ v ∧ (v ≤ (a1.length : Int) ∨ v ≤ 0)) (fun v => ((a1.length : Int) - v).toNat) ?_ ?_ (fun v hv => ?_)
  · (try dsimp only); first | omega | (simp; omega) | (and_intros <;> first | omega | assumption | (simp; omega) | simp)
  · (try dsimp only); first | omega | (simp; omega) | (and_intros <;> first | omega | assumption | (simp; omega) | simp)
  · obtain ⟨i_t9_3, hv0⟩ : ∃ x, x = v := ⟨v, rfl⟩
    subst hv0
    replace hv : 0 ≤ i_t9_3 ∧ (i_t9_3 ≤ (a1.length : Int) ∨ i_t9_3 ≤ 0) := hv
    show W (r26_list_B4 a0 a1 a2 a3 i_t9_3) _
    unfold r26_list_B4
    refine W.if (fun hh_2 => ?_) (fun hh_2 => ?_)
    · try simp only [bz] at hh_2
      refine W.bd (W.idx (by omega)) (fun e6 q_e6 => ?_)
      refine W.bd (r26_object_W k_a0) (fun r7 q_r7 => ?_)
      refine W.lt (fun b8 bb_3 => ?_)
      refine W.lt (fun b9 bb_4 => ?_)
      refine W.gb (fun gg_5 => by try simp only [bb_3, bb_4, bz] at gg_5; exact W.idx (by omega)) (fun e10 q_e10 => ?_)
      refine W.gb (fun gg_6 => by try simp only [bb_3, bb_4, bz] at gg_6; exact r26_times_W k_a1) (fun r11 q_r11 => ?_)
      refine W.lt (fun b12 bb_7 => ?_)
      refine W.if (fun hh_8 => ?_) (fun hh_8 => ?_)
      · try simp only [bb_3, bb_4, bb_7, bz] at hh_8
        refine W.ex ?_
        try dsimp only [Sum.elim_inl, Sum.elim_inr]
        exact W.rt trivial
      · try simp only [bb_3, bb_4, bb_7, bz] at hh_8
        have ww_9 : wrap64 (i_t9_3 + (1 : Int)) = i_t9_3 + (1 : Int) := wrap64_id (by omega) (by omega)
        exact W.nx (by (try dsimp only); first | omega | (and_intros <;> first | omega | assumption) | (simp; omega)) (by (try dsimp only); omega)
    · try simp only [bz] at hh_2
      refine W.ex ?_
      try dsimp only [Sum.elim_inl, Sum.elim_inr]
      unfold r26_list_J1
      exact W.rt trivial
def Rising (l : List SObject) : Prop := ∀ v : Int, 0 ≤ v → v < l.length → 1 ≤ (l.getD v.toNat default).Id ∧ (0 < v → (l.getD (v - 1).toNat default).Id < (l.getD v.toNat default).Id)
theorem r26_objects_W {a0 : List (SCard)} {a1 : SState} (k_a1 : lkSState a1) : W (r26_objects a0 a1) (fun r => r = true → Rising a1.Objects) := by
  unfold r26_objects
  have ll_1 : a1.Objects.length ≤ 140737488355328 := lkL_len (by decide) (lkSState_Objects k_a1)
  refine W.if (fun _ => W.rt (fun h => by cases h)) (fun _ => ?_)
  refine W.it (fun (v : Int) => 0 ≤ v ∧ v ≤ a1.Objects.length ∧ ∀ i : Int, 0 ≤ i → i < v → 1 ≤ (a1.Objects.getD i.toNat default).Id ∧ (0 < i → (a1.Objects.getD (i - 1).toNat default).Id < (a1.Objects.getD i.toNat default).Id)) (fun v => ((a1.Objects.length : Int) - v).toNat) ⟨by omega, by omega, fun i h1 h2 => by omega⟩ (by omega) (fun v hv => ?_)
  obtain ⟨v1, v2, v3⟩ := hv
  unfold r26_objects_B5
  refine W.if (fun hi => ?_) (fun hi => ?_)
  · simp only [bz] at hi
    have w1 := wrap64_id (x := v - 1) (by omega) (by omega)
    have w2 := wrap64_id (x := v + 1) (by omega) (by omega)
    refine W.bd (W.idx (by omega)) (fun e7 q7 => ?_)
    refine W.bd (r24_Is_W) (fun r8 q8 => ?_)
    refine W.lt (fun b9 h9 => ?_)
    refine W.lt (fun b10 h10 => ?_)
    refine W.gb (fun g => by simp only [bz] at g; exact W.idx (by omega)) (fun e11 q11 => ?_)
    refine W.lt (fun b12 h12 => ?_)
    refine W.lt (fun b13 h13 => ?_)
    refine W.if (fun _ => W.ex (W.rt (fun h => by cases h))) (fun hh => ?_)
    refine W.bd (r26_placed_W k_a1) (fun r15 _ => ?_)
    refine W.if (fun _ => W.ex (W.rt (fun h => by cases h))) (fun _ => ?_)
    rw [h13] at hh
    have hb : b10 = false ∧ b12 = false := by simpa only [bz] using hh
    have hc := hb.1; rw [h10, h9] at hc; simp only [bz] at hc
    have hd := hb.2; rw [h12] at hd; simp only [bz] at hd
    have k8 := q8 hc.1.1
    refine W.nx ⟨by omega, by omega, fun i k1 k2 => ?_⟩ (by omega)
    by_cases k : i < v
    · exact v3 i k1 k
    · obtain rfl : i = v := by omega
      rw [← q7.2.1]
      refine ⟨k8, fun k3 => ?_⟩
      have ke := (q11 (by simp only [bz]; exact ⟨hb.1, k3⟩)).2.1
      rw [w1] at ke
      rw [← ke]; omega
  · simp only [bz] at hi
    refine W.ex (W.rt (fun _ => fun i k1 k2 => v3 i k1 (by omega)))
theorem r20_Same_W {a0 : SAbility} {a1 : SAbility} (k_a0 : lkSAbility a0) (k_a1 : lkSAbility a1) : W (r20_Same a0 a1) (fun r => True) := by
  unfold r20_Same
  have ll_1 : a0.Specs.length ≤ 140737488355328 := lkL_len (by decide) (lkSAbility_Specs k_a0)
  have ll_2 : a1.Specs.length ≤ 140737488355328 := lkL_len (by decide) (lkSAbility_Specs k_a1)
  refine W.if (fun hh_3 => ?_) (fun hh_3 => ?_)
  · try simp only [bz] at hh_3
    exact W.rt trivial
  · try simp only [bz] at hh_3
    refine W.it (fun (v : Int) => 0 ≤ v ∧ (v ≤ (a0.Specs.length : Int) ∨ v ≤ 0)) (fun v => ((a0.Specs.length : Int) - v).toNat) ?_ ?_ (fun v hv => ?_)
    · (try dsimp only); first | omega | (simp; omega) | (and_intros <;> first | omega | assumption | (simp; omega) | simp)
    · (try dsimp only); first | omega | (simp; omega) | (and_intros <;> first | omega | assumption | (simp; omega) | simp)
    · obtain ⟨vt5_14, hv0⟩ : ∃ x, x = v := ⟨v, rfl⟩
      subst hv0
      replace hv : 0 ≤ vt5_14 ∧ (vt5_14 ≤ (a0.Specs.length : Int) ∨ vt5_14 ≤ 0) := hv
      show W (r20_Same_B15 a0 a1 vt5_14) _
      unfold r20_Same_B15
      refine W.if (fun hh_4 => ?_) (fun hh_4 => ?_)
      · try simp only [bz] at hh_4
        refine W.bd (W.idx (by omega)) (fun e17 q_e17 => ?_)
        refine W.bd (W.idx (by omega)) (fun e18 q_e18 => ?_)
        refine W.if (fun hh_5 => ?_) (fun hh_5 => ?_)
        · try simp only [bz] at hh_5
          refine W.ex ?_
          try dsimp only [Sum.elim_inl, Sum.elim_inr]
          exact W.rt trivial
        · try simp only [bz] at hh_5
          have ww_6 : wrap64 (vt5_14 + (1 : Int)) = vt5_14 + (1 : Int) := wrap64_id (by omega) (by omega)
          exact W.nx (by (try dsimp only); first | omega | (and_intros <;> first | omega | assumption) | (simp; omega)) (by (try dsimp only); omega)
      · try simp only [bz] at hh_4
        refine W.ex ?_
        try dsimp only [Sum.elim_inl, Sum.elim_inr]
        unfold r20_Same_J2
        refine W.lt (fun b3 bb_7 => ?_)
        refine W.gb (fun gg_8 => by try simp only [bb_7, bz] at gg_8; exact r17_SameMods_W (lkSAbility_Mods k_a0) (lkSAbility_Mods k_a1)) (fun r4 q_r4 => ?_)
        refine W.lt (fun b5 bb_9 => ?_)
        refine W.lt (fun b6 bb_10 => ?_)
        refine W.lt (fun b7 bb_11 => ?_)
        refine W.lt (fun b8 bb_12 => ?_)
        refine W.lt (fun b9 bb_13 => ?_)
        refine W.gb (fun gg_14 => by try simp only [bb_7, bb_9, bb_10, bb_11, bb_12, bb_13, bz] at gg_14; exact r17_SameList_W (lkSAbility_Effects k_a0) (lkSAbility_Effects k_a1)) (fun r10 q_r10 => ?_)
        refine W.lt (fun b11 bb_15 => ?_)
        refine W.lt (fun b12 bb_16 => ?_)
        exact W.rt trivial
theorem event_counts_W {a0 : SState} {a1 : SEvent} (k_a0 : lkSState a0) : W (event_counts a0 a1) (fun r => True) := by
  unfold event_counts
  refine W.bd (event_fielded_W k_a0) (fun r1 q_r1 => ?_)
  refine W.lt (fun b2 bb_1 => ?_)
  refine W.lt (fun b3 bb_2 => ?_)
  refine W.gb (fun gg_3 => by try simp only [bb_1, bb_2, bz] at gg_3; exact event_amount_W) (fun r4 q_r4 => ?_)
  refine W.lt (fun b5 bb_4 => ?_)
  exact W.rt trivial
end Go.PL
