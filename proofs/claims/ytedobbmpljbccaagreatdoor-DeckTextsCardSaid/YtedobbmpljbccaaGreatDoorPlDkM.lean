/- Plain laws of the deck chapter: sizes, checks, texts; DeckChecks, DeckTexts. -/
import Derived.Test.YtedobbmpljbccaaGreatDoorPlDkL
namespace Go.PL
open Go
set_option maxRecDepth 100000
set_option linter.all false
set_option maxHeartbeats 1000000
/-! Checks. -/
section
variable {l : List SCard} {d : SDeck} {f : SFormat}
theorem fm_card (fm : Fm l d) {i : Nat} (hi : i < d.Cards.length) : idx l (d.Cards.getD i default) = some (l.getD (d.Cards.getD i default).toNat default) ∧ (d.Cards.getD i default).toNat < l.length := by
  have := fm.card i hi
  exact ⟨idx_some (by omega), by omega⟩
/-! Names. -/
theorem W.sidxE {l : List UInt8} {i : Int} (h : 0 ≤ i ∧ i < l.length) : W (PL.sidx l i) (fun e => e = (l.getD i.toNat 0).toNat) := ⟨_, if_pos h, rfl⟩
theorem low_W {c : Int} : W (r02_low c) (fun r => r = true → 97 ≤ c ∧ c ≤ 122) := by
  unfold r02_low
  refine W.lt (fun b hb => W.rt (fun h => ?_))
  rw [hb] at h; simp only [bz] at h; exact h
theorem is_W {s : List UInt8} (hl : s.length ≤ 1000) : W (r02_Is s) (fun r => r = true → (1 ≤ s.length ∧ s.length ≤ 32) ∧ ∀ c ∈ s, c.toNat ≠ 10 ∧ c.toNat ≠ 32) := by
  unfold r02_Is
  refine W.lt (fun b1 bb_1 => ?_)
  refine W.gb (fun gg_2 => by simp only [bb_1, bz] at gg_2; exact W.sidx (by omega)) (fun c2 q_c2 => ?_)
  refine W.gb (fun gg_4 => by exact low_W) (fun r3 q_r3 => ?_)
  refine W.lt (fun b4 bb_5 => ?_)
  refine W.gb (fun gg_6 => by simp only [bb_1, bb_5, bz] at gg_6; exact W.sidx (by have ww_8 : wrap64 ((s.length : Int) - (1 : Int)) = (s.length : Int) - (1 : Int) := wrap64_id (by omega) (by omega); omega)) (fun c5 q_c5 => ?_)
  refine W.lt (fun b6 bb_9 => ?_)
  refine W.if (fun hh_10 => W.rt (fun h => by cases h)) (fun hh_10 => ?_)
  simp only [bb_1, bb_5, bb_9, bz] at hh_10
  refine W.it (fun (v : Int) => 0 ≤ v ∧ v ≤ (s.length : Int) ∧ ∀ j : Nat, (j : Int) < v → (s.getD j 0).toNat ≠ 10 ∧ (s.getD j 0).toNat ≠ 32) (fun v => ((s.length : Int) - v).toNat) ⟨by omega, by omega, fun j hj => by omega⟩ (by omega) (fun v hv => ?_)
  obtain ⟨v1, v2, v3⟩ := hv
  unfold r02_Is_B11
  refine W.if (fun hi => ?_) (fun hi => W.ex (W.rt (fun _ => ?_)))
  · simp only [bz] at hi
    refine W.bd (W.sidxE (by omega)) (fun c13 q13 => ?_)
    refine W.bd low_W (fun r14 q14 => ?_)
    refine W.gb (fun gg => W.sidxE (by omega)) (fun c15 q15 => ?_)
    refine W.gb (fun gg => W.sidxE (by omega)) (fun c16 q16 => ?_)
    refine W.lt (fun b17 h17 => ?_)
    refine W.lt (fun b18 h18 => ?_)
    refine W.gb (fun gg => W.sidxE (by omega)) (fun c19 q19 => ?_)
    refine W.lt (fun b20 h20 => ?_)
    refine W.if (fun _ => W.ex (W.rt (fun h => by cases h))) (fun h20' => ?_)
    have hx : (s.getD v.toNat 0).toNat ≠ 10 ∧ (s.getD v.toNat 0).toNat ≠ 32 := by
      cases r14
      · have e15 := q15 (by simp)
        by_cases h48 : c15 < 48
        · have e17 : b17 = true := by rw [h17]; simp [h48]
          have e18 : b18 = true := by rw [h18, e17]; rfl
          have e19 := q19 (by rw [e18]; rfl)
          rw [h20, e18] at h20'
          simp only [bz, if_true] at h20'
          omega
        · have e16 := q16 (by simp; omega)
          omega
      · have := q14 rfl
        omega
    have hnx : ∀ j : Nat, (j : Int) < v + 1 → (s.getD j 0).toNat ≠ 10 ∧ (s.getD j 0).toNat ≠ 32 := fun j hj => by
      by_cases hj' : (j : Int) < v
      · exact v3 j hj'
      · obtain rfl : j = v.toNat := by omega
        exact hx
    refine W.gb (fun gg => W.sidx (by omega)) (fun c22 q22 => ?_)
    refine W.lt (fun b23 h23 => ?_)
    refine W.gb (fun gg => by simp only [h23, bz] at gg; exact W.sidx (by have ww : wrap64 (v - (1 : Int)) = v - (1 : Int) := wrap64_id (by omega) (by omega); omega)) (fun c24 q24 => ?_)
    refine W.lt (fun b25 h25 => ?_)
    refine W.if (fun _ => W.ex (W.rt (fun h => by cases h))) (fun _ => ?_)
    rw [wrap64_id (x := v + 1) (by omega) (by omega)]
    exact W.nx ⟨by omega, by omega, hnx⟩ (by omega)
  · simp only [bz] at hi
    refine ⟨by omega, fun c hc => ?_⟩
    obtain ⟨i, h1, rfl⟩ := List.mem_iff_getElem.1 hc
    have := v3 i (by omega)
    rwa [List.getD_eq_getElem?_getD, List.getElem?_eq_getElem h1] at this
theorem is_facts {s : List UInt8} (hl : s.length ≤ 140737488355328) (h : r02_Is s = some true) : 1 ≤ s.length ∧ s.length ≤ 32 ∧ ∀ c ∈ s, c ≠ 10 ∧ c ≠ 32 := by
  have hs : s.length ≤ 1000 := by
    by_cases h2 : 32 < (s.length : Int)
    · unfold r02_Is at h
      simp [h2, gd] at h
    · omega
  obtain ⟨r, hr, q⟩ := is_W hs
  rw [h] at hr; injection hr with hr; subst hr
  obtain ⟨q1, q2⟩ := q rfl
  refine ⟨q1.1, q1.2, fun c hc => ?_⟩
  have := q2 c hc
  exact ⟨fun e => this.1 (by rw [e]; rfl), fun e => this.2 (by rw [e]; rfl)⟩
end
end Go.PL
