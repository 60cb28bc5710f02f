/- Plain laws of the mana chapter: Whole, Pay; ManaPaysAs, ManaPays. -/
import Derived.Test.YtieikooalmfmfaaDoorPlMaL
namespace Go.PL
open Go
set_option maxRecDepth 100000
set_option linter.all false
set_option maxHeartbeats 1000000
/-! Whole. -/
def wh (p : A6 Int) : Bool := bad 1000000 p.x0 || (bad 1000000 p.x1 || (bad 1000000 p.x2 || (bad 1000000 p.x3 || (bad 1000000 p.x4 || bad 1000000 p.x5))))
theorem whB (p : A6 Int) (k e : Int) (hk : k < 6) (h : idx p.l k = some e) : mana_Whole_B4 p k = (if bad 1000000 e = true then some (.inr (.inl ())) else some (.inl (wrap64 (k + 1)))) := by
  unfold mana_Whole_B4
  rw [if_pos (by simpa using hk), h]; rfl
theorem rwhB (p : A6 Int) (k e : Int) (hk : k < 6) (h : idx p.l k = some e) : r08_Whole_B4 p k = (if bad 1000000 e = true then some (.inr (.inl ())) else some (.inl (wrap64 (k + 1)))) := by
  unfold r08_Whole_B4
  rw [if_pos (by simpa using hk), h, Option.bind_some]
  exact rbg 1000000 e _ _ rfl
theorem wh_loop {B : Int → Option (Int ⊕ (Unit ⊕ Unit))} (p : A6 Int) (hB : ∀ k e, k < 6 → idx p.l k = some e → B k = (if bad 1000000 e = true then some (.inr (.inl ())) else some (.inl (wrap64 (k + 1))))) (h6 : B 6 = some (.inr (.inr ()))) :
    iter B FU 0 = some (if wh p = true then .inl () else .inr ()) := by
  have b0 : B 0 = (if bad 1000000 p.x0 = true then some (.inr (.inl ())) else some (.inl 1)) := hB 0 _ (by omega) (by kernel_rfl)
  have b1 : B 1 = (if bad 1000000 p.x1 = true then some (.inr (.inl ())) else some (.inl 2)) := hB 1 _ (by omega) (by kernel_rfl)
  have b2 : B 2 = (if bad 1000000 p.x2 = true then some (.inr (.inl ())) else some (.inl 3)) := hB 2 _ (by omega) (by kernel_rfl)
  have b3 : B 3 = (if bad 1000000 p.x3 = true then some (.inr (.inl ())) else some (.inl 4)) := hB 3 _ (by omega) (by kernel_rfl)
  have b4 : B 4 = (if bad 1000000 p.x4 = true then some (.inr (.inl ())) else some (.inl 5)) := hB 4 _ (by omega) (by kernel_rfl)
  have b5 : B 5 = (if bad 1000000 p.x5 = true then some (.inr (.inl ())) else some (.inl 6)) := hB 5 _ (by omega) (by kernel_rfl)
  rw [FU7]
  unfold wh
  cases h0 : bad 1000000 p.x0
  · cases h1 : bad 1000000 p.x1
    · cases h2 : bad 1000000 p.x2
      · cases h3 : bad 1000000 p.x3
        · cases h4 : bad 1000000 p.x4
          · cases h5 : bad 1000000 p.x5
            · simp [iter, b0, b1, b2, b3, b4, b5, h6, h0, h1, h2, h3, h4, h5]
            · simp [iter, b0, b1, b2, b3, b4, b5, h0, h1, h2, h3, h4, h5]
          · simp [iter, b0, b1, b2, b3, b4, h0, h1, h2, h3, h4]
        · simp [iter, b0, b1, b2, b3, h0, h1, h2, h3]
      · simp [iter, b0, b1, b2, h0, h1, h2]
    · simp [iter, b0, b1, h0, h1]
  · simp [iter, b0, h0]
theorem wh_eq (p : A6 Int) : mana_Whole p = some (!wh p) := by
  unfold mana_Whole
  rw [wh_loop p (whB p) (by kernel_rfl)]
  cases wh p <;> rfl
theorem rwh_eq (p : A6 Int) : r08_Whole p = some (!wh p) := by
  unfold r08_Whole
  rw [wh_loop p (rwhB p) (by kernel_rfl)]
  cases wh p <;> rfl
/-! Pay. -/
def zP : A6 Int := ⟨0, 0, 0, 0, 0, 0⟩
def zC : SCost := ⟨0, 0, ⟨0, 0, 0, 0, 0⟩⟩
structure Pl (p : A6 Int) : Prop where
  c0 : 0 ≤ p.x0 ∧ p.x0 ≤ 1000000
  c1 : 0 ≤ p.x1 ∧ p.x1 ≤ 1000000
  c2 : 0 ≤ p.x2 ∧ p.x2 ≤ 1000000
  c3 : 0 ≤ p.x3 ∧ p.x3 ≤ 1000000
  c4 : 0 ≤ p.x4 ∧ p.x4 ≤ 1000000
  c5 : 0 ≤ p.x5 ∧ p.x5 ≤ 1000000
theorem wh_ok {p : A6 Int} (h : wh p = false) : Pl p := by
  unfold wh at h
  simp only [Bool.or_eq_false_iff, bad_f] at h
  obtain ⟨a, b, c', d, e, f⟩ := h
  exact ⟨a, b, c', d, e, f⟩
def sub5 (p : A6 Int) (c : A5 Int) : A6 Int := ⟨p.x0, p.x1 - c.x0, p.x2 - c.x1, p.x3 - c.x2, p.x4 - c.x3, p.x5 - c.x4⟩
def lack (p : A6 Int) (c : A5 Int) : Bool := decide (p.x1 < c.x0) || (decide (p.x2 < c.x1) || (decide (p.x3 < c.x2) || (decide (p.x4 < c.x3) || decide (p.x5 < c.x4))))
def nd (n b : Int) : Int := n - (if b < n then b else n)
def rm (n b : Int) : Int := b - (if b < n then b else n)
theorem nd_bd {n b : Int} (hn : 0 ≤ n) (hb : 0 ≤ b) : 0 ≤ nd n b ∧ nd n b ≤ n ∧ (nd n b = 0 ∨ nd n b = n - b) ∧ n - b ≤ nd n b := by unfold nd; split <;> omega
theorem rm_bd {n b : Int} (hn : 0 ≤ n) (hb : 0 ≤ b) : 0 ≤ rm n b ∧ rm n b ≤ b ∧ rm n b = b - n + nd n b := by unfold rm nd; split <;> omega
def n1 (n : Int) (p : A6 Int) := nd n p.x0
def n2 (n : Int) (p : A6 Int) := nd (n1 n p) p.x1
def n3 (n : Int) (p : A6 Int) := nd (n2 n p) p.x2
def n4 (n : Int) (p : A6 Int) := nd (n3 n p) p.x3
def n5 (n : Int) (p : A6 Int) := nd (n4 n p) p.x4
def n6 (n : Int) (p : A6 Int) := nd (n5 n p) p.x5
def take6 (n : Int) (p : A6 Int) : A6 Int := ⟨rm n p.x0, rm (n1 n p) p.x1, rm (n2 n p) p.x2, rm (n3 n p) p.x3, rm (n4 n p) p.x4, rm (n5 n p) p.x5⟩
structure Nd (n : Int) (p : A6 Int) : Prop where
  a1 : 0 ≤ n1 n p ∧ n1 n p ≤ n ∧ (n1 n p = 0 ∨ n1 n p = n - p.x0) ∧ n - p.x0 ≤ n1 n p
  a2 : 0 ≤ n2 n p ∧ n2 n p ≤ n1 n p ∧ (n2 n p = 0 ∨ n2 n p = n1 n p - p.x1) ∧ n1 n p - p.x1 ≤ n2 n p
  a3 : 0 ≤ n3 n p ∧ n3 n p ≤ n2 n p ∧ (n3 n p = 0 ∨ n3 n p = n2 n p - p.x2) ∧ n2 n p - p.x2 ≤ n3 n p
  a4 : 0 ≤ n4 n p ∧ n4 n p ≤ n3 n p ∧ (n4 n p = 0 ∨ n4 n p = n3 n p - p.x3) ∧ n3 n p - p.x3 ≤ n4 n p
  a5 : 0 ≤ n5 n p ∧ n5 n p ≤ n4 n p ∧ (n5 n p = 0 ∨ n5 n p = n4 n p - p.x4) ∧ n4 n p - p.x4 ≤ n5 n p
  a6 : 0 ≤ n6 n p ∧ n6 n p ≤ n5 n p ∧ (n6 n p = 0 ∨ n6 n p = n5 n p - p.x5) ∧ n5 n p - p.x5 ≤ n6 n p
theorem nds {n : Int} {p : A6 Int} (hn : 0 ≤ n) (hp : Pl p) : Nd n p := by
  have a1 := nd_bd hn hp.c0.1
  have a2 := nd_bd a1.1 hp.c1.1
  have a3 := nd_bd a2.1 hp.c2.1
  have a4 := nd_bd a3.1 hp.c3.1
  have a5 := nd_bd a4.1 hp.c4.1
  exact ⟨a1, a2, a3, a4, a5, nd_bd a5.1 hp.c5.1⟩
theorem sub5_ok {p : A6 Int} {c : SCost} (hp : Pl p) (hc : Ok c) (hl : lack p c.Color = false) : Pl (sub5 p c.Color) := by
  unfold lack at hl
  simp only [Bool.or_eq_false_iff, decide_eq_false_iff_not] at hl
  obtain ⟨h1, h2, h3, h4, h5⟩ := hl
  have a := hp.c1; have b := hp.c2; have d := hp.c3; have e := hp.c4; have f := hp.c5
  have a' := hc.c0; have b' := hc.c1; have d' := hc.c2; have e' := hc.c3; have f' := hc.c4
  refine ⟨hp.c0, ?_, ?_, ?_, ?_, ?_⟩ <;> simp only [sub5] <;> omega
section
theorem pB0 (c : SCost) (q0 q1 q2 q3 q4 q5 : Int) : mana_Pay_B33 c 0 ⟨q0, q1, q2, q3, q4, q5⟩ = (if decide (wrap64 (q1 - c.Color.x0) < 0) = true then some (.inr (.inl ())) else some (.inl (1, ⟨q0, wrap64 (q1 - c.Color.x0), q2, q3, q4, q5⟩))) := by kernel_rfl
theorem pB1 (c : SCost) (q0 q1 q2 q3 q4 q5 : Int) : mana_Pay_B33 c 1 ⟨q0, q1, q2, q3, q4, q5⟩ = (if decide (wrap64 (q2 - c.Color.x1) < 0) = true then some (.inr (.inl ())) else some (.inl (2, ⟨q0, q1, wrap64 (q2 - c.Color.x1), q3, q4, q5⟩))) := by kernel_rfl
theorem pB2 (c : SCost) (q0 q1 q2 q3 q4 q5 : Int) : mana_Pay_B33 c 2 ⟨q0, q1, q2, q3, q4, q5⟩ = (if decide (wrap64 (q3 - c.Color.x2) < 0) = true then some (.inr (.inl ())) else some (.inl (3, ⟨q0, q1, q2, wrap64 (q3 - c.Color.x2), q4, q5⟩))) := by kernel_rfl
theorem pB3 (c : SCost) (q0 q1 q2 q3 q4 q5 : Int) : mana_Pay_B33 c 3 ⟨q0, q1, q2, q3, q4, q5⟩ = (if decide (wrap64 (q4 - c.Color.x3) < 0) = true then some (.inr (.inl ())) else some (.inl (4, ⟨q0, q1, q2, q3, wrap64 (q4 - c.Color.x3), q5⟩))) := by kernel_rfl
theorem pB4 (c : SCost) (q0 q1 q2 q3 q4 q5 : Int) : mana_Pay_B33 c 4 ⟨q0, q1, q2, q3, q4, q5⟩ = (if decide (wrap64 (q5 - c.Color.x4) < 0) = true then some (.inr (.inl ())) else some (.inl (5, ⟨q0, q1, q2, q3, q4, wrap64 (q5 - c.Color.x4)⟩))) := by kernel_rfl
theorem pB5 (c : SCost) (q : A6 Int) : mana_Pay_B33 c 5 q = some (.inr (.inr q)) := by kernel_rfl
theorem rpB0 (c : SCost) (t q0 q1 q2 q3 q4 q5 : Int) : r08_Pay_B34 c t 0 ⟨q0, q1, q2, q3, q4, q5⟩ = (if decide (q1 < c.Color.x0) = true then some (.inr (.inl ())) else some (.inl (wrap64 (t + wrap64 (q1 - c.Color.x0)), 1, ⟨q0, wrap64 (q1 - c.Color.x0), q2, q3, q4, q5⟩))) := by kernel_rfl
theorem rpB1 (c : SCost) (t q0 q1 q2 q3 q4 q5 : Int) : r08_Pay_B34 c t 1 ⟨q0, q1, q2, q3, q4, q5⟩ = (if decide (q2 < c.Color.x1) = true then some (.inr (.inl ())) else some (.inl (wrap64 (t + wrap64 (q2 - c.Color.x1)), 2, ⟨q0, q1, wrap64 (q2 - c.Color.x1), q3, q4, q5⟩))) := by kernel_rfl
theorem rpB2 (c : SCost) (t q0 q1 q2 q3 q4 q5 : Int) : r08_Pay_B34 c t 2 ⟨q0, q1, q2, q3, q4, q5⟩ = (if decide (q3 < c.Color.x2) = true then some (.inr (.inl ())) else some (.inl (wrap64 (t + wrap64 (q3 - c.Color.x2)), 3, ⟨q0, q1, q2, wrap64 (q3 - c.Color.x2), q4, q5⟩))) := by kernel_rfl
theorem rpB3 (c : SCost) (t q0 q1 q2 q3 q4 q5 : Int) : r08_Pay_B34 c t 3 ⟨q0, q1, q2, q3, q4, q5⟩ = (if decide (q4 < c.Color.x3) = true then some (.inr (.inl ())) else some (.inl (wrap64 (t + wrap64 (q4 - c.Color.x3)), 4, ⟨q0, q1, q2, q3, wrap64 (q4 - c.Color.x3), q5⟩))) := by kernel_rfl
theorem rpB4 (c : SCost) (t q0 q1 q2 q3 q4 q5 : Int) : r08_Pay_B34 c t 4 ⟨q0, q1, q2, q3, q4, q5⟩ = (if decide (q5 < c.Color.x4) = true then some (.inr (.inl ())) else some (.inl (wrap64 (t + wrap64 (q5 - c.Color.x4)), 5, ⟨q0, q1, q2, q3, q4, wrap64 (q5 - c.Color.x4)⟩))) := by kernel_rfl
theorem rpB5 (c : SCost) (t : Int) (q : A6 Int) : r08_Pay_B34 c t 5 q = some (.inr (.inr (t, q))) := by kernel_rfl
end
theorem w_sub {a b : Int} (ha : 0 ≤ a ∧ a ≤ 1000000) (hb : 0 ≤ b ∧ b ≤ 9) : wrap64 (a - b) = a - b := wrap64_id (by omega) (by omega)
theorem pay_loop1 {p : A6 Int} {c : SCost} (hp : Pl p) (hc : Ok c) : iter (fun (v : Int × (A6 Int)) => mana_Pay_B33 c v.1 v.2) FU (0, p) = some (if lack p c.Color = true then .inl () else .inr (sub5 p c.Color)) := by
  have w1 := w_sub hp.c1 hc.c0; have w2 := w_sub hp.c2 hc.c1; have w3 := w_sub hp.c3 hc.c2; have w4 := w_sub hp.c4 hc.c3; have w5 := w_sub hp.c5 hc.c4
  obtain ⟨p0, p1, p2, p3, p4, p5⟩ := p
  dsimp only at w1 w2 w3 w4 w5
  rw [FU7]
  unfold lack sub5
  have e1 : decide (p1 - c.Color.x0 < 0) = decide (p1 < c.Color.x0) := decide_eq_decide.2 (by omega)
  have e2 : decide (p2 - c.Color.x1 < 0) = decide (p2 < c.Color.x1) := decide_eq_decide.2 (by omega)
  have e3 : decide (p3 - c.Color.x2 < 0) = decide (p3 < c.Color.x2) := decide_eq_decide.2 (by omega)
  have e4 : decide (p4 - c.Color.x3 < 0) = decide (p4 < c.Color.x3) := decide_eq_decide.2 (by omega)
  have e5 : decide (p5 - c.Color.x4 < 0) = decide (p5 < c.Color.x4) := decide_eq_decide.2 (by omega)
  cases h0 : decide (p1 < c.Color.x0)
  · cases h1 : decide (p2 < c.Color.x1)
    · cases h2 : decide (p3 < c.Color.x2)
      · cases h3 : decide (p4 < c.Color.x3)
        · cases h4 : decide (p5 < c.Color.x4)
          · simp only [iter, pB0, pB1, pB2, pB3, pB4, pB5, w1, w2, w3, w4, w5, e1, e2, e3, e4, e5, h0, h1, h2, h3, h4, Bool.false_eq_true, if_false, if_true, Option.bind_some, Bool.or_false, Bool.or_true]
          · simp only [iter, pB0, pB1, pB2, pB3, pB4, pB5, w1, w2, w3, w4, w5, e1, e2, e3, e4, e5, h0, h1, h2, h3, h4, Bool.false_eq_true, if_false, if_true, Option.bind_some, Bool.or_false, Bool.or_true]
        · simp only [iter, pB0, pB1, pB2, pB3, pB4, pB5, w1, w2, w3, w4, w5, e1, e2, e3, e4, e5, h0, h1, h2, h3, Bool.false_eq_true, if_false, if_true, Option.bind_some, Bool.or_false, Bool.or_true, Bool.false_or, Bool.true_or]
      · simp only [iter, pB0, pB1, pB2, pB3, pB4, pB5, w1, w2, w3, w4, w5, e1, e2, e3, e4, e5, h0, h1, h2, Bool.false_eq_true, if_false, if_true, Option.bind_some, Bool.or_false, Bool.or_true, Bool.false_or, Bool.true_or]
    · simp only [iter, pB0, pB1, pB2, pB3, pB4, pB5, w1, w2, w3, w4, w5, e1, e2, e3, e4, e5, h0, h1, Bool.false_eq_true, if_false, if_true, Option.bind_some, Bool.or_false, Bool.or_true, Bool.false_or, Bool.true_or]
  · simp only [iter, pB0, w1, e1, h0, Bool.false_eq_true, if_false, if_true, Option.bind_some, Bool.or_false, Bool.or_true, Bool.false_or, Bool.true_or]
def tot6 (p : A6 Int) : Int := p.x0 + p.x1 + p.x2 + p.x3 + p.x4 + p.x5
theorem rpay_loop1 {p : A6 Int} {c : SCost} (hp : Pl p) (hc : Ok c) : iter (fun (v : Int × Int × (A6 Int)) => r08_Pay_B34 c v.1 v.2.1 v.2.2) FU (p.x0, 0, p) = some (if lack p c.Color = true then .inl () else .inr (tot6 (sub5 p c.Color), sub5 p c.Color)) := by
  have w1 := w_sub hp.c1 hc.c0; have w2 := w_sub hp.c2 hc.c1; have w3 := w_sub hp.c3 hc.c2; have w4 := w_sub hp.c4 hc.c3; have w5 := w_sub hp.c5 hc.c4
  have b0 := hp.c0; have b1 := hp.c1; have b2 := hp.c2; have b3 := hp.c3; have b4 := hp.c4; have b5 := hp.c5
  have g0 := hc.c0; have g1 := hc.c1; have g2 := hc.c2; have g3 := hc.c3; have g4 := hc.c4
  obtain ⟨p0, p1, p2, p3, p4, p5⟩ := p
  dsimp only at w1 w2 w3 w4 w5 b0 b1 b2 b3 b4 b5
  rw [FU7]
  unfold lack sub5 tot6
  have t1 : wrap64 (p0 + (p1 - c.Color.x0)) = p0 + (p1 - c.Color.x0) := wrap64_id (by omega) (by omega)
  have t2 : wrap64 (p0 + (p1 - c.Color.x0) + (p2 - c.Color.x1)) = p0 + (p1 - c.Color.x0) + (p2 - c.Color.x1) := wrap64_id (by omega) (by omega)
  have t3 : wrap64 (p0 + (p1 - c.Color.x0) + (p2 - c.Color.x1) + (p3 - c.Color.x2)) = p0 + (p1 - c.Color.x0) + (p2 - c.Color.x1) + (p3 - c.Color.x2) := wrap64_id (by omega) (by omega)
  have t4 : wrap64 (p0 + (p1 - c.Color.x0) + (p2 - c.Color.x1) + (p3 - c.Color.x2) + (p4 - c.Color.x3)) = p0 + (p1 - c.Color.x0) + (p2 - c.Color.x1) + (p3 - c.Color.x2) + (p4 - c.Color.x3) := wrap64_id (by omega) (by omega)
  have t5 : wrap64 (p0 + (p1 - c.Color.x0) + (p2 - c.Color.x1) + (p3 - c.Color.x2) + (p4 - c.Color.x3) + (p5 - c.Color.x4)) = p0 + (p1 - c.Color.x0) + (p2 - c.Color.x1) + (p3 - c.Color.x2) + (p4 - c.Color.x3) + (p5 - c.Color.x4) := wrap64_id (by omega) (by omega)
  cases h0 : decide (p1 < c.Color.x0)
  · cases h1 : decide (p2 < c.Color.x1)
    · cases h2 : decide (p3 < c.Color.x2)
      · cases h3 : decide (p4 < c.Color.x3)
        · cases h4 : decide (p5 < c.Color.x4)
          · simp only [iter, rpB0, rpB1, rpB2, rpB3, rpB4, rpB5, w1, w2, w3, w4, w5, t1, t2, t3, t4, t5, h0, h1, h2, h3, h4, Bool.false_eq_true, if_false, if_true, Option.bind_some, Bool.or_false, Bool.or_true]
          · simp only [iter, rpB0, rpB1, rpB2, rpB3, rpB4, rpB5, w1, w2, w3, w4, w5, t1, t2, t3, t4, t5, h0, h1, h2, h3, h4, Bool.false_eq_true, if_false, if_true, Option.bind_some, Bool.or_false, Bool.or_true]
        · simp only [iter, rpB0, rpB1, rpB2, rpB3, rpB4, rpB5, w1, w2, w3, w4, w5, t1, t2, t3, t4, t5, h0, h1, h2, h3, Bool.false_eq_true, if_false, if_true, Option.bind_some, Bool.or_false, Bool.or_true, Bool.false_or, Bool.true_or]
      · simp only [iter, rpB0, rpB1, rpB2, rpB3, rpB4, rpB5, w1, w2, w3, w4, w5, t1, t2, t3, t4, t5, h0, h1, h2, Bool.false_eq_true, if_false, if_true, Option.bind_some, Bool.or_false, Bool.or_true, Bool.false_or, Bool.true_or]
    · simp only [iter, rpB0, rpB1, rpB2, rpB3, rpB4, rpB5, w1, w2, w3, w4, w5, t1, t2, t3, t4, t5, h0, h1, Bool.false_eq_true, if_false, if_true, Option.bind_some, Bool.or_false, Bool.or_true, Bool.false_or, Bool.true_or]
  · simp only [iter, rpB0, h0, Bool.false_eq_true, if_false, if_true, Option.bind_some, Bool.or_false, Bool.or_true, Bool.false_or, Bool.true_or]
/-! The generic mana. -/
section
variable {B : Int → Int → A6 Int → Option ((Int × Int × (A6 Int)) ⊕ (Int × (A6 Int)))}
theorem mB0 (n q0 q1 q2 q3 q4 q5 : Int) : mana_Pay_B23 n 0 ⟨q0, q1, q2, q3, q4, q5⟩ = some (.inl (wrap64 (nd n q0), 1, ⟨wrap64 (rm n q0), q1, q2, q3, q4, q5⟩)) := by kernel_rfl
theorem mB1 (n q0 q1 q2 q3 q4 q5 : Int) : mana_Pay_B23 n 1 ⟨q0, q1, q2, q3, q4, q5⟩ = some (.inl (wrap64 (nd n q1), 2, ⟨q0, wrap64 (rm n q1), q2, q3, q4, q5⟩)) := by kernel_rfl
theorem mB2 (n q0 q1 q2 q3 q4 q5 : Int) : mana_Pay_B23 n 2 ⟨q0, q1, q2, q3, q4, q5⟩ = some (.inl (wrap64 (nd n q2), 3, ⟨q0, q1, wrap64 (rm n q2), q3, q4, q5⟩)) := by kernel_rfl
theorem mB3 (n q0 q1 q2 q3 q4 q5 : Int) : mana_Pay_B23 n 3 ⟨q0, q1, q2, q3, q4, q5⟩ = some (.inl (wrap64 (nd n q3), 4, ⟨q0, q1, q2, wrap64 (rm n q3), q4, q5⟩)) := by kernel_rfl
theorem mB4 (n q0 q1 q2 q3 q4 q5 : Int) : mana_Pay_B23 n 4 ⟨q0, q1, q2, q3, q4, q5⟩ = some (.inl (wrap64 (nd n q4), 5, ⟨q0, q1, q2, q3, wrap64 (rm n q4), q5⟩)) := by kernel_rfl
theorem mB5 (n q0 q1 q2 q3 q4 q5 : Int) : mana_Pay_B23 n 5 ⟨q0, q1, q2, q3, q4, q5⟩ = some (.inl (wrap64 (nd n q5), 6, ⟨q0, q1, q2, q3, q4, wrap64 (rm n q5)⟩)) := by kernel_rfl
theorem mB6 (n : Int) (q : A6 Int) : mana_Pay_B23 n 6 q = some (.inr (n, q)) := by kernel_rfl
theorem qB0 (n q0 q1 q2 q3 q4 q5 : Int) : r08_Pay_B21 n 0 ⟨q0, q1, q2, q3, q4, q5⟩ = some (.inl (wrap64 (nd n q0), 1, ⟨wrap64 (rm n q0), q1, q2, q3, q4, q5⟩)) := by kernel_rfl
theorem qB1 (n q0 q1 q2 q3 q4 q5 : Int) : r08_Pay_B21 n 1 ⟨q0, q1, q2, q3, q4, q5⟩ = some (.inl (wrap64 (nd n q1), 2, ⟨q0, wrap64 (rm n q1), q2, q3, q4, q5⟩)) := by kernel_rfl
theorem qB2 (n q0 q1 q2 q3 q4 q5 : Int) : r08_Pay_B21 n 2 ⟨q0, q1, q2, q3, q4, q5⟩ = some (.inl (wrap64 (nd n q2), 3, ⟨q0, q1, wrap64 (rm n q2), q3, q4, q5⟩)) := by kernel_rfl
theorem qB3 (n q0 q1 q2 q3 q4 q5 : Int) : r08_Pay_B21 n 3 ⟨q0, q1, q2, q3, q4, q5⟩ = some (.inl (wrap64 (nd n q3), 4, ⟨q0, q1, q2, wrap64 (rm n q3), q4, q5⟩)) := by kernel_rfl
theorem qB4 (n q0 q1 q2 q3 q4 q5 : Int) : r08_Pay_B21 n 4 ⟨q0, q1, q2, q3, q4, q5⟩ = some (.inl (wrap64 (nd n q4), 5, ⟨q0, q1, q2, q3, wrap64 (rm n q4), q5⟩)) := by kernel_rfl
theorem qB5 (n q0 q1 q2 q3 q4 q5 : Int) : r08_Pay_B21 n 5 ⟨q0, q1, q2, q3, q4, q5⟩ = some (.inl (wrap64 (nd n q5), 6, ⟨q0, q1, q2, q3, q4, wrap64 (rm n q5)⟩)) := by kernel_rfl
theorem qB6 (n : Int) (q : A6 Int) : r08_Pay_B21 n 6 q = some (.inr q) := by kernel_rfl
end
theorem w_nd {n b : Int} (hn : 0 ≤ n ∧ n ≤ 3000000) (hb : 0 ≤ b ∧ b ≤ 1000000) : wrap64 (nd n b) = nd n b ∧ wrap64 (rm n b) = rm n b ∧ (0 ≤ nd n b ∧ nd n b ≤ 3000000) := by
  have h1 := nd_bd hn.1 hb.1
  have h2 := rm_bd hn.1 hb.1
  exact ⟨wrap64_id (by omega) (by omega), wrap64_id (by omega) (by omega), by omega, by omega⟩
theorem pay_loop2 {n : Int} {p : A6 Int} (hn : 0 ≤ n ∧ n ≤ 3000000) (hp : Pl p) : iter (fun (v : Int × Int × (A6 Int)) => mana_Pay_B23 v.1 v.2.1 v.2.2) FU (n, 0, p) = some (n6 n p, take6 n p) := by
  obtain ⟨u0, v0, d0⟩ := w_nd hn hp.c0
  obtain ⟨u1, v1, d1⟩ := w_nd d0 hp.c1
  obtain ⟨u2, v2, d2⟩ := w_nd d1 hp.c2
  obtain ⟨u3, v3, d3⟩ := w_nd d2 hp.c3
  obtain ⟨u4, v4, d4⟩ := w_nd d3 hp.c4
  obtain ⟨u5, v5, d5⟩ := w_nd d4 hp.c5
  obtain ⟨p0, p1, p2, p3, p4, p5⟩ := p
  dsimp only at *
  rw [FU7]
  unfold n6 take6 n5 n4 n3 n2 n1
  simp only [iter, mB0, mB1, mB2, mB3, mB4, mB5, mB6, u0, v0, u1, v1, u2, v2, u3, v3, u4, v4, u5, v5, Option.bind_some]
theorem rpay_loop2 {n : Int} {p : A6 Int} (hn : 0 ≤ n ∧ n ≤ 3000000) (hp : Pl p) : iter (fun (v : Int × Int × (A6 Int)) => r08_Pay_B21 v.1 v.2.1 v.2.2) FU (n, 0, p) = some (take6 n p) := by
  obtain ⟨u0, v0, d0⟩ := w_nd hn hp.c0
  obtain ⟨u1, v1, d1⟩ := w_nd d0 hp.c1
  obtain ⟨u2, v2, d2⟩ := w_nd d1 hp.c2
  obtain ⟨u3, v3, d3⟩ := w_nd d2 hp.c3
  obtain ⟨u4, v4, d4⟩ := w_nd d3 hp.c4
  obtain ⟨u5, v5, d5⟩ := w_nd d4 hp.c5
  obtain ⟨p0, p1, p2, p3, p4, p5⟩ := p
  dsimp only at *
  rw [FU7]
  unfold take6 n5 n4 n3 n2 n1
  simp only [iter, qB0, qB1, qB2, qB3, qB4, qB5, qB6, u0, v0, u1, v1, u2, v2, u3, v3, u4, v4, u5, v5, Option.bind_some]
/-- What is paid. -/
def need8 (c : SCost) (x : Int) : Int := c.Generic + c.X * x
theorem need8_bd {c : SCost} {x : Int} (hc : Ok c) (hx : 0 ≤ x ∧ x ≤ 1000000) : (0 ≤ need8 c x ∧ need8 c x ≤ 3000000) ∧ wrap64 (c.Generic + wrap64 (c.X * x)) = need8 c x ∧ 0 ≤ c.X * x ∧ c.X * x ≤ 2000000 := by
  have h1 := hc.g; have h2 := hc.x
  have a : 0 ≤ c.X * x := Int.mul_nonneg h2.1 hx.1
  have b : c.X * x ≤ 2000000 := by
    have : c.X = 0 ∨ c.X = 1 ∨ c.X = 2 := by omega
    rcases this with e | e | e <;> rw [e] <;> omega
  unfold need8
  rw [wrap64_id (by omega) (by omega : c.X * x ≤ _), wrap64_id (by omega) (by omega)]
  exact ⟨⟨by omega, by omega⟩, rfl, a, b⟩
def payS (p : A6 Int) (c : SCost) (x : Int) : A6 Int × Int :=
  if isS c = false ∨ wh p = true ∨ x < 0 ∨ 1000000 < x then (zP, 1)
  else if lack p c.Color = true then (zP, 12)
  else if 0 < n6 (need8 c x) (sub5 p c.Color) then (zP, 12) else (take6 (need8 c x) (sub5 p c.Color), 0)
theorem n6_tot {n : Int} {p : A6 Int} (hn : 0 ≤ n) (hp : Pl p) : (0 < n6 n p ↔ tot6 p < n) := by
  have h := nds hn hp
  obtain ⟨a1, a2, a3, a4, a5, a6⟩ := h
  have b0 := hp.c0; have b1 := hp.c1; have b2 := hp.c2; have b3 := hp.c3; have b4 := hp.c4; have b5 := hp.c5
  unfold tot6
  omega
theorem rpay_eq (p : A6 Int) (c : SCost) (x : Int) : r08_Pay p c x = some (payS p c x) := by
  unfold r08_Pay payS
  rw [rIsS_eq, rwh_eq]
  cases hc : isS c
  · simp [gd, zP]
  · cases hw : wh p
    · by_cases h1 : x < 0
      · simp [gd, h1, zP]
      · by_cases h2 : 1000000 < x
        · simp [gd, h1, h2, zP]
        · have hO := isS_ok hc; have hP := wh_ok hw
          have hd := need8_bd (c := c) (x := x) hO (by omega)
          have hi : idx p.l 0 = some p.x0 := by kernel_rfl
          simp only [gd, h1, h2, Bool.not_true, Bool.not_false, Bool.false_eq_true, if_false, if_true, Option.bind_some, or_self, decide_false, hi, beq_self_eq_true, rpay_loop1 hP hO, Bool.true_eq_false, false_or]
          cases hl : lack p c.Color
          · have hQ := sub5_ok hP hO hl
            have ht := n6_tot hd.1.1 hQ
            simp only [Bool.false_eq_true, if_false, Sum.elim_inr, r08_Pay_J10, hd.2.1, rpay_loop2 hd.1 hQ, Option.bind_some, r08_Pay_J13, decide_eq_true_eq]
            by_cases hq : tot6 (sub5 p c.Color) < need8 c x
            · rw [if_pos hq, if_pos (ht.2 hq)]; rfl
            · rw [if_neg hq, if_neg (fun h => hq (ht.1 h))]
          · simp [zP]
    · simp [gd, zP]
theorem take0 {p : A6 Int} (hp : Pl p) : take6 0 p = p ∧ n6 0 p = 0 := by
  have e : ∀ b : Int, 0 ≤ b → nd 0 b = 0 ∧ rm 0 b = b := fun b hb => by unfold nd rm; split <;> omega
  obtain ⟨e1, f1⟩ := e _ hp.c0.1
  obtain ⟨e2, f2⟩ := e _ hp.c1.1
  obtain ⟨e3, f3⟩ := e _ hp.c2.1
  obtain ⟨e4, f4⟩ := e _ hp.c3.1
  obtain ⟨e5, f5⟩ := e _ hp.c4.1
  obtain ⟨e6, f6⟩ := e _ hp.c5.1
  unfold take6 n6 n5 n4 n3 n2 n1
  simp only [e1, e2, e3, e4, e5, e6, f1, f2, f3, f4, f5, f6, and_self]
theorem pay_eq (p : A6 Int) (c : SCost) (x : Int) : mana_Pay p c x = some (payS p c x) := by
  unfold mana_Pay payS
  rw [isS_eq, wh_eq]
  cases hc : isS c
  · simp [gd, zP]
  · cases hw : wh p
    · by_cases h1 : x < 0
      · simp [gd, h1, zP]
      · by_cases h2 : 1000000 < x
        · simp [gd, h1, h2, zP]
        · have hO := isS_ok hc; have hP := wh_ok hw
          have hd := need8_bd (c := c) (x := x) hO (by omega)
          simp only [gd, h1, h2, Bool.not_true, Bool.not_false, Bool.false_eq_true, if_false, if_true, Option.bind_some, or_self, decide_false, beq_self_eq_true, Bool.true_eq_false, false_or]
          by_cases hz : p = zP ∧ c = zC
          · obtain ⟨rfl, rfl⟩ := hz
            have e0 : need8 zC x = 0 := by show (0 : Int) + 0 * x = 0; omega
            rw [e0]
            have hs : sub5 zP zC.Color = zP := by kernel_rfl
            have hl : lack zP zC.Color = false := by kernel_rfl
            rw [hs, hl, (take0 hP).1, (take0 hP).2]
            rfl
          · have hb : (if (p == (⟨(0 : Int), (0 : Int), (0 : Int), (0 : Int), (0 : Int), (0 : Int)⟩ : A6 (Int))) = true then c == (⟨(0 : Int), (0 : Int), (⟨(0 : Int), (0 : Int), (0 : Int), (0 : Int), (0 : Int)⟩ : A5 (Int))⟩ : SCost) else false) = false := by
              show (if (p == zP) = true then c == zC else false) = false
              by_cases hp0 : p = zP
              · have : c ≠ zC := fun h => hz ⟨hp0, h⟩
                rw [if_pos (beq_iff_eq.2 hp0)]
                exact beq_eq_false_iff_ne.2 this
              · rw [if_neg (fun h => hp0 (beq_iff_eq.1 h))]
            simp only [hb, pay_loop1 hP hO, Bool.false_eq_true, if_false, Option.bind_some]
            cases hl : lack p c.Color
            · have hQ := sub5_ok hP hO hl
              simp only [Bool.false_eq_true, if_false, Sum.elim_inr, mana_Pay_J10, hd.2.1, pay_loop2 hd.1 hQ, Option.bind_some, mana_Pay_J13, decide_eq_true_eq]
              by_cases hq : 0 < n6 (need8 c x) (sub5 p c.Color)
              · rw [if_pos hq, if_pos hq]; rfl
              · rw [if_neg hq, if_neg hq]
            · simp [zP]
    · simp [gd, zP]
theorem canPay_eq (p : A6 Int) (c : SCost) (x : Int) : mana_CanPay p c x = some ((payS p c x).2 == 0) := by
  unfold mana_CanPay; rw [pay_eq]; rfl
theorem law_ManaPaysAs (p : A6 Int) (c : SCost) (x : Int) : law08_ManaPaysAs p c x = some true := by
  unfold law08_ManaPaysAs
  rw [pay_eq, rpay_eq, canPay_eq, alive8]
  simp [gd]
end Go.PL
