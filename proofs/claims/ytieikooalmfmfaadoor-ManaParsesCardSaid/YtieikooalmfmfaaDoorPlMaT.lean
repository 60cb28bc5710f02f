/- Plain laws of the mana chapter: Text, Colors; ManaTexts. -/
import Derived.Test.YtieikooalmfmfaaDoorPlMaL
namespace Go.PL
open Go
set_option maxRecDepth 100000
set_option linter.all false
set_option maxHeartbeats 1000000
theorem rtext_eq (n : Int) : r01_Text n = textN n := by kernel_rfl
theorem rtext_itoa {n : Int} (h0 : -9223372036854775808 ≤ n) (h1 : n ≤ 9223372036854775807) : r01_Text n = some (Lib.itoa n) := by rw [rtext_eq, textN_eq h0 h1]
theorem ntext_itoa {n : Int} (h0 : -9223372036854775808 ≤ n) (h1 : n ≤ 9223372036854775807) : num_Text n = some (Lib.itoa n) := by
  unfold num_Text dItoa; rw [if_pos ⟨h0, h1⟩]; rfl
def rpl (n : Int) (b : UInt8) : List UInt8 := List.replicate n.toNat b
theorem rpl_len (n : Int) (b : UInt8) : (rpl n b).length = n.toNat := by simp [rpl]
theorem rep_one (b : UInt8) : ∀ n, Lib.repeatL [b] n = List.replicate n b
  | 0 => rfl
  | n + 1 => by show [b] ++ Lib.repeatL [b] n = _; rw [rep_one b n]; rfl
theorem dRep {b : UInt8} {n : Int} (h : 0 ≤ n ∧ n ≤ 1000) : dRepeat [b] n = some (rpl n b) := by
  unfold dRepeat
  rw [if_pos ⟨h.1, by omega, by simp; omega⟩, rep_one]; rfl
def gtx (g : Int) : List UInt8 := if 0 < g then Lib.itoa g else []
def tx0 (c : SCost) : List UInt8 := rpl c.X 88 ++ gtx c.Generic
def tx1 (c : SCost) : List UInt8 := tx0 c ++ rpl c.Color.x0 65
def tx2 (c : SCost) : List UInt8 := tx1 c ++ rpl c.Color.x1 67
def tx3 (c : SCost) : List UInt8 := tx2 c ++ rpl c.Color.x2 74
def tx4 (c : SCost) : List UInt8 := tx3 c ++ rpl c.Color.x3 82
def tx5 (c : SCost) : List UInt8 := tx4 c ++ rpl c.Color.x4 69
theorem gtx_len {g : Int} (h : 0 ≤ g ∧ g ≤ 99) : (gtx g).length ≤ 21 := by
  unfold gtx
  split
  · exact itoa_le (by omega) (by omega)
  · simp
theorem tx_lens {c : SCost} (h : Ok c) : (tx0 c).length ≤ 23 ∧ (tx1 c).length ≤ 32 ∧ (tx2 c).length ≤ 41 ∧ (tx3 c).length ≤ 50 ∧ (tx4 c).length ≤ 59 ∧ (tx5 c).length ≤ 68 := by
  have a := h.c0; have b := h.c1; have d := h.c2; have e := h.c3; have f := h.c4; have g := h.g; have x := h.x
  have hg := gtx_len g
  have h0 : (tx0 c).length ≤ 23 := by unfold tx0; rw [List.length_append, rpl_len]; omega
  have h1 : (tx1 c).length ≤ 32 := by unfold tx1; rw [List.length_append, rpl_len]; omega
  have h2 : (tx2 c).length ≤ 41 := by unfold tx2; rw [List.length_append, rpl_len]; omega
  have h3 : (tx3 c).length ≤ 50 := by unfold tx3; rw [List.length_append, rpl_len]; omega
  have h4 : (tx4 c).length ≤ 59 := by unfold tx4; rw [List.length_append, rpl_len]; omega
  exact ⟨h0, h1, h2, h3, h4, by unfold tx5; rw [List.length_append, rpl_len]; omega⟩
theorem tB {c : SCost} {s : List UInt8} {k e : Int} {b : UInt8} (hk : k < 5) (h : idx c.Color.l k = some e) (h2 : ssub str_ACJRE k (wrap64 (k + 1)) = some [b]) (he : 0 ≤ e ∧ e ≤ 9) (hs : s.length ≤ 1000) :
    mana_Text_B14 c s k = some (.inl (s ++ rpl e b, wrap64 (k + 1))) := by
  unfold mana_Text_B14
  rw [if_pos (by simpa using hk), h, h2]
  simp only [Option.bind_some]
  rw [dRep (by omega)]
  simp only [Option.bind_some]
  rw [cat_some (by rw [rpl_len]; simp [maxLen]; omega)]; rfl
theorem t_loop {c : SCost} (h : Ok c) : iter (fun (v : (List UInt8) × Int) => mana_Text_B14 c v.1 v.2) FU (tx0 c, 0) = some (tx5 c) := by
  obtain ⟨l0, l1, l2, l3, l4, l5⟩ := tx_lens h
  rw [FU7]
  rw [iter_go (s' := (tx1 c, 1)) (tB (by omega) (by kernel_rfl) (by kernel_rfl) h.c0 (by dsimp only; omega))]
  rw [iter_go (s' := (tx2 c, 2)) (tB (by omega) (by kernel_rfl) (by kernel_rfl) h.c1 (by dsimp only; omega))]
  rw [iter_go (s' := (tx3 c, 3)) (tB (by omega) (by kernel_rfl) (by kernel_rfl) h.c2 (by dsimp only; omega))]
  rw [iter_go (s' := (tx4 c, 4)) (tB (by omega) (by kernel_rfl) (by kernel_rfl) h.c3 (by dsimp only; omega))]
  rw [iter_go (s' := (tx5 c, 5)) (tB (by omega) (by kernel_rfl) (by kernel_rfl) h.c4 (by dsimp only; omega))]
  exact iter_end (by kernel_rfl)
def zC' : SCost := ⟨0, 0, ⟨0, 0, 0, 0, 0⟩⟩
def textS (c : SCost) : List UInt8 := if isS c = false then [] else if c = zC' then str_0 else tx5 c
theorem text_eq (c : SCost) : mana_Text c = some (textS c) := by
  unfold mana_Text textS
  rw [isS_eq]
  cases hs : isS c
  · rfl
  · have h := isS_ok hs
    simp only [Option.bind_some, Bool.not_true, Bool.false_eq_true, if_false, Bool.true_eq_false]
    rw [show (⟨0, 0, ⟨0, 0, 0, 0, 0⟩⟩ : SCost) = zC' from rfl]
    by_cases hz : c = zC'
    · rw [if_pos (beq_iff_eq.2 hz), if_pos hz]
    · rw [if_neg (fun q => hz (beq_iff_eq.1 q)), if_neg hz]
      have hr : dRepeat str_X c.X = some (rpl c.X 88) := dRep (b := 88) (by have := h.x; omega)
      rw [hr]
      simp only [Option.bind_some]
      have hg := h.g
      by_cases h0 : 0 < c.Generic
      · have e : tx0 c = rpl c.X 88 ++ Lib.itoa c.Generic := by unfold tx0 gtx; rw [if_pos h0]
        rw [if_pos (by simpa using h0), ntext_itoa (by omega) (by omega)]
        simp only [Option.bind_some]
        rw [cat_some (by rw [rpl_len]; have := itoa_le (n := c.Generic) (by omega) (by omega); have := h.x; simp [maxLen]; omega), ← e]
        simp only [Option.bind_some, mana_Text_J6, t_loop h, mana_Text_J8]
      · have e : tx0 c = rpl c.X 88 := by unfold tx0 gtx; rw [if_neg h0, List.append_nil]
        rw [if_neg (by simpa using h0), ← e]
        simp only [Option.bind_some, mana_Text_J6, t_loop h, mana_Text_J8]
theorem rep_loop {B : (List UInt8) × Int → Option (((List UInt8) × Int) ⊕ (List UInt8))} {s : List UInt8} {n : Int} {b : UInt8} (hn : 0 ≤ n ∧ n ≤ 1000)
    (hgo : ∀ (t : List UInt8) (k : Int), t.length ≤ s.length + 1000 → 0 ≤ k → k < n → B (t, k) = some (.inl (t ++ [b], k + 1))) (hend : ∀ t, B (t, n) = some (.inr t)) :
    iter B FU (s, 0) = some (s ++ rpl n b) := by
  refine iter_at (fun i => (s ++ List.replicate i b, (i : Int))) n.toNat (by omega) (fun i hi => ?_) ?_ (by simp)
  · rw [hgo _ _ (by simp; omega) (by omega) (by omega), List.append_assoc, ← List.replicate_succ']; rfl
  · rw [show ((n.toNat : Nat) : Int) = n by omega]; exact hend _
theorem rt_inner {c : SCost} {s : List UInt8} {k e : Int} {b : UInt8} (h : idx c.Color.l k = some e) (h2 : ssub str_ACJRE k (wrap64 (k + 1)) = some [b]) (he : 0 ≤ e ∧ e ≤ 9) (hs : s.length ≤ 1000) :
    iter (fun (v : (List UInt8) × Int) => r08_Text_B24 c k v.1 v.2) FU (s, 0) = some (s ++ rpl e b) := by
  refine rep_loop (by omega) (fun t j ht h0 h1 => ?_) (fun t => ?_)
  · show r08_Text_B24 c k t j = _
    unfold r08_Text_B24
    rw [h]
    simp only [Option.bind_some]
    rw [if_pos (by simpa using h1), h2]
    simp only [Option.bind_some]
    rw [cat_some (by simp [maxLen]; omega), wrap64_id (by omega) (by omega)]; rfl
  · show r08_Text_B24 c k t e = _
    unfold r08_Text_B24
    rw [h]
    simp only [Option.bind_some]
    rw [if_neg (by simp)]
theorem rtB {c : SCost} {s : List UInt8} {k e : Int} {b : UInt8} (hk : k < 5) (h : idx c.Color.l k = some e) (h2 : ssub str_ACJRE k (wrap64 (k + 1)) = some [b]) (he : 0 ≤ e ∧ e ≤ 9) (hs : s.length ≤ 1000) :
    r08_Text_B15 c s k = some (.inl (s ++ rpl e b, wrap64 (k + 1))) := by
  unfold r08_Text_B15
  rw [if_pos (by simpa using hk), rt_inner h h2 he hs]; rfl
theorem rt_loop {c : SCost} (h : Ok c) : iter (fun (v : (List UInt8) × Int) => r08_Text_B15 c v.1 v.2) FU (tx0 c, 0) = some (tx5 c) := by
  obtain ⟨l0, l1, l2, l3, l4, l5⟩ := tx_lens h
  rw [FU7]
  rw [iter_go (s' := (tx1 c, 1)) (rtB (by omega) (by kernel_rfl) (by kernel_rfl) h.c0 (by dsimp only; omega))]
  rw [iter_go (s' := (tx2 c, 2)) (rtB (by omega) (by kernel_rfl) (by kernel_rfl) h.c1 (by dsimp only; omega))]
  rw [iter_go (s' := (tx3 c, 3)) (rtB (by omega) (by kernel_rfl) (by kernel_rfl) h.c2 (by dsimp only; omega))]
  rw [iter_go (s' := (tx4 c, 4)) (rtB (by omega) (by kernel_rfl) (by kernel_rfl) h.c3 (by dsimp only; omega))]
  rw [iter_go (s' := (tx5 c, 5)) (rtB (by omega) (by kernel_rfl) (by kernel_rfl) h.c4 (by dsimp only; omega))]
  exact iter_end (by kernel_rfl)
theorem rx_loop {c : SCost} (h : Ok c) : iter (fun (v : (List UInt8) × Int) => r08_Text_B37 c v.1 v.2) FU ([], 0) = some (rpl c.X 88) := by
  have hx := h.x
  refine (rep_loop (s := []) (n := c.X) (b := 88) (by omega) (fun t j ht h0 h1 => ?_) (fun t => ?_)).trans (by simp)
  · show r08_Text_B37 c t j = _
    unfold r08_Text_B37
    rw [if_pos (by simpa using h1), cat_some (by simp at ht; simp [maxLen, str_X]; omega), wrap64_id (by omega) (by omega)]; rfl
  · show r08_Text_B37 c t c.X = _
    unfold r08_Text_B37
    rw [if_neg (by simp)]
theorem decDigits_ne (n : Nat) : Lib.decDigits n ≠ [] := by
  rw [Lib.decDigits]; split <;> simp
theorem itoa_ne (n : Int) : Lib.itoa n ≠ [] := by
  unfold Lib.itoa; split
  · simp
  · exact decDigits_ne _
theorem rpl_ne {n : Int} {b : UInt8} (h0 : 0 ≤ n) : rpl n b = [] ↔ n = 0 := by
  unfold rpl
  rw [List.replicate_eq_nil_iff]; omega
theorem tx5_nil {c : SCost} (h : Ok c) : tx5 c = [] ↔ c = zC' := by
  have hg : gtx c.Generic = [] ↔ c.Generic = 0 := by
    have := h.g
    unfold gtx
    by_cases h0 : 0 < c.Generic
    · rw [if_pos h0]; exact ⟨fun q => (itoa_ne _ q).elim, fun q => by omega⟩
    · rw [if_neg h0]; exact ⟨fun _ => by omega, fun _ => rfl⟩
  unfold tx5 tx4 tx3 tx2 tx1 tx0
  simp only [List.append_eq_nil_iff, rpl_ne h.x.1, rpl_ne h.c0.1, rpl_ne h.c1.1, rpl_ne h.c2.1, rpl_ne h.c3.1, rpl_ne h.c4.1, hg]
  obtain ⟨g, x, ⟨a, b, d, e, f⟩⟩ := c
  unfold zC'
  simp only [SCost.mk.injEq, A5.mk.injEq]
  constructor
  · rintro ⟨⟨⟨⟨⟨⟨h1, h2⟩, h3⟩, h4⟩, h5⟩, h6⟩, h7⟩; exact ⟨h2, h1, h3, h4, h5, h6, h7⟩
  · rintro ⟨h2, h1, h3, h4, h5, h6, h7⟩; exact ⟨⟨⟨⟨⟨⟨h1, h2⟩, h3⟩, h4⟩, h5⟩, h6⟩, h7⟩
theorem rtextS_eq (c : SCost) : r08_Text c = some (textS c) := by
  unfold r08_Text textS
  rw [rIsS_eq]
  cases hs : isS c
  · rfl
  · have h := isS_ok hs
    simp only [Option.bind_some, Bool.not_true, Bool.false_eq_true, if_false, Bool.true_eq_false, rx_loop h]
    have hg := h.g
    have fin : r08_Text_J6 c (tx0 c) = some (if c = zC' then str_0 else tx5 c) := by
      unfold r08_Text_J6
      rw [rt_loop h]
      simp only [Option.bind_some, r08_Text_J8]
      by_cases hz : c = zC'
      · rw [if_pos (beq_iff_eq.2 ((tx5_nil h).2 hz)), if_pos hz]
      · rw [if_neg (fun q => hz ((tx5_nil h).1 (beq_iff_eq.1 q))), if_neg hz]
    unfold r08_Text_J4
    by_cases h0 : 0 < c.Generic
    · have e : tx0 c = rpl c.X 88 ++ Lib.itoa c.Generic := by unfold tx0 gtx; rw [if_pos h0]
      rw [if_pos (by simp; omega), rtext_itoa (by omega) (by omega)]
      simp only [Option.bind_some]
      rw [cat_some (by rw [rpl_len]; have := itoa_le (n := c.Generic) (by omega) (by omega); have := h.x; simp [maxLen]; omega), ← e]
      simp only [Option.bind_some, fin]
    · have e : tx0 c = rpl c.X 88 := by unfold tx0 gtx; rw [if_neg h0, List.append_nil]
      rw [if_neg (by simp; omega), ← e, fin]
/-! Colors. -/
end Go.PL
