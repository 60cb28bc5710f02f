/- Plain laws of the mana chapter: Text, Colors; ManaTexts. -/
import Derived.Test.YtieikooalmfmfaaDoorPlMaL
namespace Go.PL
open Go
set_option maxRecDepth 100000
set_option linter.all false
set_option maxHeartbeats 1000000
theorem ntext_itoa {n : Int} (h0 : -9223372036854775808 ≤ n) (h1 : n ≤ 9223372036854775807) : num_Text n = some (Lib.itoa n) := by
  unfold num_Text dItoa; rw [if_pos ⟨h0, h1⟩]; rfl
def rpl (n : Int) (b : UInt8) : List UInt8 := List.replicate n.toNat b
theorem rpl_len (n : Int) (b : UInt8) : (rpl n b).length = n.toNat := by simp [rpl]
theorem rep_one (b : UInt8) : ∀ n, Lib.repeatL [b] n = List.replicate n b
  | 0 => rfl
  | n + 1 => by show [b] ++ Lib.repeatL [b] n = _; rw [rep_one b n]; rfl
theorem dRep {b : UInt8} {n : Int} (h : 0 ≤ n ∧ n ≤ 1000) : dRepeat [b] n = some (rpl n b) := by
  unfold dRepeat
  rw [if_pos ⟨h.1, by omega, by simp; omega⟩, rep_one]; rfl
def gtx (g : Int) : List UInt8 := if 0 < g then Lib.itoa g else []
def tx0 (c : SCost) : List UInt8 := rpl c.X 88 ++ gtx c.Generic
def tx1 (c : SCost) : List UInt8 := tx0 c ++ rpl c.Color.x0 65
def tx2 (c : SCost) : List UInt8 := tx1 c ++ rpl c.Color.x1 67
def tx3 (c : SCost) : List UInt8 := tx2 c ++ rpl c.Color.x2 74
def tx4 (c : SCost) : List UInt8 := tx3 c ++ rpl c.Color.x3 82
def tx5 (c : SCost) : List UInt8 := tx4 c ++ rpl c.Color.x4 69
theorem gtx_len {g : Int} (h : 0 ≤ g ∧ g ≤ 99) : (gtx g).length ≤ 21 := by
  unfold gtx
  split
  · exact itoa_le (by omega) (by omega)
  · simp
theorem tx_lens {c : SCost} (h : Ok c) : (tx0 c).length ≤ 23 ∧ (tx1 c).length ≤ 32 ∧ (tx2 c).length ≤ 41 ∧ (tx3 c).length ≤ 50 ∧ (tx4 c).length ≤ 59 ∧ (tx5 c).length ≤ 68 := by
  have a := h.c0; have b := h.c1; have d := h.c2; have e := h.c3; have f := h.c4; have g := h.g; have x := h.x
  have hg := gtx_len g
  have h0 : (tx0 c).length ≤ 23 := by unfold tx0; rw [List.length_append, rpl_len]; omega
  have h1 : (tx1 c).length ≤ 32 := by unfold tx1; rw [List.length_append, rpl_len]; omega
  have h2 : (tx2 c).length ≤ 41 := by unfold tx2; rw [List.length_append, rpl_len]; omega
  have h3 : (tx3 c).length ≤ 50 := by unfold tx3; rw [List.length_append, rpl_len]; omega
  have h4 : (tx4 c).length ≤ 59 := by unfold tx4; rw [List.length_append, rpl_len]; omega
  exact ⟨h0, h1, h2, h3, h4, by unfold tx5; rw [List.length_append, rpl_len]; omega⟩
theorem tB {c : SCost} {s : List UInt8} {k e : Int} {b : UInt8} (hk : k < 5) (h : idx c.Color.l k = some e) (h2 : ssub str_ACJRE k (wrap64 (k + 1)) = some [b]) (he : 0 ≤ e ∧ e ≤ 9) (hs : s.length ≤ 1000) :
    mana_Text_B14 c s k = some (.inl (s ++ rpl e b, wrap64 (k + 1))) := by
  unfold mana_Text_B14
  rw [if_pos (by simpa using hk), h, h2]
  simp only [Option.bind_some]
  rw [dRep (by omega)]
  simp only [Option.bind_some]
  rw [cat_some (by rw [rpl_len]; simp [maxLen]; omega)]; rfl
theorem t_loop {c : SCost} (h : Ok c) : iter (fun (v : (List UInt8) × Int) => mana_Text_B14 c v.1 v.2) FU (tx0 c, 0) = some (tx5 c) := by
  obtain ⟨l0, l1, l2, l3, l4, l5⟩ := tx_lens h
  rw [FU7]
  rw [iter_go (s' := (tx1 c, 1)) (tB (by omega) (by kernel_rfl) (by kernel_rfl) h.c0 (by dsimp only; omega))]
  rw [iter_go (s' := (tx2 c, 2)) (tB (by omega) (by kernel_rfl) (by kernel_rfl) h.c1 (by dsimp only; omega))]
  rw [iter_go (s' := (tx3 c, 3)) (tB (by omega) (by kernel_rfl) (by kernel_rfl) h.c2 (by dsimp only; omega))]
  rw [iter_go (s' := (tx4 c, 4)) (tB (by omega) (by kernel_rfl) (by kernel_rfl) h.c3 (by dsimp only; omega))]
  rw [iter_go (s' := (tx5 c, 5)) (tB (by omega) (by kernel_rfl) (by kernel_rfl) h.c4 (by dsimp only; omega))]
  exact iter_end (by kernel_rfl)
def zC' : SCost := ⟨0, 0, ⟨0, 0, 0, 0, 0⟩⟩
def textS (c : SCost) : List UInt8 := if isS c = false then [] else if c = zC' then str_0 else tx5 c
theorem text_eq (c : SCost) : mana_Text c = some (textS c) := by
  unfold mana_Text textS
  rw [isS_eq]
  cases hs : isS c
  · rfl
  · have h := isS_ok hs
    simp only [Option.bind_some, Bool.not_true, Bool.false_eq_true, if_false, Bool.true_eq_false]
    rw [show (⟨0, 0, ⟨0, 0, 0, 0, 0⟩⟩ : SCost) = zC' from rfl]
    by_cases hz : c = zC'
    · rw [if_pos (beq_iff_eq.2 hz), if_pos hz]
    · rw [if_neg (fun q => hz (beq_iff_eq.1 q)), if_neg hz]
      have hr : dRepeat str_X c.X = some (rpl c.X 88) := dRep (b := 88) (by have := h.x; omega)
      rw [hr]
      simp only [Option.bind_some]
      have hg := h.g
      by_cases h0 : 0 < c.Generic
      · have e : tx0 c = rpl c.X 88 ++ Lib.itoa c.Generic := by unfold tx0 gtx; rw [if_pos h0]
        rw [if_pos (by simpa using h0), ntext_itoa (by omega) (by omega)]
        simp only [Option.bind_some]
        rw [cat_some (by rw [rpl_len]; have := itoa_le (n := c.Generic) (by omega) (by omega); have := h.x; simp [maxLen]; omega), ← e]
        simp only [Option.bind_some, mana_Text_J6, t_loop h, mana_Text_J8]
      · have e : tx0 c = rpl c.X 88 := by unfold tx0 gtx; rw [if_neg h0, List.append_nil]
        rw [if_neg (by simpa using h0), ← e]
        simp only [Option.bind_some, mana_Text_J6, t_loop h, mana_Text_J8]
theorem decDigits_ne (n : Nat) : Lib.decDigits n ≠ [] := by
  rw [Lib.decDigits]; split <;> simp
theorem itoa_ne (n : Int) : Lib.itoa n ≠ [] := by
  unfold Lib.itoa; split
  · simp
  · exact decDigits_ne _
theorem rpl_ne {n : Int} {b : UInt8} (h0 : 0 ≤ n) : rpl n b = [] ↔ n = 0 := by
  unfold rpl
  rw [List.replicate_eq_nil_iff]; omega
theorem tx5_nil {c : SCost} (h : Ok c) : tx5 c = [] ↔ c = zC' := by
  have hg : gtx c.Generic = [] ↔ c.Generic = 0 := by
    have := h.g
    unfold gtx
    by_cases h0 : 0 < c.Generic
    · rw [if_pos h0]; exact ⟨fun q => (itoa_ne _ q).elim, fun q => by omega⟩
    · rw [if_neg h0]; exact ⟨fun _ => by omega, fun _ => rfl⟩
  unfold tx5 tx4 tx3 tx2 tx1 tx0
  simp only [List.append_eq_nil_iff, rpl_ne h.x.1, rpl_ne h.c0.1, rpl_ne h.c1.1, rpl_ne h.c2.1, rpl_ne h.c3.1, rpl_ne h.c4.1, hg]
  obtain ⟨g, x, ⟨a, b, d, e, f⟩⟩ := c
  unfold zC'
  simp only [SCost.mk.injEq, A5.mk.injEq]
  constructor
  · rintro ⟨⟨⟨⟨⟨⟨h1, h2⟩, h3⟩, h4⟩, h5⟩, h6⟩, h7⟩; exact ⟨h2, h1, h3, h4, h5, h6, h7⟩
  · rintro ⟨h2, h1, h3, h4, h5, h6, h7⟩; exact ⟨⟨⟨⟨⟨⟨h1, h2⟩, h3⟩, h4⟩, h5⟩, h6⟩, h7⟩
/-! Colors. -/
end Go.PL
