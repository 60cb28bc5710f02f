/- Plain laws of the mana chapter: Parse of texts; ManaBack. -/
import Derived.Test.YtieikooalmfmfaaDoorPlMaN
import Derived.Test.YtieikooalmfmfaaDoorPlMaQ
namespace Go.PL
open Go Go.Lib
set_option maxRecDepth 100000
set_option linter.all false
set_option maxHeartbeats 1000000
def isL (b : UInt8) : Bool := str_ACJRE.contains b
theorem isL_iff {b : UInt8} : isL b = true ↔ b = 65 ∨ b = 67 ∨ b = 74 ∨ b = 82 ∨ b = 69 := by
  unfold isL str_ACJRE
  simp
def z5 : A5 Int := ⟨0, 0, 0, 0, 0⟩
def addL (c : A5 Int) (b : UInt8) : A5 Int :=
  if b = 65 then { c with x0 := c.x0 + 1 } else if b = 67 then { c with x1 := c.x1 + 1 } else if b = 74 then { c with x2 := c.x2 + 1 } else if b = 82 then { c with x3 := c.x3 + 1 } else if b = 69 then { c with x4 := c.x4 + 1 } else c
structure Cb (n : Nat) (c : A5 Int) : Prop where
  c0 : 0 ≤ c.x0 ∧ c.x0 ≤ n
  c1 : 0 ≤ c.x1 ∧ c.x1 ≤ n
  c2 : 0 ≤ c.x2 ∧ c.x2 ≤ n
  c3 : 0 ≤ c.x3 ∧ c.x3 ≤ n
  c4 : 0 ≤ c.x4 ∧ c.x4 ≤ n
theorem Cb.up {n : Nat} {c : A5 Int} (h : Cb n c) (b : UInt8) : Cb (n + 1) (addL c b) := by
  obtain ⟨a, b', d, e, f⟩ := h
  unfold addL
  (repeat' split) <;> refine ⟨?_, ?_, ?_, ?_, ?_⟩ <;> (try dsimp only) <;> omega
theorem bI_len (s : List UInt8) : (bytesI s).length = s.length := by simp [bytesI]
theorem bI_idx {s : List UInt8} {i : Nat} (h : i < s.length) : idx (bytesI s) (i : Int) = some ((s[i].toNat : Nat) : Int) := by
  rw [idx_nat (by rw [bI_len]; exact h)]
  simp [bytesI]
theorem ib (b : UInt8) : dIndexByte str_ACJRE ((b.toNat : Nat) : Int) = some (indexByte str_ACJRE b) := by
  unfold dIndexByte
  simp
theorem col_step {s : List UInt8} {i : Nat} {g x : Int} {c : A5 Int} (h : i < s.length) (hs : s.length ≤ 1000) (hc : Cb i c) :
    mana_Parse_B20 s i ⟨g, x, c⟩ = some (if isL s[i] = true then .inl (((i + 1 : Nat) : Int), ⟨g, x, addL c s[i]⟩) else .inr (.inl ())) := by
  have w : ∀ a : Int, 0 ≤ a → a ≤ i → wrap64 (a + 1) = a + 1 := fun a h0 h1 => wrap64_id (by omega) (by omega)
  unfold mana_Parse_B20
  rw [if_pos (by rw [bI_len]; simpa using h), bI_idx h]
  simp only [Option.bind_some, ib]
  generalize s[i] = b
  by_cases hb : isL b = true
  · rw [if_pos hb]
    have e : wrap64 ((i : Int) + 1) = ((i + 1 : Nat) : Int) := by rw [w _ (by omega) (by omega)]; rfl
    rcases isL_iff.1 hb with rfl | rfl | rfl | rfl | rfl
    · have hi : indexByte str_ACJRE 65 = 0 := by decide
      have hx : idx c.l 0 = some c.x0 := by kernel_rfl
      simp only [hi, hx, Option.bind_some, e, w _ hc.c0.1 hc.c0.2]
      rfl
    · have hi : indexByte str_ACJRE 67 = 1 := by decide
      have hx : idx c.l 1 = some c.x1 := by kernel_rfl
      simp only [hi, hx, Option.bind_some, e, w _ hc.c1.1 hc.c1.2]
      rfl
    · have hi : indexByte str_ACJRE 74 = 2 := by decide
      have hx : idx c.l 2 = some c.x2 := by kernel_rfl
      simp only [hi, hx, Option.bind_some, e, w _ hc.c2.1 hc.c2.2]
      rfl
    · have hi : indexByte str_ACJRE 82 = 3 := by decide
      have hx : idx c.l 3 = some c.x3 := by kernel_rfl
      simp only [hi, hx, Option.bind_some, e, w _ hc.c3.1 hc.c3.2]
      rfl
    · have hi : indexByte str_ACJRE 69 = 4 := by decide
      have hx : idx c.l 4 = some c.x4 := by kernel_rfl
      simp only [hi, hx, Option.bind_some, e, w _ hc.c4.1 hc.c4.2]
      rfl
  · rw [if_neg hb]
    have hi : indexByte str_ACJRE b = -1 := by
      have := contains_iff_indexByte str_ACJRE b
      have h2 : str_ACJRE.contains b = false := by unfold isL at hb; simpa using hb
      rw [h2] at this
      have h3 := of_decide_eq_false this.symm
      have h4 := indexByte_ge str_ACJRE b
      omega
    rw [hi]; rfl
theorem col_loop {s : List UInt8} (hs : s.length ≤ 1000) (g x : Int) : ∀ (k i : Nat) (c : A5 Int) (N : Nat), i + k = s.length → k < N → Cb i c →
    iter (fun (v : Int × SCost) => mana_Parse_B20 s v.1 v.2) N ((i : Int), ⟨g, x, c⟩) = some (if (s.drop i).all isL = true then .inr ⟨g, x, (s.drop i).foldl addL c⟩ else .inl ())
  | 0, i, c, N + 1, hi, hN, hc => by
    have : s.drop i = [] := List.drop_eq_nil_of_le (by omega)
    rw [this]
    refine iter_end ?_
    show mana_Parse_B20 s i ⟨g, x, c⟩ = _
    unfold mana_Parse_B20
    rw [if_neg (by rw [bI_len]; simp; omega)]; rfl
  | k + 1, i, c, N + 1, hi, hN, hc => by
    have h : i < s.length := by omega
    have hd : s.drop i = s[i] :: s.drop (i + 1) := List.drop_eq_getElem_cons h
    have hst := col_step (g := g) (x := x) h hs hc
    by_cases hb : isL s[i] = true
    · rw [if_pos hb] at hst
      rw [iter_go (s' := (((i + 1 : Nat) : Int), ⟨g, x, addL c s[i]⟩)) hst, col_loop hs g x k (i + 1) _ N (by omega) (by omega) (hc.up _), hd]
      simp only [List.all_cons, hb, Bool.true_and, List.foldl_cons]
    · rw [if_neg hb] at hst
      rw [iter_end (r := .inl ()) hst, hd]
      rw [List.all_cons, if_neg (by simp [hb])]
theorem x_loop {t : List UInt8} (ht : hasPrefix t str_X = false) : ∀ (k : Nat) (x : Int) (N : Nat), 0 ≤ x → x + k ≤ 1000 → k < N →
    iter (fun (v : (List UInt8) × SCost) => mana_Parse_B33 v.1 v.2) N (List.replicate k 88 ++ t, ⟨0, x, z5⟩) = some (t, ⟨0, x + k, z5⟩)
  | 0, x, N + 1, _, _, _ => by
    refine (iter_end (r := (t, ⟨0, x, z5⟩)) ?_).trans (by simp)
    show mana_Parse_B33 t ⟨0, x, z5⟩ = _
    unfold mana_Parse_B33 dHasPrefix
    rw [ht]; rfl
  | k + 1, x, N + 1, h0, h1, hN => by
    have hst : mana_Parse_B33 (88 :: (List.replicate k 88 ++ t)) ⟨0, x, z5⟩ = some (.inl (List.replicate k 88 ++ t, ⟨0, x + 1, z5⟩)) := by
      have hp : hasPrefix (88 :: (List.replicate k 88 ++ t)) str_X = true := by simp [hasPrefix, str_X]
      unfold mana_Parse_B33 dHasPrefix
      rw [hp]
      simp only [Option.bind_some, if_true]
      generalize List.replicate k 88 ++ t = u
      have hs : ssub (88 :: u) 1 ((88 :: u).length : Int) = some u := by
        unfold ssub
        rw [if_pos ⟨by omega, by simp; omega, by omega⟩]
        simp
      rw [hs, wrap64_id (by omega) (by omega)]; rfl
    rw [List.replicate_succ, List.cons_append, iter_go (s' := (List.replicate k 88 ++ t, ⟨0, x + 1, z5⟩)) hst, x_loop ht k (x + 1) N (by omega) (by omega) (by omega)]
    simp; omega
theorem noX {t : List UInt8} (h : ∀ b, t.head? = some b → b ≠ 88) : hasPrefix t str_X = false := by
  cases t with
  | nil => rfl
  | cons b t =>
    have := h b rfl
    unfold hasPrefix str_X
    simp only [List.isPrefixOf_cons₂, List.isPrefixOf_nil_left, Bool.and_true]
    exact beq_eq_false_iff_ne.2 fun q => this q.symm
theorem ia {d l : List UInt8} (hd : ∀ b ∈ d, isL b = false) (hl : ∀ b, l.head? = some b → isL b = true) : indexAny (d ++ l ++ [65]) str_ACJRE = d.length := by
  have hno : NoAny (d ++ l ++ [65]) str_ACJRE d.length := fun j b hj hb => by
    rw [List.append_assoc, List.getElem?_append_left hj] at hb
    exact hd b (List.mem_of_getElem? hb)
  cases l with
  | nil =>
    refine indexAny_hit (x := 65) hno ?_ (by decide)
    rw [List.append_nil, List.getElem?_append_right (Nat.le_refl _)]
    simp
  | cons b r =>
    refine indexAny_hit (x := b) hno ?_ (hl b rfl)
    rw [List.append_assoc, List.getElem?_append_right (Nat.le_refl _)]
    simp
def zC3 : SCost × Int := (zC', 3)
def fin9 (s : List UInt8) (c : SCost) : SCost × Int := if s = [] ∨ textS c ≠ s then zC3 else (c, 0)
theorem J9_eq (s : List UInt8) (c : SCost) : mana_Parse_J9 s c = some (fin9 s c) := by
  unfold mana_Parse_J9 fin9
  rw [text_eq]
  by_cases hs : s = []
  · subst hs; rfl
  · have h0 : (s == ([] : List UInt8)) = false := by simpa using hs
    rw [h0]
    simp only [beq_self_eq_true, gd_true, Option.bind_some, Bool.false_eq_true, if_false]
    by_cases ht : textS c = s
    · rw [if_neg (by simp [ht]), if_neg (fun q => q.elim hs (fun r => r ht))]
    · rw [if_pos (by simpa using ht), if_pos (.inr ht)]; rfl
theorem parse_at {s : List UInt8} {k : Nat} {d l : List UInt8} (hs : s = List.replicate k 88 ++ (d ++ l)) (hk : s.length ≤ 1000) (hd : ∀ b ∈ d, isL b = false) (hl : ∀ b, l.head? = some b → isL b = true)
    (hp : hasPrefix (d ++ l) str_X = false) (hia : dIndexAny (d ++ l ++ [65]) str_ACJRE = some (indexAny (d ++ l ++ [65]) str_ACJRE)) :
    mana_Parse s = some (if l.all isL = true then fin9 s ⟨(numS d).1, k, l.foldl addL z5⟩ else zC3) := by
  have hlen : k + (d.length + l.length) ≤ 1000 := by rw [hs] at hk; simpa using hk
  unfold mana_Parse
  have hx := x_loop (t := d ++ l) hp k 0 FU (by omega) (by omega) (by unfold FU; omega)
  rw [← hs] at hx
  have hx' : iter (fun (v : (List UInt8) × SCost) => mana_Parse_B33 v.1 v.2) FU (s, (⟨(0 : Int), (0 : Int), (⟨(0 : Int), (0 : Int), (0 : Int), (0 : Int), (0 : Int)⟩ : A5 (Int))⟩ : SCost)) = some (d ++ l, ⟨0, 0 + (k : Int), z5⟩) := hx
  rw [hx', Int.zero_add]
  simp only [Option.bind_some]
  unfold mana_Parse_J3
  rw [cat_some (by simp [maxLen, str_A]; omega)]
  simp only [Option.bind_some]
  have hia' : dIndexAny (d ++ l ++ str_A) str_ACJRE = some ((d.length : Nat) : Int) := by
    rw [← ia hd hl]; exact hia
  have s1 : ssub (d ++ l) 0 ((d.length : Nat) : Int) = some d := by
    unfold ssub
    rw [if_pos ⟨by omega, by omega, by simp; omega⟩]
    simp
  have s2 : ssub (d ++ l) ((d.length : Nat) : Int) ((d ++ l).length : Int) = some l := by
    unfold ssub
    rw [if_pos ⟨by omega, by simp; omega, by omega⟩, Int.toNat_natCast, Int.toNat_natCast, List.drop_left, List.length_append]
    exact congrArg some (List.take_of_length_le (by omega))
  rw [hia']
  simp only [Option.bind_some]
  rw [s1]
  simp only [Option.bind_some]
  rw [number_eq (by omega)]
  simp only [Option.bind_some]
  rw [s2]
  simp only [Option.bind_some]
  rw [need_some (by omega)]
  simp only [Option.bind_some]
  have hc := col_loop (s := l) (by omega) (numS d).1 k l.length 0 z5 FU (by omega) (by unfold FU; omega) ⟨by decide, by decide, by decide, by decide, by decide⟩
  rw [List.drop_zero] at hc
  have hc' : iter (fun (v : Int × SCost) => mana_Parse_B20 l v.1 v.2) FU ((0 : Int), ({ (⟨0, (k : Int), z5⟩ : SCost) with Generic := (numS d).1 })) = _ := hc
  rw [hc']
  by_cases h : l.all isL = true
  · rw [if_pos h, if_pos h]
    simp only [Option.bind_some, Sum.elim_inr, J9_eq]
  · rw [if_neg h, if_neg h]; rfl
/-! Texts of valid costs. -/
theorem dg_isL {b : UInt8} (h : isDg b) : isL b = false := by
  cases hb : isL b
  · rfl
  · exfalso
    unfold isDg at h
    rcases isL_iff.1 hb with rfl | rfl | rfl | rfl | rfl <;> revert h <;> decide
theorem dg_ne {b : UInt8} (h : isDg b) : b ≠ 88 := by rintro rfl; revert h; unfold isDg; decide
theorem l_ne {b : UInt8} (h : isL b = true) : b ≠ 88 := by rintro rfl; revert h; decide
theorem gtx_dg {g : Int} (h : 0 ≤ g) : ∀ b ∈ gtx g, isDg b := by
  unfold gtx
  split
  · rw [itoa_dg h]; exact decDigits_dg _
  · intro b hb; cases hb
def cols (c : A5 Int) : List UInt8 := rpl c.x0 65 ++ (rpl c.x1 67 ++ (rpl c.x2 74 ++ (rpl c.x3 82 ++ rpl c.x4 69)))
theorem tx5_cols (c : SCost) : tx5 c = List.replicate c.X.toNat 88 ++ (gtx c.Generic ++ cols c.Color) := by
  unfold tx5 tx4 tx3 tx2 tx1 tx0 cols
  simp only [List.append_assoc]; rfl
theorem cols_L (c : A5 Int) : ∀ b ∈ cols c, isL b = true := by
  intro b hb
  unfold cols rpl at hb
  simp only [List.mem_append, List.mem_replicate] at hb
  rw [isL_iff]
  rcases hb with hb | hb | hb | hb | hb
  · exact .inl hb.2
  · exact .inr (.inl hb.2)
  · exact .inr (.inr (.inl hb.2))
  · exact .inr (.inr (.inr (.inl hb.2)))
  · exact .inr (.inr (.inr (.inr hb.2)))
theorem fold_0 (n : Nat) (a b c d e : Int) : (List.replicate n 65).foldl addL ⟨a, b, c, d, e⟩ = ⟨a + n, b, c, d, e⟩ := by
  induction n generalizing a with
  | zero => simp
  | succ n ih =>
    rw [List.replicate_succ, List.foldl_cons]
    show (List.replicate n 65).foldl addL ⟨a + 1, b, c, d, e⟩ = _
    rw [ih]; simp; omega
theorem fold_1 (n : Nat) (a b c d e : Int) : (List.replicate n 67).foldl addL ⟨a, b, c, d, e⟩ = ⟨a, b + n, c, d, e⟩ := by
  induction n generalizing b with
  | zero => simp
  | succ n ih =>
    rw [List.replicate_succ, List.foldl_cons]
    show (List.replicate n 67).foldl addL ⟨a, b + 1, c, d, e⟩ = _
    rw [ih]; simp; omega
theorem fold_2 (n : Nat) (a b c d e : Int) : (List.replicate n 74).foldl addL ⟨a, b, c, d, e⟩ = ⟨a, b, c + n, d, e⟩ := by
  induction n generalizing c with
  | zero => simp
  | succ n ih =>
    rw [List.replicate_succ, List.foldl_cons]
    show (List.replicate n 74).foldl addL ⟨a, b, c + 1, d, e⟩ = _
    rw [ih]; simp; omega
theorem fold_3 (n : Nat) (a b c d e : Int) : (List.replicate n 82).foldl addL ⟨a, b, c, d, e⟩ = ⟨a, b, c, d + n, e⟩ := by
  induction n generalizing d with
  | zero => simp
  | succ n ih =>
    rw [List.replicate_succ, List.foldl_cons]
    show (List.replicate n 82).foldl addL ⟨a, b, c, d + 1, e⟩ = _
    rw [ih]; simp; omega
theorem fold_4 (n : Nat) (a b c d e : Int) : (List.replicate n 69).foldl addL ⟨a, b, c, d, e⟩ = ⟨a, b, c, d, e + n⟩ := by
  induction n generalizing e with
  | zero => simp
  | succ n ih =>
    rw [List.replicate_succ, List.foldl_cons]
    show (List.replicate n 69).foldl addL ⟨a, b, c, d, e + 1⟩ = _
    rw [ih]; simp; omega
theorem fold_cols {c : A5 Int} (h0 : 0 ≤ c.x0) (h1 : 0 ≤ c.x1) (h2 : 0 ≤ c.x2) (h3 : 0 ≤ c.x3) (h4 : 0 ≤ c.x4) : (cols c).foldl addL z5 = c := by
  obtain ⟨a, b, d, e, f⟩ := c
  unfold cols rpl z5
  simp only [List.foldl_append, fold_0, fold_1, fold_2, fold_3, fold_4]
  simp only [A5.mk.injEq]
  dsimp only at *
  omega
theorem iaOk {t : List UInt8} (hl : t.length ≤ 1000) : dIndexAny t str_ACJRE = some (indexAny t str_ACJRE) := by
  unfold dIndexAny asciiB
  rw [if_pos ⟨by omega, by decide, by decide, by decide⟩]
theorem itoa0 : itoa 0 = [48] := by
  rw [itoa_dg (by omega), decDigits]; rfl
theorem textS_ne {c : SCost} (h : isS c = true) : textS c ≠ [] := by
  unfold textS
  rw [if_neg (by simp [h])]
  split
  · decide
  · rename_i hz; exact fun q => hz ((tx5_nil (isS_ok h)).1 q)
theorem parse_text {c : SCost} (h : isS c = true) : mana_Parse (textS c) = some (c, 0) := by
  have hO := isS_ok h
  have hne := textS_ne h
  by_cases hz : c = zC'
  · subst hz
    have hn : numS [48] = (0, true) := by rw [← itoa0]; exact numS_itoa (by omega) (by omega)
    have ht : textS zC' = [48] := by kernel_rfl
    rw [ht] at hne ⊢
    rw [parse_at (s := [48]) (k := 0) (d := [48]) (l := []) rfl (by decide) (by decide) (fun b hb => by cases hb) (by decide) (iaOk (by decide)), hn]
    simp only [List.all_nil, if_true, List.foldl_nil]
    unfold fin9
    have e : (⟨0, ((0 : Nat) : Int), z5⟩ : SCost) = zC' := rfl
    rw [e, if_neg (fun q => q.elim (fun r => by cases r) (fun r => r ht))]
  · have ht : textS c = tx5 c := by unfold textS; rw [if_neg (by simp [h]), if_neg hz]
    have hl := (tx_lens hO).2.2.2.2.2
    have hcl : ∀ b, (cols c.Color).head? = some b → isL b = true := fun b hb => cols_L _ b (List.mem_of_mem_head? hb)
    have hg := hO.g
    have hdg := gtx_dg hg.1
    have hgl := gtx_len hg
    have hlc : (gtx c.Generic).length + (cols c.Color).length ≤ 68 := by
      have := congrArg List.length (tx5_cols c)
      simp only [List.length_append] at this
      omega
    have hnum : (numS (gtx c.Generic)).1 = c.Generic := by
      unfold gtx
      split
      · rw [numS_itoa (by omega) (by omega)]
      · rw [numS_nil]; show 0 = _; omega
    rw [ht]
    rw [parse_at (s := tx5 c) (k := c.X.toNat) (d := gtx c.Generic) (l := cols c.Color) (tx5_cols c) (by omega) (fun b hb => dg_isL (hdg b hb)) hcl ?_ ?_]
    · rw [if_pos (List.all_eq_true.2 fun b hb => cols_L _ b hb), hnum, fold_cols hO.c0.1 hO.c1.1 hO.c2.1 hO.c3.1 hO.c4.1]
      have e : (⟨c.Generic, ((c.X.toNat : Nat) : Int), c.Color⟩ : SCost) = c := by
        have := hO.x
        rw [show ((c.X.toNat : Nat) : Int) = c.X by omega]
      rw [e]
      unfold fin9
      rw [if_neg]
      rw [← ht]
      exact fun q => q.elim hne (fun r => r rfl)
    · refine noX fun b hb => ?_
      cases hgx : gtx c.Generic with
      | nil => rw [hgx, List.nil_append] at hb; exact l_ne (hcl b hb)
      | cons y r => rw [hgx] at hb; cases hb; exact dg_ne (hdg _ (by rw [hgx]; simp))
    · exact iaOk (by simp; omega)
theorem textS_nil {c : SCost} : textS c = [] ↔ isS c = false := by
  constructor
  · intro h
    cases hc : isS c
    · rfl
    · exact (textS_ne hc h).elim
  · intro h; unfold textS; rw [if_pos h]
end Go.PL
