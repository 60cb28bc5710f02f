/- Plain laws of the mana chapter: Parse of any text; ManaParses. -/
import Derived.Test.YtieikooalmfmfaaDoorPlMaR
namespace Go.PL
open Go Go.Lib
set_option maxRecDepth 100000
set_option linter.all false
set_option maxHeartbeats 1000000
/-! The program's Parse. -/
theorem split_while (p : UInt8 → Bool) (s : List UInt8) : ∃ d l, s = d ++ l ∧ (∀ b ∈ d, p b = true) ∧ (∀ b, l.head? = some b → p b = false) := by
  induction s with
  | nil => exact ⟨[], [], rfl, by simp, by simp⟩
  | cons x s ih =>
    cases hx : p x
    · exact ⟨[], x :: s, rfl, by simp, fun b hb => by cases hb; exact hx⟩
    · obtain ⟨d, l, h1, h2, h3⟩ := ih
      exact ⟨x :: d, l, by rw [h1]; rfl, fun b hb => by
        rcases List.mem_cons.1 hb with rfl | hb
        · exact hx
        · exact h2 b hb, h3⟩
theorem all_rep {d : List UInt8} {x : UInt8} (h : ∀ b ∈ d, (b == x) = true) : d = List.replicate d.length x := by
  rw [List.eq_replicate_iff]
  exact ⟨rfl, fun b hb => by simpa using h b hb⟩
theorem mparse_any {s : List UInt8} (hs : s.length ≤ 500) : ∃ r, mana_Parse s = some r ∧ (r = zC3 ∨ ∃ c, r = (c, 0) ∧ textS c = s ∧ s ≠ []) := by
  obtain ⟨d0, t, e1, h1, h2⟩ := split_while (· == 88) s
  obtain ⟨d, l, e2, h3, h4⟩ := split_while (fun b => !isL b) t
  have e0 := all_rep h1
  have hsp : s = List.replicate d0.length 88 ++ (d ++ l) := by rw [← e0, ← e2]; exact e1
  have hl : d.length + l.length ≤ 500 := by
    have := congrArg List.length hsp
    simp at this; omega
  have := parse_at (k := d0.length) hsp (by omega) (fun b hb => by simpa using h3 b hb) (fun b hb => by simpa using h4 b hb) (noX fun b hb => by
    have := h2 b (by rw [e2]; exact hb)
    simpa using this) (iaOk (by simp; omega))
  refine ⟨_, this, ?_⟩
  split
  · unfold fin9
    split
    · exact .inl rfl
    · rename_i hq
      exact .inr ⟨_, rfl, Classical.byContradiction fun h => hq (.inr h), fun h => hq (.inl h)⟩
  · exact .inl rfl
theorem mparse_cases {s : List UInt8} (hs : s.length ≤ 500) : (∃ c, isS c = true ∧ textS c = s ∧ mana_Parse s = some (c, 0)) ∨ ((∀ c, isS c = true → textS c ≠ s) ∧ mana_Parse s = some zC3) := by
  by_cases h : ∃ c, isS c = true ∧ textS c = s
  · obtain ⟨c, h1, h2⟩ := h
    exact .inl ⟨c, h1, h2, by rw [← h2]; exact parse_text h1⟩
  · refine .inr ⟨fun c h1 h2 => h ⟨c, h1, h2⟩, ?_⟩
    obtain ⟨r, h1, h2⟩ := mparse_any hs
    rcases h2 with rfl | ⟨c, rfl, h3, h4⟩
    · exact h1
    · refine absurd ⟨c, ?_, h3⟩ h
      cases hc : isS c
      · exact absurd (h3.symm.trans (textS_nil.2 hc)) h4
      · rfl
/-! The reference's Parse. -/
def dgW (g : Int) (a : Int) : Int := wrap64 ((wrap64 ((10 : Int) * g)) + (wrap64 (IntKind.u8.wrap (a - (48 : Int)))))
def letS (c : SCost) (a : Int) : SCost ⊕ Unit :=
  if ((65 : Int) == a) = true then .inl { c with Color := { c.Color with x0 := wrap64 (c.Color.x0 + 1) } }
  else if ((67 : Int) == a) = true then .inl { c with Color := { c.Color with x1 := wrap64 (c.Color.x1 + 1) } }
  else if ((74 : Int) == a) = true then .inl { c with Color := { c.Color with x2 := wrap64 (c.Color.x2 + 1) } }
  else if ((82 : Int) == a) = true then .inl { c with Color := { c.Color with x3 := wrap64 (c.Color.x3 + 1) } }
  else if ((69 : Int) == a) = true then .inl { c with Color := { c.Color with x4 := wrap64 (c.Color.x4 + 1) } }
  else .inr ()
theorem kB0 (c : SCost) (a : Int) : r08_count_B8 c a 0 = (if ((65 : Int) == a) = true then some (.inr (.inl { c with Color := { c.Color with x0 := wrap64 (c.Color.x0 + 1) } })) else some (.inl 1)) := by kernel_rfl
theorem kB1 (c : SCost) (a : Int) : r08_count_B8 c a 1 = (if ((67 : Int) == a) = true then some (.inr (.inl { c with Color := { c.Color with x1 := wrap64 (c.Color.x1 + 1) } })) else some (.inl 2)) := by kernel_rfl
theorem kB2 (c : SCost) (a : Int) : r08_count_B8 c a 2 = (if ((74 : Int) == a) = true then some (.inr (.inl { c with Color := { c.Color with x2 := wrap64 (c.Color.x2 + 1) } })) else some (.inl 3)) := by kernel_rfl
theorem kB3 (c : SCost) (a : Int) : r08_count_B8 c a 3 = (if ((82 : Int) == a) = true then some (.inr (.inl { c with Color := { c.Color with x3 := wrap64 (c.Color.x3 + 1) } })) else some (.inl 4)) := by kernel_rfl
theorem kB4 (c : SCost) (a : Int) : r08_count_B8 c a 4 = (if ((69 : Int) == a) = true then some (.inr (.inl { c with Color := { c.Color with x4 := wrap64 (c.Color.x4 + 1) } })) else some (.inl 5)) := by kernel_rfl
theorem kB5 (c : SCost) (a : Int) : r08_count_B8 c a 5 = some (.inr (.inr ())) := by kernel_rfl
theorem let_loop (c : SCost) (a : Int) : iter (fun (v : Int) => r08_count_B8 c a v) FU 0 = some (letS c a) := by
  rw [FU7]
  unfold letS
  cases h0 : ((65 : Int) == a)
  · cases h1 : ((67 : Int) == a)
    · cases h2 : ((74 : Int) == a)
      · cases h3 : ((82 : Int) == a)
        · cases h4 : ((69 : Int) == a) <;> simp only [iter, kB0, kB1, kB2, kB3, kB4, kB5, h0, h1, h2, h3, h4, Bool.false_eq_true, if_false, if_true]
        · simp only [iter, kB0, kB1, kB2, kB3, h0, h1, h2, h3, Bool.false_eq_true, if_false, if_true]
      · simp only [iter, kB0, kB1, kB2, h0, h1, h2, Bool.false_eq_true, if_false, if_true]
    · simp only [iter, kB0, kB1, h0, h1, Bool.false_eq_true, if_false, if_true]
  · simp only [iter, kB0, h0, Bool.false_eq_true, if_false, if_true]
def cntS (c : SCost) (a : Int) : SCost × Bool :=
  if (a == (88 : Int)) = true then ({ c with X := wrap64 (c.X + 1) }, true)
  else if (if (decide ((48 : Int) ≤ a)) = true then decide (a ≤ (57 : Int)) else false) = true then ({ c with Generic := dgW c.Generic a }, true)
  else Sum.elim (fun d => (d, true)) (fun _ => (c, false)) (letS c a)
theorem count_eq (c : SCost) (a : Int) : r08_count c a = some (cntS c a) := by
  unfold r08_count cntS
  rw [let_loop]
  cases h0 : (a == (88 : Int))
  · simp only [Bool.false_eq_true, if_false, Option.bind_some]
    cases h1 : (if (decide ((48 : Int) ≤ a)) = true then decide (a ≤ (57 : Int)) else false)
    · simp only [Bool.false_eq_true, if_false]
      cases letS c a <;> rfl
    · rfl
  · rfl
def rstep (c : SCost) (b : UInt8) : Option SCost := if (if (!(cntS c (b.toNat : Nat)).2) = true then true else decide ((99 : Int) < (cntS c (b.toNat : Nat)).1.Generic)) = true then none else some (cntS c (b.toNat : Nat)).1
def run8 : List UInt8 → SCost → Option SCost
  | [], c => some c
  | b :: l, c => (rstep c b).bind (run8 l)
theorem run8_app : ∀ (l m : List UInt8) (c : SCost), run8 (l ++ m) c = (run8 l c).bind (run8 m)
  | [], m, c => rfl
  | b :: l, m, c => by
    show (rstep c b).bind (run8 (l ++ m)) = ((rstep c b).bind (run8 l)).bind (run8 m)
    cases rstep c b with
    | none => rfl
    | some d => exact run8_app l m d
theorem sidx_at {s : List UInt8} {i : Nat} (h : i < s.length) : sidx s (i : Int) = some ((s[i].toNat : Nat) : Int) := by
  unfold sidx
  rw [if_pos ⟨by omega, by omega⟩]
  simp [List.getD_eq_getElem?_getD, h]
theorem rp_loop {s : List UInt8} (hs : s.length ≤ 1000) : ∀ (k i : Nat) (c : SCost) (N : Nat), i + k = s.length → k < N →
    iter (fun (v : Int × SCost) => r08_Parse_B12 s v.1 v.2) N ((i : Int), c) = some (match run8 (s.drop i) c with | some c' => .inr c' | none => .inl ())
  | 0, i, c, N + 1, hi, hN => by
    have : s.drop i = [] := List.drop_eq_nil_of_le (by omega)
    rw [this]
    refine iter_end ?_
    show r08_Parse_B12 s i c = _
    unfold r08_Parse_B12
    rw [if_neg (by simp; omega)]; rfl
  | k + 1, i, c, N + 1, hi, hN => by
    have h : i < s.length := by omega
    have hd : s.drop i = s[i] :: s.drop (i + 1) := List.drop_eq_getElem_cons h
    have hst : r08_Parse_B12 s i c = some (match rstep c s[i] with | some c' => .inl (((i + 1 : Nat) : Int), c') | none => .inr (.inl ())) := by
      unfold r08_Parse_B12 rstep
      rw [if_pos (by simpa using h), sidx_at h]
      simp only [Option.bind_some, count_eq]
      have e : wrap64 ((i : Int) + 1) = ((i + 1 : Nat) : Int) := by rw [wrap64_id (by omega) (by omega)]; rfl
      rw [e]
      cases (if (!(cntS c (s[i].toNat : Nat)).2) = true then true else decide ((99 : Int) < (cntS c (s[i].toNat : Nat)).1.Generic)) <;> rfl
    rw [hd]
    show iter _ (N + 1) _ = some (match (rstep c s[i]).bind (run8 (s.drop (i + 1))) with | some c' => (Sum.inr c' : Unit ⊕ SCost) | none => Sum.inl ())
    cases hr : rstep c s[i] with
    | none =>
      rw [hr] at hst
      exact iter_end hst
    | some c' =>
      rw [hr] at hst
      rw [iter_go (s' := (((i + 1 : Nat) : Int), c')) hst, rp_loop hs k (i + 1) c' N (by omega) (by omega)]
      rfl
theorem rJ3_eq (s : List UInt8) (c : SCost) : r08_Parse_J3 s c = some (fin9 s c) := by
  unfold r08_Parse_J3 fin9
  rw [rtextS_eq]
  by_cases hs : s = []
  · subst hs; rfl
  · have h0 : (s == ([] : List UInt8)) = false := by simpa using hs
    rw [h0]
    simp only [beq_self_eq_true, gd_true, Option.bind_some, Bool.false_eq_true, if_false]
    by_cases ht : textS c = s
    · rw [if_neg (by simp [ht]), if_neg (fun q => q.elim hs (fun r => r ht))]
    · rw [if_pos (by simpa using ht), if_pos (.inr ht)]; rfl
theorem rparse_eq {s : List UInt8} (hs : s.length ≤ 60) : r08_Parse s = some (match run8 s zC' with | some c => fin9 s c | none => zC3) := by
  unfold r08_Parse
  rw [if_neg (by simp; omega)]
  have h := rp_loop (s := s) (by omega) s.length 0 zC' FU (by omega) (by unfold FU; omega)
  rw [List.drop_zero] at h
  have h' : iter (fun (v : Int × SCost) => r08_Parse_B12 s v.1 v.2) FU ((0 : Int), (⟨(0 : Int), (0 : Int), (⟨(0 : Int), (0 : Int), (0 : Int), (0 : Int), (0 : Int)⟩ : A5 (Int))⟩ : SCost)) = _ := h
  rw [h']
  cases run8 s zC' with
  | none => rfl
  | some c => simp only [Option.bind_some, Sum.elim_inr, rJ3_eq]
/-! Texts of valid costs. -/
theorem run_X (n : Nat) : ∀ x : Int, 0 ≤ x → x + n ≤ 1000 → run8 (List.replicate n 88) ⟨0, x, z5⟩ = some ⟨0, x + n, z5⟩ := by
  induction n with
  | zero => intro x _ _; simp [run8]
  | succ n ih =>
    intro x h0 h1
    rw [List.replicate_succ]
    have : rstep ⟨0, x, z5⟩ 88 = some ⟨0, x + 1, z5⟩ := by
      have w : wrap64 (x + 1) = x + 1 := wrap64_id (by omega) (by omega)
      show some (⟨0, wrap64 (x + 1), z5⟩ : SCost) = _
      rw [w]
    show (rstep ⟨0, x, z5⟩ 88).bind (run8 (List.replicate n 88)) = _
    rw [this, Option.bind_some, ih (x + 1) (by omega) (by omega)]
    congr 2; omega
theorem rstep_dg {g x : Int} {k : A5 Int} {d : Nat} (hg : 0 ≤ g) (hd : d < 10) (h : 10 * g + d ≤ 99) : rstep ⟨g, x, k⟩ (UInt8.ofNat (48 + d)) = some ⟨10 * g + d, x, k⟩ := by
  have e : dgW g ((48 + d : Nat) : Int) = 10 * g + d := by
    unfold dgW
    rw [wrapu8_id (by omega) (by omega), wrap64_id (x := 10 * g) (by omega) (by omega), wrap64_id (x := ((48 + d : Nat) : Int) - 48) (by omega) (by omega), wrap64_id (by omega) (by omega)]
    omega
  unfold rstep
  rw [dg_val d hd]
  have hc : cntS ⟨g, x, k⟩ ((48 + d : Nat) : Int) = (⟨10 * g + d, x, k⟩, true) := by
    unfold cntS
    have h0 : (((48 + d : Nat) : Int) == 88) = false := beq_eq_false_iff_ne.2 (by omega)
    have h1 : (if (decide ((48 : Int) ≤ ((48 + d : Nat) : Int))) = true then decide (((48 + d : Nat) : Int) ≤ (57 : Int)) else false) = true := by
      rw [if_pos (by simp; omega)]; simp; omega
    rw [h0, h1, if_neg (by simp), if_pos rfl]
    simp only [e]
  rw [hc]
  simp only [Bool.not_true, Bool.false_eq_true, if_false]
  rw [if_neg (by simp; omega)]
theorem run_dg {u : Nat} {x : Int} (h : u ≤ 99) : run8 (decDigits u) ⟨0, x, z5⟩ = some ⟨u, x, z5⟩ := by
  by_cases h1 : u < 10
  · rw [decDigits, dif_pos h1]
    show (rstep _ _).bind (run8 []) = _
    rw [rstep_dg (by omega) h1 (by omega), Option.bind_some]
    show some _ = _
    congr 2; omega
  · rw [decDigits, dif_neg h1, decDigits, dif_pos (by omega), List.singleton_append]
    show (rstep _ _).bind (fun c => (rstep c _).bind (run8 [])) = _
    rw [rstep_dg (by omega) (by omega) (by omega), Option.bind_some, rstep_dg (by omega) (by omega) (by omega), Option.bind_some]
    show some _ = _
    congr 2; omega
theorem w1 {a : Int} {n : Nat} (h0 : 0 ≤ a) (h1 : a + (n + 1 : Nat) ≤ 1000) : wrap64 (a + 1) = a + 1 := wrap64_id (by omega) (by omega)
theorem rstep_L {g x : Int} {k k' : A5 Int} {b : UInt8} (hg : 0 ≤ g ∧ g ≤ 99) (hb : isL b = true) (h : letS ⟨g, x, k⟩ (b.toNat : Nat) = .inl ⟨g, x, k'⟩) : rstep ⟨g, x, k⟩ b = some ⟨g, x, k'⟩ := by
  have hc : cntS ⟨g, x, k⟩ (b.toNat : Nat) = (⟨g, x, k'⟩, true) := by
    unfold cntS
    rw [h]
    rcases isL_iff.1 hb with rfl | rfl | rfl | rfl | rfl <;> rfl
  unfold rstep
  rw [hc]
  simp only [Bool.not_true, Bool.false_eq_true, if_false]
  rw [if_neg (by simp; omega)]
section
variable {g x : Int} (hg : 0 ≤ g ∧ g ≤ 99)
include hg
theorem run_0 (n : Nat) : ∀ a b c d e : Int, 0 ≤ a → a + n ≤ 1000 → run8 (List.replicate n 65) ⟨g, x, ⟨a, b, c, d, e⟩⟩ = some ⟨g, x, ⟨a + n, b, c, d, e⟩⟩ := by
  induction n with
  | zero => intros; simp [run8]
  | succ n ih =>
    intro a b c d e h0 h1
    rw [List.replicate_succ]
    show (rstep _ 65).bind (run8 (List.replicate n 65)) = _
    rw [rstep_L hg (k' := ⟨a + 1, b, c, d, e⟩) (by decide) (by show Sum.inl (⟨g, x, ⟨wrap64 (a + 1), b, c, d, e⟩⟩ : SCost) = _; rw [w1 h0 h1]), Option.bind_some, ih (a + 1) b c d e (by omega) (by omega)]
    congr 3; omega
theorem run_1 (n : Nat) : ∀ a b c d e : Int, 0 ≤ b → b + n ≤ 1000 → run8 (List.replicate n 67) ⟨g, x, ⟨a, b, c, d, e⟩⟩ = some ⟨g, x, ⟨a, b + n, c, d, e⟩⟩ := by
  induction n with
  | zero => intros; simp [run8]
  | succ n ih =>
    intro a b c d e h0 h1
    rw [List.replicate_succ]
    show (rstep _ 67).bind (run8 (List.replicate n 67)) = _
    rw [rstep_L hg (k' := ⟨a, b + 1, c, d, e⟩) (by decide) (by show Sum.inl (⟨g, x, ⟨a, wrap64 (b + 1), c, d, e⟩⟩ : SCost) = _; rw [w1 h0 h1]), Option.bind_some, ih a (b + 1) c d e (by omega) (by omega)]
    congr 3; omega
theorem run_2 (n : Nat) : ∀ a b c d e : Int, 0 ≤ c → c + n ≤ 1000 → run8 (List.replicate n 74) ⟨g, x, ⟨a, b, c, d, e⟩⟩ = some ⟨g, x, ⟨a, b, c + n, d, e⟩⟩ := by
  induction n with
  | zero => intros; simp [run8]
  | succ n ih =>
    intro a b c d e h0 h1
    rw [List.replicate_succ]
    show (rstep _ 74).bind (run8 (List.replicate n 74)) = _
    rw [rstep_L hg (k' := ⟨a, b, c + 1, d, e⟩) (by decide) (by show Sum.inl (⟨g, x, ⟨a, b, wrap64 (c + 1), d, e⟩⟩ : SCost) = _; rw [w1 h0 h1]), Option.bind_some, ih a b (c + 1) d e (by omega) (by omega)]
    congr 3; omega
theorem run_3 (n : Nat) : ∀ a b c d e : Int, 0 ≤ d → d + n ≤ 1000 → run8 (List.replicate n 82) ⟨g, x, ⟨a, b, c, d, e⟩⟩ = some ⟨g, x, ⟨a, b, c, d + n, e⟩⟩ := by
  induction n with
  | zero => intros; simp [run8]
  | succ n ih =>
    intro a b c d e h0 h1
    rw [List.replicate_succ]
    show (rstep _ 82).bind (run8 (List.replicate n 82)) = _
    rw [rstep_L hg (k' := ⟨a, b, c, d + 1, e⟩) (by decide) (by show Sum.inl (⟨g, x, ⟨a, b, c, wrap64 (d + 1), e⟩⟩ : SCost) = _; rw [w1 h0 h1]), Option.bind_some, ih a b c (d + 1) e (by omega) (by omega)]
    congr 3; omega
theorem run_4 (n : Nat) : ∀ a b c d e : Int, 0 ≤ e → e + n ≤ 1000 → run8 (List.replicate n 69) ⟨g, x, ⟨a, b, c, d, e⟩⟩ = some ⟨g, x, ⟨a, b, c, d, e + n⟩⟩ := by
  induction n with
  | zero => intros; simp [run8]
  | succ n ih =>
    intro a b c d e h0 h1
    rw [List.replicate_succ]
    show (rstep _ 69).bind (run8 (List.replicate n 69)) = _
    rw [rstep_L hg (k' := ⟨a, b, c, d, e + 1⟩) (by decide) (by show Sum.inl (⟨g, x, ⟨a, b, c, d, wrap64 (e + 1)⟩⟩ : SCost) = _; rw [w1 h0 h1]), Option.bind_some, ih a b c d (e + 1) (by omega) (by omega)]
    congr 3; omega
end
theorem run_text {c : SCost} (h : isS c = true) : run8 (textS c) zC' = some c ∧ (textS c).length ≤ 60 := by
  have hO := isS_ok h
  by_cases hz : c = zC'
  · subst hz
    have ht : textS zC' = [48] := by kernel_rfl
    rw [ht]
    exact ⟨by kernel_rfl, by decide⟩
  · have ht : textS c = tx5 c := by unfold textS; rw [if_neg (by simp [h]), if_neg hz]
    have hg := hO.g; have hx := hO.x; have a := hO.c0; have b := hO.c1; have d := hO.c2; have e := hO.c3; have f := hO.c4
    rw [ht, tx5_cols]
    have hgx : run8 (gtx c.Generic) ⟨0, c.X, z5⟩ = some ⟨c.Generic, c.X, z5⟩ ∧ (gtx c.Generic).length ≤ 2 := by
      unfold gtx
      split
      · rw [itoa_dg hg.1]
        refine ⟨?_, decDigits_le 1 _ (by omega)⟩
        rw [run_dg (by omega)]
        congr 2; omega
      · refine ⟨?_, by simp⟩
        show some _ = _
        congr 2; omega
    constructor
    · rw [run8_app]
      have h1 := run_X c.X.toNat 0 (by omega) (by omega)
      rw [show (zC' : SCost) = ⟨0, 0, z5⟩ from rfl, h1, Option.bind_some, show (0 : Int) + (c.X.toNat : Nat) = c.X by omega, run8_app, hgx.1, Option.bind_some]
      unfold cols rpl z5
      rw [run8_app]
      rw [run_0 hg _ _ _ _ _ _ (by omega) (by omega), Option.bind_some, run8_app, run_1 hg _ _ _ _ _ _ (by omega) (by omega), Option.bind_some, run8_app, run_2 hg _ _ _ _ _ _ (by omega) (by omega), Option.bind_some, run8_app, run_3 hg _ _ _ _ _ _ (by omega) (by omega), Option.bind_some, run_4 hg _ _ _ _ _ _ (by omega) (by omega)]
      obtain ⟨g, x, ⟨c0, c1, c2, c3, c4⟩⟩ := c
      dsimp only at *
      congr 3 <;> omega
    · have : (cols c.Color).length ≤ 45 := by unfold cols; simp only [List.length_append, rpl_len]; omega
      simp only [List.length_append, List.length_replicate]
      omega
theorem rparse_cases {s : List UInt8} (hs : s.length ≤ 500) : (∀ c, isS c = true → textS c = s → r08_Parse s = some (c, 0)) ∧ ((∀ c, isS c = true → textS c ≠ s) → r08_Parse s = some zC3) := by
  constructor
  · intro c h1 h2
    obtain ⟨r1, r2⟩ := run_text h1
    rw [h2] at r1 r2
    rw [rparse_eq r2, r1]
    show some (fin9 s c) = _
    unfold fin9
    rw [if_neg]
    rintro (h | h)
    · exact textS_ne h1 (h2.trans h)
    · exact h h2
  · intro h
    by_cases h6 : s.length ≤ 60
    · rw [rparse_eq h6]
      cases run8 s zC' with
      | none => rfl
      | some c =>
        show some (fin9 s c) = _
        unfold fin9
        rw [if_pos]
        by_cases hs0 : s = []
        · exact .inl hs0
        · refine .inr fun ht => ?_
          cases hc : isS c
          · exact hs0 (ht.symm.trans (textS_nil.2 hc))
          · exact h c hc ht
    · unfold r08_Parse
      rw [if_pos (by simp; omega)]; rfl
/-! Pools. -/
def poolOf (c : SCost) : A6 Int := ⟨c.Generic, c.Color.x0, c.Color.x1, c.Color.x2, c.Color.x3, c.Color.x4⟩
theorem mpool_ok {s : List UInt8} {c : SCost} (h : mana_Parse s = some (c, 0)) (hx : 0 ≤ c.X) : mana_ParsePool s = some (if 0 < c.X then (zP, 3) else (poolOf c, 0)) := by
  unfold mana_ParsePool
  rw [h]
  simp only [Option.bind_some]
  have e : (⟨(⟨c.Generic, (0 : Int), (0 : Int), (0 : Int), (0 : Int), (0 : Int)⟩ : A6 (Int)).x0, c.Color.x0, c.Color.x1, c.Color.x2, c.Color.x3, c.Color.x4⟩ : A6 (Int)) = poolOf c := rfl
  rw [e, cost_eq]
  have hc : costS (poolOf c) = c ↔ ¬ 0 < c.X := by
    obtain ⟨g, x, ⟨a, b, d, e, f⟩⟩ := c
    unfold costS poolOf
    simp only [SCost.mk.injEq, and_true, true_and]
    dsimp only at hx
    omega
  by_cases h0 : 0 < c.X
  · have : (costS (poolOf c) == c) = false := beq_eq_false_iff_ne.2 fun q => hc.1 q h0
    simp [gd, hc, h0, zP]
  · have : (costS (poolOf c) == c) = true := beq_iff_eq.2 (hc.2 h0)
    simp [gd, hc, h0]
theorem mpool_bad {s : List UInt8} (h : mana_Parse s = some zC3) : mana_ParsePool s = some (zP, 3) := by
  unfold mana_ParsePool
  rw [h]; rfl
theorem lpB0 (r : SCost × Int) (a b c d e f : Int) : r08_ParsePool_B11 r 0 ⟨a, b, c, d, e, f⟩ = some (.inl (1, ⟨a, r.1.Color.x0, c, d, e, f⟩)) := by kernel_rfl
theorem lpB1 (r : SCost × Int) (a b c d e f : Int) : r08_ParsePool_B11 r 1 ⟨a, b, c, d, e, f⟩ = some (.inl (2, ⟨a, b, r.1.Color.x1, d, e, f⟩)) := by kernel_rfl
theorem lpB2 (r : SCost × Int) (a b c d e f : Int) : r08_ParsePool_B11 r 2 ⟨a, b, c, d, e, f⟩ = some (.inl (3, ⟨a, b, c, r.1.Color.x2, e, f⟩)) := by kernel_rfl
theorem lpB3 (r : SCost × Int) (a b c d e f : Int) : r08_ParsePool_B11 r 3 ⟨a, b, c, d, e, f⟩ = some (.inl (4, ⟨a, b, c, d, r.1.Color.x3, f⟩)) := by kernel_rfl
theorem lpB4 (r : SCost × Int) (a b c d e f : Int) : r08_ParsePool_B11 r 4 ⟨a, b, c, d, e, f⟩ = some (.inl (5, ⟨a, b, c, d, e, r.1.Color.x4⟩)) := by kernel_rfl
theorem lpB5 (r : SCost × Int) (p : A6 Int) : r08_ParsePool_B11 r 5 p = some (.inr p) := by kernel_rfl
theorem rpool_ok {s : List UInt8} {c : SCost} (h : r08_Parse s = some (c, 0)) : r08_ParsePool s = some (if 0 < c.X then (zP, 3) else (poolOf c, 0)) := by
  unfold r08_ParsePool
  rw [h]
  simp only [Option.bind_some]
  by_cases h0 : 0 < c.X
  · simp [h0, zP]
  · rw [FU7]
    simp only [iter, lpB0, lpB1, lpB2, lpB3, lpB4, lpB5, Option.bind_some, r08_ParsePool_J5]
    simp [h0, poolOf]
theorem rpool_bad {s : List UInt8} (h : r08_Parse s = some zC3) : r08_ParsePool s = some (zP, 3) := by
  unfold r08_ParsePool
  rw [h]; rfl
theorem law_ManaParses (s : List UInt8) : law08_ManaParses s = some true := by
  unfold law08_ManaParses
  by_cases hs : s.length ≤ 500
  · rw [if_neg (by simp; omega)]
    have hr := rparse_cases hs
    rcases mparse_cases hs with ⟨c, h1, h2, h3⟩ | ⟨h1, h2⟩
    · have h4 := hr.1 c h1 h2
      have hx := (isS_ok h1).x
      rw [h3, h4, mpool_ok h3 hx.1, rpool_ok h4, alive8]
      simp [gd]
    · have h4 := hr.2 h1
      rw [h2, h4, mpool_bad h2, rpool_bad h4, alive8]
      simp [gd]
  · rw [if_pos (by simp; omega), alive8]; rfl
end Go.PL
