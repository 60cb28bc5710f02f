/- Contract of the reference's Number. -/
import Derived.Test.YtkbcgcmklmelbaaDoorPlNumD
namespace Go.PL
open Go Go.RowKit Go.Proofs
attribute [local irreducible] Holds wpOps wqOps thenQ blockQ
set_option maxRecDepth 10000
set_option linter.unusedSimpArgs false
theorem sgn_1 {s : List UInt8} (h : (decide (0 < (s.length : Int)) && ((s.getD (Int.toNat 0) 0).toNat : Int) == 45) = true) : sgn s = 1 := by
  cases s with
  | nil => simp at h
  | cons c l => simp at h; simp [sgn]; omega
theorem sgn_0 {s : List UInt8} (h : (decide (0 < (s.length : Int)) && ((s.getD (Int.toNat 0) 0).toNat : Int) == 45) = false) : sgn s = 0 := by
  cases s with
  | nil => rfl
  | cons c l => simp at h; simp [sgn]; omega
theorem len_1 {s : List UInt8} (_ : (decide (0 < (s.length : Int)) && ((s.getD (Int.toNat 0) 0).toNat : Int) == 45) = true) (h : ((s.length : Int) == 1 || decide (IntKind.i64.wrap (1 + 7) < (s.length : Int))) = false) : 1 < s.length ∧ s.length ≤ 1 + 7 := by
  rename_i h0
  rw [wrap_small _ (by omega)] at h
  simp at h h0
  omega
theorem len_0 {s : List UInt8} (_ : (decide (0 < (s.length : Int)) && ((s.getD (Int.toNat 0) 0).toNat : Int) == 45) = false) (h : ((s.length : Int) == 0 || decide (IntKind.i64.wrap (0 + 7) < (s.length : Int))) = false) : 0 < s.length ∧ s.length ≤ 0 + 7 := by
  rw [wrap_small _ (by omega)] at h
  simp at h
  have : s.length ≠ 0 := by simpa using h.1
  omega
theorem bad_1 {s : List UInt8} (h0 : (decide (0 < (s.length : Int)) && ((s.getD (Int.toNat 0) 0).toNat : Int) == 45) = true) (h : ((s.length : Int) == 1 || decide (IntKind.i64.wrap (1 + 7) < (s.length : Int))) = true) : ¬ (sgn s < s.length ∧ s.length ≤ sgn s + 7) := by
  rw [sgn_1 h0]
  rw [wrap_small _ (by omega)] at h
  simp at h
  omega
theorem bad_0 {s : List UInt8} (h0 : (decide (0 < (s.length : Int)) && ((s.getD (Int.toNat 0) 0).toNat : Int) == 45) = false) (h : ((s.length : Int) == 0 || decide (IntKind.i64.wrap (0 + 7) < (s.length : Int))) = true) : ¬ (sgn s < s.length ∧ s.length ≤ sgn s + 7) := by
  rw [sgn_0 h0]
  rw [wrap_small _ (by omega)] at h
  simp only [Bool.or_eq_true, beq_iff_eq, decide_eq_true_eq] at h
  omega
theorem numS_len {s : List UInt8} (h : ¬ (sgn s < s.length ∧ s.length ≤ sgn s + 7)) : numS s = (0, false) := by
  rcases numS_or s with q | ⟨v, _, h1, h2⟩
  · exact q
  · have := itoa_shape h1
    rw [h2] at this
    exact absurd ⟨this.1, this.2.1⟩ h
theorem numS_dg {s : List UInt8} {o j : Nat} (ha : sgn s = o) (hj : decide (((o + j : Nat) : Int) < (s.length : Int)) = true)
    (hb : (decide (((s.getD ((o + j : Nat) : Int).toNat 0).toNat : Int) < 48) || decide (57 < ((s.getD ((o + j : Nat) : Int).toNat 0).toNat : Int))) = true) : numS s = (0, false) := by
  rcases numS_or s with q | ⟨v, _, h1, h2⟩
  · exact q
  · have := itoa_shape h1
    rw [h2, ha] at this
    simp only [decide_eq_true_eq, Bool.or_eq_true, Int.toNat_natCast] at hj hb
    have hj' : o + j < s.length := by omega
    have hd := this.2.2.1 (s.getD (o + j) 0) (by
      rw [List.getD_eq_getElem?_getD, List.getElem?_eq_getElem hj', Option.getD_some]
      exact List.mem_iff_getElem.2 ⟨j, by simp; omega, by simp⟩)
    unfold isDg at hd
    omega
theorem valF_bd (l : List UInt8) : ∀ a : Int, 0 ≤ a → (∀ c ∈ l, isDg c) → 0 ≤ valF a l ∧ valF a l + 1 ≤ (a + 1) * 10 ^ l.length := by
  induction l with
  | nil => intro a ha _; simp [valF]; exact ha
  | cons c l ih =>
    intro a ha h
    have hc := h c (by simp)
    unfold isDg at hc
    have := ih (a * 10 + ((c.toNat : Int) - 48)) (by omega) (fun d hd => h d (by simp [hd]))
    refine ⟨this.1, Int.le_trans this.2 ?_⟩
    rw [List.length_cons, Int.pow_succ, Int.mul_comm (10 ^ l.length) 10, ← Int.mul_assoc]
    exact Int.mul_le_mul_of_nonneg_right (by omega) (Int.pow_nonneg (by omega))
theorem val7 {s : List UInt8} {o j : Nat} (hl : s.length ≤ o + 7) (hx : o + j ≤ s.length ∧ ∀ c ∈ (s.drop o).take j, isDg c) :
    0 ≤ valF 0 ((s.drop o).take j) ∧ valF 0 ((s.drop o).take j) ≤ 9999999 ∧ -9223372036854775808 ≤ IntKind.i64.wrap (0 - valF 0 ((s.drop o).take j)) ∧ IntKind.i64.wrap (0 - valF 0 ((s.drop o).take j)) ≤ 9223372036854775807 := by
  have h := valF_bd ((s.drop o).take j) 0 (by omega) hx.2
  have h2 : (10 : Int) ^ ((s.drop o).take j).length ≤ 10 ^ 7 := by
    have : ((s.drop o).take j).length ≤ 7 := by simp; omega
    have := Nat.pow_le_pow_right (n := 10) (by omega) this
    exact_mod_cast this
  have h3 : 0 ≤ valF 0 ((s.drop o).take j) ∧ valF 0 ((s.drop o).take j) ≤ 9999999 := by omega
  rw [wrap_small _ (by omega)]
  omega
theorem val70 {s : List UInt8} {j : Nat} (hl : s.length ≤ 0 + 7) (hx : 0 + j ≤ s.length ∧ ∀ c ∈ (s.drop 0).take j, isDg c) : -9223372036854775808 ≤ valF 0 (s.take j) ∧ valF 0 (s.take j) ≤ 9223372036854775807 := by
  have := val7 hl hx
  rw [List.drop_zero] at this
  omega
theorem take_next {s : List UInt8} {o j : Nat} (hj : o + j < s.length) : (s.drop o).take (j + 1) = (s.drop o).take j ++ [s.getD (o + j) 0] := by
  have hlt : j < (s.drop o).length := by simp; omega
  rw [List.take_add_one, List.getElem?_eq_getElem hlt]
  simp [List.getD_eq_getElem?_getD, List.getElem?_eq_getElem hj]
theorem stepV {s : List UInt8} {o j : Nat} (hl : s.length ≤ o + 7) (hx : o + j ≤ s.length ∧ ∀ c ∈ (s.drop o).take j, isDg c) (hj : decide (((o + j : Nat) : Int) < (s.length : Int)) = true)
    (hb : (decide (((s.getD ((o + j : Nat) : Int).toNat 0).toNat : Int) < 48) || decide (57 < ((s.getD ((o + j : Nat) : Int).toNat 0).toNat : Int))) = false) :
    IntKind.i64.wrap (IntKind.i64.wrap (valF 0 ((s.drop o).take j) * 10) + IntKind.i64.wrap (IntKind.u8.wrap (((s.getD ((o + j : Nat) : Int).toNat 0).toNat : Int) - 48))) = valF 0 ((s.drop o).take (j + 1)) ∧
    (o + (j + 1) ≤ s.length ∧ ∀ c ∈ (s.drop o).take (j + 1), isDg c) := by
  have hv := val7 hl hx
  simp only [decide_eq_true_eq, Bool.or_eq_false_iff, decide_eq_false_iff_not, Int.toNat_natCast] at hj hb ⊢
  have hj' : o + j < s.length := by omega
  have e := take_next hj'
  refine ⟨?_, by omega, ?_⟩
  · rw [e, valF_append, IntKind.wrap_u8]
    simp only [valF, List.foldl_cons, List.foldl_nil] at hv ⊢
    rw [wrap_small (_ * 10) (by omega), wrap_small (_ % 256) (by omega), wrap_small _ (by omega)]
    omega
  · rw [e]
    intro c hc
    rw [List.mem_append, List.mem_singleton] at hc
    rcases hc with hc | hc
    · exact hx.2 c hc
    · subst hc; unfold isDg; omega
theorem idx_step {s : List UInt8} {o j : Nat} (hs : s.length ≤ 281474976710656) (hj : decide (((o + j : Nat) : Int) < (s.length : Int)) = true) : IntKind.i64.wrap (((o + j : Nat) : Int) + 1) = ((o + (j + 1) : Nat) : Int) := by
  simp only [decide_eq_true_eq] at hj
  rw [wrap_small _ (by omega)]; omega
theorem endT {s : List UInt8} {o j : Nat} {r : Int} (ha : sgn s = o) (_ : o < s.length ∧ s.length ≤ o + 7) (hj : decide (((o + j : Nat) : Int) < (s.length : Int)) = false) (hx : o + j ≤ s.length ∧ ∀ c ∈ (s.drop o).take j, isDg c)
    (hr : r = if o = 1 then - valF 0 ((s.drop o).take j) else valF 0 ((s.drop o).take j)) (hb : (clampS r != r || Lib.itoa r != s) = true) : numS s = (0, false) := by
  simp only [decide_eq_false_iff_not] at hj
  have e : (s.drop o).take j = s.drop o := List.take_of_length_le (by simp; omega)
  rw [e] at hr
  rcases numS_or s with q | ⟨v, _, h1, h2⟩
  · exact q
  · have := itoa_shape h1
    rw [h2, ha] at this
    have hv := this.2.2.2
    rw [← hr] at hv
    subst hv
    rw [h1, h2] at hb
    simp at hb
theorem endTn {s : List UInt8} {j : Nat} (ha : sgn s = 1) (hl : 1 < s.length ∧ s.length ≤ 1 + 7) (hj : decide (((1 + j : Nat) : Int) < (s.length : Int)) = false) (hx : 1 + j ≤ s.length ∧ ∀ c ∈ (s.drop 1).take j, isDg c)
    (hb : (clampS (IntKind.i64.wrap (0 - valF 0 ((s.drop 1).take j))) != IntKind.i64.wrap (0 - valF 0 ((s.drop 1).take j)) || Lib.itoa (IntKind.i64.wrap (0 - valF 0 ((s.drop 1).take j))) != s) = true) : numS s = (0, false) := by
  have := val7 hl.2 hx
  exact endT ha hl hj hx (by rw [if_pos rfl, wrap_small _ (by omega)]; omega) hb
theorem endTp {s : List UInt8} {j : Nat} (ha : sgn s = 0) (hl : 0 < s.length ∧ s.length ≤ 0 + 7) (hj : decide (((0 + j : Nat) : Int) < (s.length : Int)) = false) (hx : 0 + j ≤ s.length ∧ ∀ c ∈ (s.drop 0).take j, isDg c)
    (hb : (clampS (valF 0 (s.take j)) != valF 0 (s.take j) || Lib.itoa (valF 0 (s.take j)) != s) = true) : numS s = (0, false) :=
  endT ha hl hj hx (by rw [if_neg (by omega)]; rfl) hb
theorem endF {s : List UInt8} {r : Int} (hb : (clampS r != r || Lib.itoa r != s) = false) : numS s = (r, true) := by
  simp only [Bool.or_eq_false_iff, bne_eq_false_iff_eq] at hb
  exact numS_of hb.1 hb.2
theorem negw {s : List UInt8} {o j : Nat} (hl : s.length ≤ o + 7) (hx : o + j ≤ s.length ∧ ∀ c ∈ (s.drop o).take j, isDg c) : IntKind.i64.wrap (0 - valF 0 ((s.drop o).take j)) = - valF 0 ((s.drop o).take j) := by
  have := val7 hl hx
  rw [wrap_small _ (by omega)]; omega
theorem number13 (s : List UInt8) (hs : s.length ≤ 281474976710656) : PCall Tryd.prog I1 13 [.c (.str s)] (· = .tup [.c (.int .i64 (numS s).1), .c (.bool (numS s).2)]) := by
  refine PCall.body I1_stable (by kernel_rfl) Tryd.func13 rfl Tryd.ntmps13 (rs := [.tmp 2, .tmp 3]) rfl (by simp only [go_sem]; rfl) ?_
  intro w0 av old
  repeat' (first
    | refine Holds.seq ?_
    | refine Holds.run ?_
    | refine Holds.runQ follows (by kernel_rfl) ?_
    | refine Run.nil ?_
    | refine RunQ.nil ?_
    | refine thenQ.normal ?_
    | refine thenQ.ret ?_
    | refine thenQ.exit ?_
    | refine blockQ.normal ?_
    | refine blockQ.ret ?_
    | refine blockQ.out ?_
    | refine blockQ.on rfl ?_
    | refine Holds.block ?_
    | refine Holds.ret ?_
    | refine Holds.skip ?_
    | refine Holds.exit ?_
    | (apply Run.rd; rfl; (simp only [go_sem]; rfl); (first | trivial | omega | focus (simp; done) | focus (simp; omega) | focus (simp only [decide_eq_true_eq, Bool.and_eq_true] at *; omega) | focus (intro hg; simp only [decide_eq_true_eq, Bool.and_eq_true] at *; omega)); (simp only [go_sem]; rfl))
    | (apply Run.ef; rfl; (simp only [go_sem]; rfl); (first | trivial | omega | focus (simp; done) | focus (simp; omega) | focus (simp only [decide_eq_true_eq, Bool.and_eq_true] at *; omega) | focus (intro hg; simp only [decide_eq_true_eq, Bool.and_eq_true] at *; omega)))
    | (apply Run.cut; rfl; (simp only [go_sem]; rfl); (simp only [go_sem]; rfl); (first | trivial | omega | focus (simp; done) | focus (simp; omega) | focus (simp only [decide_eq_true_eq, Bool.and_eq_true] at *; omega) | focus (intro hg; simp only [decide_eq_true_eq, Bool.and_eq_true] at *; omega)); (simp only [go_sem]; rfl))
    | (apply Run.rdg; (simp only [go_sem]; rfl); rfl; (simp only [go_sem]; rfl); (intro hg; first | trivial | omega | focus (simp [hg]; done) | focus (simp [hg]; omega) | focus (simp only [hg, tt_tt, imp_tt, imp_self, true_and]; first | omega | focus (simp only [decide_eq_true_eq, Bool.and_eq_true] at *; omega) | focus (intro hg; simp only [decide_eq_true_eq, Bool.and_eq_true] at *; omega)) | focus (simp_all; done) | focus (simp only [decide_eq_true_eq, Bool.and_eq_true] at *; omega) | focus (intro hg; simp only [decide_eq_true_eq, Bool.and_eq_true] at *; omega)); (simp only [go_sem]; rfl))
    | (apply Run.call; rfl; (simp only [go_sem]; rfl); (first | trivial | omega | focus (simp; done) | focus (simp; omega) | focus (simp only [decide_eq_true_eq, Bool.and_eq_true] at *; omega) | focus (intro hg; simp only [decide_eq_true_eq, Bool.and_eq_true] at *; omega)); (simp only [go_sem]; rfl); (simp only [go_sem]); (first | exact clamp19 _ | exact text15 _ (val7 hl.2 hx).2.2.1 (val7 hl.2 hx).2.2.2 | exact text15 _ (val70 hl.2 hx).1 (val70 hl.2 hx).2 | fail); (first | exact Or.inl rfl | (refine Or.inr ⟨?_, ?_⟩ <;> simp [topVs, topV, topC, St.okFrz, St.look])); (simp only [go_sem]; rfl))
    | (apply Run.callg; (simp only [go_sem]; rfl); rfl; (simp only [go_sem]; rfl); (intro hg; first | trivial | omega | focus (simp [hg]; done) | focus (simp [hg]; omega) | focus (simp only [hg, tt_tt, imp_tt, imp_self, true_and]; first | omega | focus (simp only [decide_eq_true_eq, Bool.and_eq_true] at *; omega) | focus (intro hg; simp only [decide_eq_true_eq, Bool.and_eq_true] at *; omega)) | focus (simp_all; done) | focus (simp only [decide_eq_true_eq, Bool.and_eq_true] at *; omega) | focus (intro hg; simp only [decide_eq_true_eq, Bool.and_eq_true] at *; omega)); (simp only [go_sem]; rfl); (intro _; (simp only [go_sem])); (intro hg; first | exact clamp19 _ | exact text15 _ (val7 hl.2 hx).2.2.1 (val7 hl.2 hx).2.2.2 | exact text15 _ (val70 hl.2 hx).1 (val70 hl.2 hx).2 | fail); rfl; (simp only [go_sem]; rfl))
    | (apply RunQ.rd; rfl; (simp only [go_sem]; rfl); (first | trivial | omega | focus (simp; done) | focus (simp; omega) | focus (simp only [decide_eq_true_eq, Bool.and_eq_true] at *; omega) | focus (intro hg; simp only [decide_eq_true_eq, Bool.and_eq_true] at *; omega)); (simp only [go_sem]; rfl))
    | (apply RunQ.cut; rfl; (simp only [go_sem]; rfl); (first | trivial | omega | focus (simp; done) | focus (simp; omega) | focus (simp only [decide_eq_true_eq, Bool.and_eq_true] at *; omega) | focus (intro hg; simp only [decide_eq_true_eq, Bool.and_eq_true] at *; omega)); (simp only [go_sem]; rfl))
    | (apply RunQ.rdg; (simp only [go_sem]; rfl); rfl; (simp only [go_sem]; rfl); (intro hg; first | trivial | omega | focus (simp [hg]; done) | focus (simp [hg]; omega) | focus (simp only [hg, tt_tt, imp_tt, imp_self, true_and]; first | omega | focus (simp only [decide_eq_true_eq, Bool.and_eq_true] at *; omega) | focus (intro hg; simp only [decide_eq_true_eq, Bool.and_eq_true] at *; omega)) | focus (simp_all; done) | focus (simp only [decide_eq_true_eq, Bool.and_eq_true] at *; omega) | focus (intro hg; simp only [decide_eq_true_eq, Bool.and_eq_true] at *; omega)); (simp only [go_sem]; rfl))
    | (apply RunQ.cutg; (simp only [go_sem]; rfl); rfl; (simp only [go_sem]; rfl); (intro hg; first | trivial | omega | focus (simp [hg]; done) | focus (simp [hg]; omega) | focus (simp only [hg, tt_tt, imp_tt, imp_self, true_and]; first | omega | focus (simp only [decide_eq_true_eq, Bool.and_eq_true] at *; omega) | focus (intro hg; simp only [decide_eq_true_eq, Bool.and_eq_true] at *; omega)) | focus (simp_all; done) | focus (simp only [decide_eq_true_eq, Bool.and_eq_true] at *; omega) | focus (intro hg; simp only [decide_eq_true_eq, Bool.and_eq_true] at *; omega)); (simp only [go_sem]; rfl))
    | (apply RunQ.call; rfl; (simp only [go_sem]; rfl); (first | trivial | omega | focus (simp; done) | focus (simp; omega) | focus (simp only [decide_eq_true_eq, Bool.and_eq_true] at *; omega) | focus (intro hg; simp only [decide_eq_true_eq, Bool.and_eq_true] at *; omega)); (simp only [go_sem]; rfl); (simp only [go_sem]); (first | exact clamp19 _ | exact text15 _ (val7 hl.2 hx).2.2.1 (val7 hl.2 hx).2.2.2 | exact text15 _ (val70 hl.2 hx).1 (val70 hl.2 hx).2 | fail); rfl; (simp only [go_sem]; rfl))
    | (apply RunQ.callg; (simp only [go_sem]; rfl); rfl; (simp only [go_sem]; rfl); (intro hg; first | trivial | omega | focus (simp [hg]; done) | focus (simp [hg]; omega) | focus (simp only [hg, tt_tt, imp_tt, imp_self, true_and]; first | omega | focus (simp only [decide_eq_true_eq, Bool.and_eq_true] at *; omega) | focus (intro hg; simp only [decide_eq_true_eq, Bool.and_eq_true] at *; omega)) | focus (simp_all; done) | focus (simp only [decide_eq_true_eq, Bool.and_eq_true] at *; omega) | focus (intro hg; simp only [decide_eq_true_eq, Bool.and_eq_true] at *; omega)); (simp only [go_sem]; rfl); (intro _; (simp only [go_sem])); (intro hg; first | exact clamp19 _ | exact text15 _ (val7 hl.2 hx).2.2.1 (val7 hl.2 hx).2.2.2 | exact text15 _ (val70 hl.2 hx).1 (val70 hl.2 hx).2 | fail); rfl; (simp only [go_sem]; rfl))
    | (apply Holds.cond; (simp only [go_sem]; rfl); all_goals intro hb; all_goals try (refine absurd hb ?_; decide)))
  all_goals (first | focus ((have ha : sgn s = 0 := sgn_0 (by assumption)); (have hl : 0 < s.length ∧ s.length ≤ 0 + 7 := len_0 (by assumption) (by assumption)); (refine Holds.loop (X := Nat) (fun j => ⟨[.c (.str s), .undef, .undef, .undef, .c (.int .i64 0), .c (.int .i64 (valF 0 ((s.drop 0).take j))), .c (.int .i64 ((0 + j : Nat) : Int)), .undef, .undef, .undef, .undef, .undef, .undef, .undef, .undef, .undef, .undef, .undef, .undef, .undef, .undef, .undef, .undef, .undef, .undef, .undef, .undef, .undef, .undef, .undef, .undef, .undef, .undef, .undef, .undef, .undef, .undef, .undef, .undef, .undef, .undef, .undef, .undef, .undef, .undef, .undef, .undef, .undef, .undef, .undef, .undef, .undef, .undef, .undef, .undef, .undef, .undef, .undef, .undef, .undef, .undef, .undef, .undef, .undef, .undef, .undef], []⟩) (fun j => 0 + j ≤ s.length ∧ ∀ c ∈ (s.drop 0).take j, isDg c) (fun j => s.length - j) 0 (by simp; try omega) (by (exact Less.of (by repeat' first | exact lessL.nil | refine lessL.skip ?_ | (refine lessL.keep (by first | rfl | (rfl)) ?_)) (by repeat' first | exact lessE.nil | (refine lessE.keep (by first | rfl | (rfl)) ?_) | refine lessE.skip ?_))) ?_; intro j hx)) | focus ((have ha : sgn s = 1 := sgn_1 (by assumption)); (have hl : 1 < s.length ∧ s.length ≤ 1 + 7 := len_1 (by assumption) (by assumption)); (refine Holds.loop (X := Nat) (fun j => ⟨[.c (.str s), .undef, .undef, .undef, .c (.int .i64 1), .c (.int .i64 (valF 0 ((s.drop 1).take j))), .c (.int .i64 ((1 + j : Nat) : Int)), .undef, .undef, .undef, .undef, .undef, .undef, .undef, .undef, .undef, .undef, .undef, .undef, .undef, .undef, .undef, .undef, .undef, .undef, .undef, .undef, .undef, .undef, .undef, .undef, .undef, .undef, .undef, .undef, .undef, .undef, .undef, .undef, .undef, .undef, .undef, .undef, .undef, .undef, .undef, .undef, .undef, .undef, .undef, .undef, .undef, .undef, .undef, .undef, .undef, .undef, .undef, .undef, .undef, .undef, .undef, .undef, .undef, .undef, .undef], []⟩) (fun j => 1 + j ≤ s.length ∧ ∀ c ∈ (s.drop 1).take j, isDg c) (fun j => s.length - j) 0 (by simp; try omega) (by (exact Less.of (by repeat' first | exact lessL.nil | refine lessL.skip ?_ | (refine lessL.keep (by first | rfl | (rfl)) ?_)) (by repeat' first | exact lessE.nil | (refine lessE.keep (by first | rfl | (rfl)) ?_) | refine lessE.skip ?_))) ?_; intro j hx)) | skip)
  repeat' (first
    | refine Holds.seq ?_
    | refine Holds.run ?_
    | refine Holds.runQ follows (by kernel_rfl) ?_
    | refine Run.nil ?_
    | refine RunQ.nil ?_
    | refine thenQ.normal ?_
    | refine thenQ.ret ?_
    | refine thenQ.exit ?_
    | refine blockQ.normal ?_
    | refine blockQ.ret ?_
    | refine blockQ.out ?_
    | refine blockQ.on rfl ?_
    | refine Holds.block ?_
    | refine Holds.ret ?_
    | refine Holds.skip ?_
    | refine Holds.exit ?_
    | (apply Run.rd; rfl; (simp only [go_sem]; rfl); (first | trivial | omega | focus (simp; done) | focus (simp; omega) | focus (simp only [decide_eq_true_eq, Bool.and_eq_true] at *; omega) | focus (intro hg; simp only [decide_eq_true_eq, Bool.and_eq_true] at *; omega)); (simp only [go_sem]; rfl))
    | (apply Run.ef; rfl; (simp only [go_sem]; rfl); (first | trivial | omega | focus (simp; done) | focus (simp; omega) | focus (simp only [decide_eq_true_eq, Bool.and_eq_true] at *; omega) | focus (intro hg; simp only [decide_eq_true_eq, Bool.and_eq_true] at *; omega)))
    | (apply Run.cut; rfl; (simp only [go_sem]; rfl); (simp only [go_sem]; rfl); (first | trivial | omega | focus (simp; done) | focus (simp; omega) | focus (simp only [decide_eq_true_eq, Bool.and_eq_true] at *; omega) | focus (intro hg; simp only [decide_eq_true_eq, Bool.and_eq_true] at *; omega)); (simp only [go_sem]; rfl))
    | (apply Run.rdg; (simp only [go_sem]; rfl); rfl; (simp only [go_sem]; rfl); (intro hg; first | trivial | omega | focus (simp [hg]; done) | focus (simp [hg]; omega) | focus (simp only [hg, tt_tt, imp_tt, imp_self, true_and]; first | omega | focus (simp only [decide_eq_true_eq, Bool.and_eq_true] at *; omega) | focus (intro hg; simp only [decide_eq_true_eq, Bool.and_eq_true] at *; omega)) | focus (simp_all; done) | focus (simp only [decide_eq_true_eq, Bool.and_eq_true] at *; omega) | focus (intro hg; simp only [decide_eq_true_eq, Bool.and_eq_true] at *; omega)); (simp only [go_sem]; rfl))
    | (apply Run.call; rfl; (simp only [go_sem]; rfl); (first | trivial | omega | focus (simp; done) | focus (simp; omega) | focus (simp only [decide_eq_true_eq, Bool.and_eq_true] at *; omega) | focus (intro hg; simp only [decide_eq_true_eq, Bool.and_eq_true] at *; omega)); (simp only [go_sem]; rfl); (simp only [go_sem]); (first | exact clamp19 _ | exact text15 _ (val7 hl.2 hx).2.2.1 (val7 hl.2 hx).2.2.2 | exact text15 _ (val70 hl.2 hx).1 (val70 hl.2 hx).2 | fail); (first | exact Or.inl rfl | (refine Or.inr ⟨?_, ?_⟩ <;> simp [topVs, topV, topC, St.okFrz, St.look])); (simp only [go_sem]; rfl))
    | (apply Run.callg; (simp only [go_sem]; rfl); rfl; (simp only [go_sem]; rfl); (intro hg; first | trivial | omega | focus (simp [hg]; done) | focus (simp [hg]; omega) | focus (simp only [hg, tt_tt, imp_tt, imp_self, true_and]; first | omega | focus (simp only [decide_eq_true_eq, Bool.and_eq_true] at *; omega) | focus (intro hg; simp only [decide_eq_true_eq, Bool.and_eq_true] at *; omega)) | focus (simp_all; done) | focus (simp only [decide_eq_true_eq, Bool.and_eq_true] at *; omega) | focus (intro hg; simp only [decide_eq_true_eq, Bool.and_eq_true] at *; omega)); (simp only [go_sem]; rfl); (intro _; (simp only [go_sem])); (intro hg; first | exact clamp19 _ | exact text15 _ (val7 hl.2 hx).2.2.1 (val7 hl.2 hx).2.2.2 | exact text15 _ (val70 hl.2 hx).1 (val70 hl.2 hx).2 | fail); rfl; (simp only [go_sem]; rfl))
    | (apply RunQ.rd; rfl; (simp only [go_sem]; rfl); (first | trivial | omega | focus (simp; done) | focus (simp; omega) | focus (simp only [decide_eq_true_eq, Bool.and_eq_true] at *; omega) | focus (intro hg; simp only [decide_eq_true_eq, Bool.and_eq_true] at *; omega)); (simp only [go_sem]; rfl))
    | (apply RunQ.cut; rfl; (simp only [go_sem]; rfl); (first | trivial | omega | focus (simp; done) | focus (simp; omega) | focus (simp only [decide_eq_true_eq, Bool.and_eq_true] at *; omega) | focus (intro hg; simp only [decide_eq_true_eq, Bool.and_eq_true] at *; omega)); (simp only [go_sem]; rfl))
    | (apply RunQ.rdg; (simp only [go_sem]; rfl); rfl; (simp only [go_sem]; rfl); (intro hg; first | trivial | omega | focus (simp [hg]; done) | focus (simp [hg]; omega) | focus (simp only [hg, tt_tt, imp_tt, imp_self, true_and]; first | omega | focus (simp only [decide_eq_true_eq, Bool.and_eq_true] at *; omega) | focus (intro hg; simp only [decide_eq_true_eq, Bool.and_eq_true] at *; omega)) | focus (simp_all; done) | focus (simp only [decide_eq_true_eq, Bool.and_eq_true] at *; omega) | focus (intro hg; simp only [decide_eq_true_eq, Bool.and_eq_true] at *; omega)); (simp only [go_sem]; rfl))
    | (apply RunQ.cutg; (simp only [go_sem]; rfl); rfl; (simp only [go_sem]; rfl); (intro hg; first | trivial | omega | focus (simp [hg]; done) | focus (simp [hg]; omega) | focus (simp only [hg, tt_tt, imp_tt, imp_self, true_and]; first | omega | focus (simp only [decide_eq_true_eq, Bool.and_eq_true] at *; omega) | focus (intro hg; simp only [decide_eq_true_eq, Bool.and_eq_true] at *; omega)) | focus (simp_all; done) | focus (simp only [decide_eq_true_eq, Bool.and_eq_true] at *; omega) | focus (intro hg; simp only [decide_eq_true_eq, Bool.and_eq_true] at *; omega)); (simp only [go_sem]; rfl))
    | (apply RunQ.call; rfl; (simp only [go_sem]; rfl); (first | trivial | omega | focus (simp; done) | focus (simp; omega) | focus (simp only [decide_eq_true_eq, Bool.and_eq_true] at *; omega) | focus (intro hg; simp only [decide_eq_true_eq, Bool.and_eq_true] at *; omega)); (simp only [go_sem]; rfl); (simp only [go_sem]); (first | exact clamp19 _ | exact text15 _ (val7 hl.2 hx).2.2.1 (val7 hl.2 hx).2.2.2 | exact text15 _ (val70 hl.2 hx).1 (val70 hl.2 hx).2 | fail); rfl; (simp only [go_sem]; rfl))
    | (apply RunQ.callg; (simp only [go_sem]; rfl); rfl; (simp only [go_sem]; rfl); (intro hg; first | trivial | omega | focus (simp [hg]; done) | focus (simp [hg]; omega) | focus (simp only [hg, tt_tt, imp_tt, imp_self, true_and]; first | omega | focus (simp only [decide_eq_true_eq, Bool.and_eq_true] at *; omega) | focus (intro hg; simp only [decide_eq_true_eq, Bool.and_eq_true] at *; omega)) | focus (simp_all; done) | focus (simp only [decide_eq_true_eq, Bool.and_eq_true] at *; omega) | focus (intro hg; simp only [decide_eq_true_eq, Bool.and_eq_true] at *; omega)); (simp only [go_sem]; rfl); (intro _; (simp only [go_sem])); (intro hg; first | exact clamp19 _ | exact text15 _ (val7 hl.2 hx).2.2.1 (val7 hl.2 hx).2.2.2 | exact text15 _ (val70 hl.2 hx).1 (val70 hl.2 hx).2 | fail); rfl; (simp only [go_sem]; rfl))
    | (apply Holds.cond; (simp only [go_sem]; rfl); all_goals intro hb; all_goals try (refine absurd hb ?_; decide)))
  all_goals (first | focus (exact Bool.noConfusion hb) | focus (exact ⟨j + 1, (stepV hl.2 hx (by assumption) hb).2, by simp only [decide_eq_true_eq] at *; omega, by (exact Less.of (by repeat' first | exact lessL.nil | refine lessL.skip ?_ | (refine lessL.keep (by first | rfl | (first | focus (refine congrArg V.c (congrArg (C.int _) ?_); exact (stepV hl.2 hx (by assumption) hb).1) | focus (refine congrArg V.c (congrArg (C.int _) ?_); exact idx_step hs (by assumption)))) ?_)) (by repeat' first | exact lessE.nil | (refine lessE.keep (by first | rfl | (rfl)) ?_) | refine lessE.skip ?_))⟩) | skip)
  all_goals (first | focus (refine ⟨by first | exact .inl rfl | exact .inr rfl, ?_⟩; simp only [go_sem]; first | focus (rw [numS_len (bad_1 (by assumption) hb)]; done) | focus (rw [numS_len (bad_0 (by assumption) hb)]; done) | focus (rw [numS_dg ha (by assumption) hb]; done) | focus (rw [endTn ha hl (by assumption) hx hb]; done) | focus (rw [endTp ha hl (by assumption) hx hb]; done) | focus (rw [endF hb]; done)))

end Go.PL
