/- Contracts of Text and Number. -/
import Derived.Test.YtkbcgcmklmelbaaDoorPlNumC
namespace Go.PL
open Go Go.RowKit Go.Proofs
attribute [local irreducible] Holds wpOps wqOps thenQ blockQ
set_option maxRecDepth 10000
set_option linter.unusedSimpArgs false
theorem numS_t {s : List UInt8} {v : Int} (h : Lib.atoiAll s = .ok v) (hb : (v != clampS v || Lib.itoa v != s) = true) : numS s = (0, false) := by
  simp only [numS, h]
  rw [if_neg]
  intro ⟨h1, h2⟩
  rw [h1, h2] at hb
  simp at hb
theorem numS_f {s : List UInt8} {v : Int} (h : Lib.atoiAll s = .ok v) (hb : (v != clampS v || Lib.itoa v != s) = false) : numS s = (v, true) := by
  simp only [numS, h]
  simp only [Bool.or_eq_false_iff, bne_eq_false_iff_eq] at hb
  rw [if_pos ⟨hb.1.symm, hb.2⟩]
theorem wu (n : Int) : 0 ≤ IntKind.u64.wrap n ∧ IntKind.u64.wrap n ≤ 18446744073709551615 := by rw [IntKind.wrap_u64]; omega
theorem wub (n : Int) : (IntKind.u64.wrap n).toNat < 10 ^ (20 + 1) := by have := wu n; omega
theorem itoa_n {n : Int} (h0 : -9223372036854775808 ≤ n) (h : n < 0) : Lib.itoa n = [45] ++ Lib.decDigits (IntKind.u64.wrap (0 - IntKind.u64.wrap n)).toNat := by
  unfold Lib.itoa
  rw [if_pos h]
  have : (IntKind.u64.wrap (0 - IntKind.u64.wrap n)).toNat = n.natAbs := by rw [IntKind.wrap_u64, IntKind.wrap_u64]; omega
  rw [this]; rfl
theorem itoa_p {n : Int} (h1 : n ≤ 9223372036854775807) (h : ¬ n < 0) : Lib.itoa n = Lib.decDigits (IntKind.u64.wrap n).toNat := by
  unfold Lib.itoa
  rw [if_neg h]
  have : (IntKind.u64.wrap n).toNat = n.toNat := by rw [IntKind.wrap_u64]; omega
  rw [this]
theorem numS_bad {s : List UInt8} (h : ∀ v, Lib.atoiAll s ≠ .ok v) : numS s = (0, false) := by
  rcases numS_or s with q | ⟨v, _, h1, h2⟩
  · exact q
  · subst h2
    have hb := clampS_bd v
    exact absurd (itoa_small (by omega) (by omega)) (h v)
theorem atoiAll_bd {s : List UInt8} {v : Int} (h : Lib.atoiAll s = .ok v) : -9223372036854775808 ≤ v ∧ v ≤ 9223372036854775807 := by
  unfold Lib.atoiAll at h
  split at h
  · cases h
  · simp only at h
    split at h
    · cases h
    · cases h
    · split at h
      · cases h
      · split at h
        · cases h
        · injection h with h
          split at h <;> omega
theorem text14 (n : Int) (h0 : -9223372036854775808 ≤ n) (h1 : n ≤ 9223372036854775807) : PCall Tryd.prog I1 14 [.c (.int .i64 n)] (· = .c (.str (Lib.itoa n))) := by
  refine PCall.body I1_stable (by kernel_rfl) Tryd.func14 rfl Tryd.ntmps14 (rs := [.tmp 2]) rfl (by simp only [go_sem]; rfl) ?_
  intro w0 av old
  repeat' (first
    | refine Holds.seq ?_
    | refine Holds.run ?_
    | refine Holds.runQ follows (by kernel_rfl) ?_
    | refine Run.nil ?_
    | refine RunQ.nil ?_
    | refine thenQ.normal ?_
    | refine thenQ.ret ?_
    | refine thenQ.exit ?_
    | refine blockQ.normal ?_
    | refine blockQ.ret ?_
    | refine blockQ.out ?_
    | refine blockQ.on rfl ?_
    | refine Holds.block ?_
    | refine Holds.ret ?_
    | refine Holds.skip ?_
    | refine Holds.exit ?_
    | (apply Run.rd; rfl; (simp only [go_sem]; rfl); (first | trivial | omega | focus (simp; done) | focus (simp; omega)); (simp only [go_sem]; rfl))
    | (apply Run.ef; rfl; (simp only [go_sem]; rfl); (first | trivial | omega | focus (simp; done) | focus (simp; omega)))
    | (apply Run.cut; rfl; (simp only [go_sem]; rfl); (simp only [go_sem]; rfl); (first | trivial | omega | focus (simp; done) | focus (simp; omega)); (simp only [go_sem]; rfl))
    | (apply Run.rdg; (simp only [go_sem]; rfl); rfl; (simp only [go_sem]; rfl); (intro hg; first | trivial | omega | focus (simp [hg]; done) | focus (simp [hg]; omega) | focus (simp only [hg, tt_tt, imp_tt, imp_self, true_and]; first | omega) | focus (simp_all; done)); (simp only [go_sem]; rfl))
    | (apply Run.call; rfl; (simp only [go_sem]; rfl); (first | trivial | omega | focus (simp; done) | focus (simp; omega)); (simp only [go_sem]; rfl); (simp only [go_sem]); (first | exact itoa29 _ h0 h1 | fail); (first | exact Or.inl rfl | (refine Or.inr ⟨?_, ?_⟩ <;> simp [topVs, topV, topC, St.okFrz, St.look])); (simp only [go_sem]; rfl))
    | (apply Run.callg; (simp only [go_sem]; rfl); rfl; (simp only [go_sem]; rfl); (intro hg; first | trivial | omega | focus (simp [hg]; done) | focus (simp [hg]; omega) | focus (simp only [hg, tt_tt, imp_tt, imp_self, true_and]; first | omega) | focus (simp_all; done)); (simp only [go_sem]; rfl); (intro _; (simp only [go_sem])); (intro hg; first | exact itoa29 _ h0 h1 | fail); rfl; (simp only [go_sem]; rfl))
    | (apply RunQ.rd; rfl; (simp only [go_sem]; rfl); (first | trivial | omega | focus (simp; done) | focus (simp; omega)); (simp only [go_sem]; rfl))
    | (apply RunQ.cut; rfl; (simp only [go_sem]; rfl); (first | trivial | omega | focus (simp; done) | focus (simp; omega)); (simp only [go_sem]; rfl))
    | (apply RunQ.rdg; (simp only [go_sem]; rfl); rfl; (simp only [go_sem]; rfl); (intro hg; first | trivial | omega | focus (simp [hg]; done) | focus (simp [hg]; omega) | focus (simp only [hg, tt_tt, imp_tt, imp_self, true_and]; first | omega) | focus (simp_all; done)); (simp only [go_sem]; rfl))
    | (apply RunQ.cutg; (simp only [go_sem]; rfl); rfl; (simp only [go_sem]; rfl); (intro hg; first | trivial | omega | focus (simp [hg]; done) | focus (simp [hg]; omega) | focus (simp only [hg, tt_tt, imp_tt, imp_self, true_and]; first | omega) | focus (simp_all; done)); (simp only [go_sem]; rfl))
    | (apply RunQ.call; rfl; (simp only [go_sem]; rfl); (first | trivial | omega | focus (simp; done) | focus (simp; omega)); (simp only [go_sem]; rfl); (simp only [go_sem]); (first | exact itoa29 _ h0 h1 | fail); rfl; (simp only [go_sem]; rfl))
    | (apply RunQ.callg; (simp only [go_sem]; rfl); rfl; (simp only [go_sem]; rfl); (intro hg; first | trivial | omega | focus (simp [hg]; done) | focus (simp [hg]; omega) | focus (simp only [hg, tt_tt, imp_tt, imp_self, true_and]; first | omega) | focus (simp_all; done)); (simp only [go_sem]; rfl); (intro _; (simp only [go_sem])); (intro hg; first | exact itoa29 _ h0 h1 | fail); rfl; (simp only [go_sem]; rfl))
    | (apply Holds.cond; (simp only [go_sem]; rfl); all_goals intro hb; all_goals try (refine absurd hb ?_; decide)))
  all_goals (refine ⟨by first | exact .inl rfl | exact .inr rfl, ?_⟩; simp only [go_sem])

theorem text15 (n : Int) (h0 : -9223372036854775808 ≤ n) (h1 : n ≤ 9223372036854775807) : PCall Tryd.prog I1 15 [.c (.int .i64 n)] (· = .c (.str (Lib.itoa n))) := by
  refine PCall.body I1_stable (by kernel_rfl) Tryd.func15 rfl Tryd.ntmps15 (rs := [.tmp 2]) rfl (by simp only [go_sem]; rfl) ?_
  intro w0 av old
  repeat' (first
    | refine Holds.seq ?_
    | refine Holds.run ?_
    | refine Holds.runQ follows (by kernel_rfl) ?_
    | refine Run.nil ?_
    | refine RunQ.nil ?_
    | refine thenQ.normal ?_
    | refine thenQ.ret ?_
    | refine thenQ.exit ?_
    | refine blockQ.normal ?_
    | refine blockQ.ret ?_
    | refine blockQ.out ?_
    | refine blockQ.on rfl ?_
    | refine Holds.block ?_
    | refine Holds.ret ?_
    | refine Holds.skip ?_
    | refine Holds.exit ?_
    | (apply Run.rd; rfl; (simp only [go_sem]; rfl); (first | trivial | omega | focus (simp; done) | focus (simp; omega) | focus (have := decDigits_le 20 (IntKind.u64.wrap (0 - IntKind.u64.wrap n)).toNat (wub _); simp only [List.length_cons, List.length_nil, maxLen]; omega)); (simp only [go_sem]; rfl))
    | (apply Run.ef; rfl; (simp only [go_sem]; rfl); (first | trivial | omega | focus (simp; done) | focus (simp; omega) | focus (have := decDigits_le 20 (IntKind.u64.wrap (0 - IntKind.u64.wrap n)).toNat (wub _); simp only [List.length_cons, List.length_nil, maxLen]; omega)))
    | (apply Run.cut; rfl; (simp only [go_sem]; rfl); (simp only [go_sem]; rfl); (first | trivial | omega | focus (simp; done) | focus (simp; omega) | focus (have := decDigits_le 20 (IntKind.u64.wrap (0 - IntKind.u64.wrap n)).toNat (wub _); simp only [List.length_cons, List.length_nil, maxLen]; omega)); (simp only [go_sem]; rfl))
    | (apply Run.rdg; (simp only [go_sem]; rfl); rfl; (simp only [go_sem]; rfl); (intro hg; first | trivial | omega | focus (simp [hg]; done) | focus (simp [hg]; omega) | focus (simp only [hg, tt_tt, imp_tt, imp_self, true_and]; first | omega | focus (have := decDigits_le 20 (IntKind.u64.wrap (0 - IntKind.u64.wrap n)).toNat (wub _); simp only [List.length_cons, List.length_nil, maxLen]; omega)) | focus (simp_all; done) | focus (have := decDigits_le 20 (IntKind.u64.wrap (0 - IntKind.u64.wrap n)).toNat (wub _); simp only [List.length_cons, List.length_nil, maxLen]; omega)); (simp only [go_sem]; rfl))
    | (apply Run.call; rfl; (simp only [go_sem]; rfl); (first | trivial | omega | focus (simp; done) | focus (simp; omega) | focus (have := decDigits_le 20 (IntKind.u64.wrap (0 - IntKind.u64.wrap n)).toNat (wub _); simp only [List.length_cons, List.length_nil, maxLen]; omega)); (simp only [go_sem]; rfl); (simp only [go_sem]); (first | exact digits30 _ (wu n).1 (wu n).2 | exact digits30 _ (wu _).1 (wu _).2 | fail); (first | exact Or.inl rfl | (refine Or.inr ⟨?_, ?_⟩ <;> simp [topVs, topV, topC, St.okFrz, St.look])); (simp only [go_sem]; rfl))
    | (apply Run.callg; (simp only [go_sem]; rfl); rfl; (simp only [go_sem]; rfl); (intro hg; first | trivial | omega | focus (simp [hg]; done) | focus (simp [hg]; omega) | focus (simp only [hg, tt_tt, imp_tt, imp_self, true_and]; first | omega | focus (have := decDigits_le 20 (IntKind.u64.wrap (0 - IntKind.u64.wrap n)).toNat (wub _); simp only [List.length_cons, List.length_nil, maxLen]; omega)) | focus (simp_all; done) | focus (have := decDigits_le 20 (IntKind.u64.wrap (0 - IntKind.u64.wrap n)).toNat (wub _); simp only [List.length_cons, List.length_nil, maxLen]; omega)); (simp only [go_sem]; rfl); (intro _; (simp only [go_sem])); (intro hg; first | exact digits30 _ (wu n).1 (wu n).2 | exact digits30 _ (wu _).1 (wu _).2 | fail); rfl; (simp only [go_sem]; rfl))
    | (apply RunQ.rd; rfl; (simp only [go_sem]; rfl); (first | trivial | omega | focus (simp; done) | focus (simp; omega) | focus (have := decDigits_le 20 (IntKind.u64.wrap (0 - IntKind.u64.wrap n)).toNat (wub _); simp only [List.length_cons, List.length_nil, maxLen]; omega)); (simp only [go_sem]; rfl))
    | (apply RunQ.cut; rfl; (simp only [go_sem]; rfl); (first | trivial | omega | focus (simp; done) | focus (simp; omega) | focus (have := decDigits_le 20 (IntKind.u64.wrap (0 - IntKind.u64.wrap n)).toNat (wub _); simp only [List.length_cons, List.length_nil, maxLen]; omega)); (simp only [go_sem]; rfl))
    | (apply RunQ.rdg; (simp only [go_sem]; rfl); rfl; (simp only [go_sem]; rfl); (intro hg; first | trivial | omega | focus (simp [hg]; done) | focus (simp [hg]; omega) | focus (simp only [hg, tt_tt, imp_tt, imp_self, true_and]; first | omega | focus (have := decDigits_le 20 (IntKind.u64.wrap (0 - IntKind.u64.wrap n)).toNat (wub _); simp only [List.length_cons, List.length_nil, maxLen]; omega)) | focus (simp_all; done) | focus (have := decDigits_le 20 (IntKind.u64.wrap (0 - IntKind.u64.wrap n)).toNat (wub _); simp only [List.length_cons, List.length_nil, maxLen]; omega)); (simp only [go_sem]; rfl))
    | (apply RunQ.cutg; (simp only [go_sem]; rfl); rfl; (simp only [go_sem]; rfl); (intro hg; first | trivial | omega | focus (simp [hg]; done) | focus (simp [hg]; omega) | focus (simp only [hg, tt_tt, imp_tt, imp_self, true_and]; first | omega | focus (have := decDigits_le 20 (IntKind.u64.wrap (0 - IntKind.u64.wrap n)).toNat (wub _); simp only [List.length_cons, List.length_nil, maxLen]; omega)) | focus (simp_all; done) | focus (have := decDigits_le 20 (IntKind.u64.wrap (0 - IntKind.u64.wrap n)).toNat (wub _); simp only [List.length_cons, List.length_nil, maxLen]; omega)); (simp only [go_sem]; rfl))
    | (apply RunQ.call; rfl; (simp only [go_sem]; rfl); (first | trivial | omega | focus (simp; done) | focus (simp; omega) | focus (have := decDigits_le 20 (IntKind.u64.wrap (0 - IntKind.u64.wrap n)).toNat (wub _); simp only [List.length_cons, List.length_nil, maxLen]; omega)); (simp only [go_sem]; rfl); (simp only [go_sem]); (first | exact digits30 _ (wu n).1 (wu n).2 | exact digits30 _ (wu _).1 (wu _).2 | fail); rfl; (simp only [go_sem]; rfl))
    | (apply RunQ.callg; (simp only [go_sem]; rfl); rfl; (simp only [go_sem]; rfl); (intro hg; first | trivial | omega | focus (simp [hg]; done) | focus (simp [hg]; omega) | focus (simp only [hg, tt_tt, imp_tt, imp_self, true_and]; first | omega | focus (have := decDigits_le 20 (IntKind.u64.wrap (0 - IntKind.u64.wrap n)).toNat (wub _); simp only [List.length_cons, List.length_nil, maxLen]; omega)) | focus (simp_all; done) | focus (have := decDigits_le 20 (IntKind.u64.wrap (0 - IntKind.u64.wrap n)).toNat (wub _); simp only [List.length_cons, List.length_nil, maxLen]; omega)); (simp only [go_sem]; rfl); (intro _; (simp only [go_sem])); (intro hg; first | exact digits30 _ (wu n).1 (wu n).2 | exact digits30 _ (wu _).1 (wu _).2 | fail); rfl; (simp only [go_sem]; rfl))
    | (apply Holds.cond; (simp only [go_sem]; rfl); all_goals intro hb; all_goals try (refine absurd hb ?_; decide)))
  all_goals (refine ⟨by first | exact .inl rfl | exact .inr rfl, ?_⟩; simp only [go_sem])
  all_goals (refine congrArg V.c (congrArg C.str ?_); simp only [decide_eq_true_eq, decide_eq_false_iff_not] at *; first | exact (itoa_n h0 hb).symm | exact (itoa_p h1 hb).symm)

theorem number12_ok (s : List UInt8) (hs : s.length ≤ 281474976710656) (v : Int) (h : Lib.atoiAll s = .ok v) : PCall Tryd.prog I1 12 [.c (.str s)] (· = .tup [.c (.int .i64 (numS s).1), .c (.bool (numS s).2)]) := by
  refine PCall.body I1_stable (by kernel_rfl) Tryd.func12 rfl Tryd.ntmps12 (rs := [.tmp 2, .tmp 3]) rfl (by simp only [go_sem]; rfl) ?_
  intro w0 av old
  repeat' (first
    | refine Holds.seq ?_
    | refine Holds.run ?_
    | refine Holds.runQ follows (by kernel_rfl) ?_
    | refine Run.nil ?_
    | refine RunQ.nil ?_
    | refine thenQ.normal ?_
    | refine thenQ.ret ?_
    | refine thenQ.exit ?_
    | refine blockQ.normal ?_
    | refine blockQ.ret ?_
    | refine blockQ.out ?_
    | refine blockQ.on rfl ?_
    | refine Holds.block ?_
    | refine Holds.ret ?_
    | refine Holds.skip ?_
    | refine Holds.exit ?_
    | (apply Run.rd; rfl; (simp only [go_sem]; rfl); (first | trivial | omega | focus (simp; done) | focus (simp; omega)); (simp only [go_sem]; rfl))
    | (apply Run.ef; rfl; (simp only [go_sem]; rfl); (first | trivial | omega | focus (simp; done) | focus (simp; omega)))
    | (apply Run.cut; rfl; (simp only [go_sem]; rfl); (simp only [go_sem]; rfl); (first | trivial | omega | focus (simp; done) | focus (simp; omega)); (simp only [go_sem]; rfl))
    | (apply Run.rdg; (simp only [go_sem]; rfl); rfl; (simp only [go_sem]; rfl); (intro hg; first | trivial | omega | focus (simp [hg]; done) | focus (simp [hg]; omega) | focus (simp only [hg, tt_tt, imp_tt, imp_self, true_and]; first | omega) | focus (simp_all; done)); (simp only [go_sem]; rfl))
    | (apply Run.call; rfl; (simp only [go_sem]; rfl); (first | trivial | omega | focus (simp; done) | focus (simp; omega)); (simp only [go_sem]; rfl); (simp only [go_sem]); (first | exact atoi28_ok s hs v h | exact clamp18 _ | exact text14 _ (atoiAll_bd h).1 (atoiAll_bd h).2 | fail); (first | exact Or.inl rfl | (refine Or.inr ⟨?_, ?_⟩ <;> simp [topVs, topV, topC, St.okFrz, St.look])); (simp only [go_sem]; rfl))
    | (apply Run.callg; (simp only [go_sem]; rfl); rfl; (simp only [go_sem]; rfl); (intro hg; first | trivial | omega | focus (simp [hg]; done) | focus (simp [hg]; omega) | focus (simp only [hg, tt_tt, imp_tt, imp_self, true_and]; first | omega) | focus (simp_all; done)); (simp only [go_sem]; rfl); (intro _; (simp only [go_sem])); (intro hg; first | exact atoi28_ok s hs v h | exact clamp18 _ | exact text14 _ (atoiAll_bd h).1 (atoiAll_bd h).2 | fail); rfl; (simp only [go_sem]; rfl))
    | (apply RunQ.rd; rfl; (simp only [go_sem]; rfl); (first | trivial | omega | focus (simp; done) | focus (simp; omega)); (simp only [go_sem]; rfl))
    | (apply RunQ.cut; rfl; (simp only [go_sem]; rfl); (first | trivial | omega | focus (simp; done) | focus (simp; omega)); (simp only [go_sem]; rfl))
    | (apply RunQ.rdg; (simp only [go_sem]; rfl); rfl; (simp only [go_sem]; rfl); (intro hg; first | trivial | omega | focus (simp [hg]; done) | focus (simp [hg]; omega) | focus (simp only [hg, tt_tt, imp_tt, imp_self, true_and]; first | omega) | focus (simp_all; done)); (simp only [go_sem]; rfl))
    | (apply RunQ.cutg; (simp only [go_sem]; rfl); rfl; (simp only [go_sem]; rfl); (intro hg; first | trivial | omega | focus (simp [hg]; done) | focus (simp [hg]; omega) | focus (simp only [hg, tt_tt, imp_tt, imp_self, true_and]; first | omega) | focus (simp_all; done)); (simp only [go_sem]; rfl))
    | (apply RunQ.call; rfl; (simp only [go_sem]; rfl); (first | trivial | omega | focus (simp; done) | focus (simp; omega)); (simp only [go_sem]; rfl); (simp only [go_sem]); (first | exact atoi28_ok s hs v h | exact clamp18 _ | exact text14 _ (atoiAll_bd h).1 (atoiAll_bd h).2 | fail); rfl; (simp only [go_sem]; rfl))
    | (apply RunQ.callg; (simp only [go_sem]; rfl); rfl; (simp only [go_sem]; rfl); (intro hg; first | trivial | omega | focus (simp [hg]; done) | focus (simp [hg]; omega) | focus (simp only [hg, tt_tt, imp_tt, imp_self, true_and]; first | omega) | focus (simp_all; done)); (simp only [go_sem]; rfl); (intro _; (simp only [go_sem])); (intro hg; first | exact atoi28_ok s hs v h | exact clamp18 _ | exact text14 _ (atoiAll_bd h).1 (atoiAll_bd h).2 | fail); rfl; (simp only [go_sem]; rfl))
    | (apply Holds.cond; (simp only [go_sem]; rfl); all_goals intro hb; all_goals try (refine absurd hb ?_; decide)))
  all_goals (refine ⟨by first | exact .inl rfl | exact .inr rfl, ?_⟩; simp only [go_sem])
  all_goals (first | rw [numS_t h (by simpa using hb)] | rw [numS_f h (by simpa using hb)])

theorem number12_bad (s : List UInt8) (n : Int) (h0 : -9223372036854775808 ≤ n) (h1 : n ≤ 9223372036854775807) (hc : PCall Tryd.prog I1 28 [.c (.str s)] (· = .tup [.c (.int .i64 n), .c .held])) (hn : numS s = (0, false)) : PCall Tryd.prog I1 12 [.c (.str s)] (· = .tup [.c (.int .i64 (numS s).1), .c (.bool (numS s).2)]) := by
  refine PCall.body I1_stable (by kernel_rfl) Tryd.func12 rfl Tryd.ntmps12 (rs := [.tmp 2, .tmp 3]) rfl (by simp only [go_sem]; rfl) ?_
  intro w0 av old
  repeat' (first
    | refine Holds.seq ?_
    | refine Holds.run ?_
    | refine Holds.runQ follows (by kernel_rfl) ?_
    | refine Run.nil ?_
    | refine RunQ.nil ?_
    | refine thenQ.normal ?_
    | refine thenQ.ret ?_
    | refine thenQ.exit ?_
    | refine blockQ.normal ?_
    | refine blockQ.ret ?_
    | refine blockQ.out ?_
    | refine blockQ.on rfl ?_
    | refine Holds.block ?_
    | refine Holds.ret ?_
    | refine Holds.skip ?_
    | refine Holds.exit ?_
    | (apply Run.rd; rfl; (simp only [go_sem]; rfl); (first | trivial | omega | focus (simp; done) | focus (simp; omega)); (simp only [go_sem]; rfl))
    | (apply Run.ef; rfl; (simp only [go_sem]; rfl); (first | trivial | omega | focus (simp; done) | focus (simp; omega)))
    | (apply Run.cut; rfl; (simp only [go_sem]; rfl); (simp only [go_sem]; rfl); (first | trivial | omega | focus (simp; done) | focus (simp; omega)); (simp only [go_sem]; rfl))
    | (apply Run.rdg; (simp only [go_sem]; rfl); rfl; (simp only [go_sem]; rfl); (intro hg; first | trivial | omega | focus (simp [hg]; done) | focus (simp [hg]; omega) | focus (simp only [hg, tt_tt, imp_tt, imp_self, true_and]; first | omega) | focus (simp_all; done)); (simp only [go_sem]; rfl))
    | (apply Run.call; rfl; (simp only [go_sem]; rfl); (first | trivial | omega | focus (simp; done) | focus (simp; omega)); (simp only [go_sem]; rfl); (simp only [go_sem]); (first | exact hc | exact clamp18 _ | exact text14 _ h0 h1 | fail); (first | exact Or.inl rfl | (refine Or.inr ⟨?_, ?_⟩ <;> simp [topVs, topV, topC, St.okFrz, St.look])); (simp only [go_sem]; rfl))
    | (apply Run.callg; (simp only [go_sem]; rfl); rfl; (simp only [go_sem]; rfl); (intro hg; first | trivial | omega | focus (simp [hg]; done) | focus (simp [hg]; omega) | focus (simp only [hg, tt_tt, imp_tt, imp_self, true_and]; first | omega) | focus (simp_all; done)); (simp only [go_sem]; rfl); (intro _; (simp only [go_sem])); (intro hg; first | exact hc | exact clamp18 _ | exact text14 _ h0 h1 | fail); rfl; (simp only [go_sem]; rfl))
    | (apply RunQ.rd; rfl; (simp only [go_sem]; rfl); (first | trivial | omega | focus (simp; done) | focus (simp; omega)); (simp only [go_sem]; rfl))
    | (apply RunQ.cut; rfl; (simp only [go_sem]; rfl); (first | trivial | omega | focus (simp; done) | focus (simp; omega)); (simp only [go_sem]; rfl))
    | (apply RunQ.rdg; (simp only [go_sem]; rfl); rfl; (simp only [go_sem]; rfl); (intro hg; first | trivial | omega | focus (simp [hg]; done) | focus (simp [hg]; omega) | focus (simp only [hg, tt_tt, imp_tt, imp_self, true_and]; first | omega) | focus (simp_all; done)); (simp only [go_sem]; rfl))
    | (apply RunQ.cutg; (simp only [go_sem]; rfl); rfl; (simp only [go_sem]; rfl); (intro hg; first | trivial | omega | focus (simp [hg]; done) | focus (simp [hg]; omega) | focus (simp only [hg, tt_tt, imp_tt, imp_self, true_and]; first | omega) | focus (simp_all; done)); (simp only [go_sem]; rfl))
    | (apply RunQ.call; rfl; (simp only [go_sem]; rfl); (first | trivial | omega | focus (simp; done) | focus (simp; omega)); (simp only [go_sem]; rfl); (simp only [go_sem]); (first | exact hc | exact clamp18 _ | exact text14 _ h0 h1 | fail); rfl; (simp only [go_sem]; rfl))
    | (apply RunQ.callg; (simp only [go_sem]; rfl); rfl; (simp only [go_sem]; rfl); (intro hg; first | trivial | omega | focus (simp [hg]; done) | focus (simp [hg]; omega) | focus (simp only [hg, tt_tt, imp_tt, imp_self, true_and]; first | omega) | focus (simp_all; done)); (simp only [go_sem]; rfl); (intro _; (simp only [go_sem])); (intro hg; first | exact hc | exact clamp18 _ | exact text14 _ h0 h1 | fail); rfl; (simp only [go_sem]; rfl))
    | (apply Holds.cond; (simp only [go_sem]; rfl); all_goals intro hb; all_goals try (refine absurd hb ?_; decide)))
  all_goals (refine ⟨by first | exact .inl rfl | exact .inr rfl, ?_⟩; simp only [go_sem])
  all_goals (rw [hn])

theorem number12 (s : List UInt8) (hs : s.length ≤ 281474976710656) : PCall Tryd.prog I1 12 [.c (.str s)] (· = .tup [.c (.int .i64 (numS s).1), .c (.bool (numS s).2)]) := by
  by_cases h : ∃ v, Lib.atoiAll s = .ok v
  · obtain ⟨v, h⟩ := h
    exact number12_ok s hs v h
  · have h' : ∀ v, Lib.atoiAll s ≠ .ok v := fun v hv => h ⟨v, hv⟩
    obtain ⟨n, h0, h1, hc⟩ := atoi28_bad s hs h'
    exact number12_bad s n h0 h1 hc (numS_bad h')

end Go.PL
