/- NumBits, NumTexts, NumBack. -/
import Derived.Test.YtkbcgcmklmelbaaDoorPlNumF
import Derived.Lib.ItoaLen
namespace Go.PL
open Go Go.RowKit Go.Proofs
attribute [local irreducible] Holds wpOps wqOps thenQ blockQ
set_option maxRecDepth 10000
set_option linter.unusedSimpArgs false
theorem bitsS_len (m : Int) : (bitsS m).length ≤ 31 := by
  unfold bitsS
  split
  · simp
  · exact bitL_len m 31
theorem itoa_len (n : Int) (h0 : -9223372036854775808 ≤ n) (h1 : n ≤ 9223372036854775807) : (Lib.itoa n).length ≤ 281474976710656 := by
  have := Lib.itoa_length_le n h0 h1; omega
theorem itoa_len1 (n : Int) (c : UInt8) (h0 : -9223372036854775808 ≤ n) (h1 : n ≤ 9223372036854775807) : ([c] ++ Lib.itoa n).length ≤ 281474976710656 := by
  have := Lib.itoa_length_le n h0 h1
  simp; omega
theorem itoa_val (v : Int) : v = (if sgn (Lib.itoa v) = 1 then - valF 0 ((Lib.itoa v).drop (sgn (Lib.itoa v))) else valF 0 ((Lib.itoa v).drop (sgn (Lib.itoa v)))) := by
  unfold Lib.itoa
  split
  · rename_i hn
    have h4 := valF_dec v.natAbs
    have e : sgn (45 :: Lib.decDigits v.natAbs) = 1 := by simp [sgn]
    rw [e]
    simp only [List.drop_succ_cons, List.drop_zero, if_true]
    rw [h4]; omega
  · rename_i hn
    have h3 := decDigits_dg v.toNat
    have h4 := valF_dec v.toNat
    have e : sgn (Lib.decDigits v.toNat) = 0 := by
      cases hl : Lib.decDigits v.toNat with
      | nil => rfl
      | cons c l =>
        have hc : isDg c := h3 c (by rw [hl]; simp)
        unfold isDg at hc
        simp [sgn]
        intro q
        have : c.toNat = 45 := by rw [q]
        omega
    rw [e]
    simp [h4]
    omega
theorem itoa_inj {v n : Int} (h : Lib.itoa v = Lib.itoa n) : v = n := by
  have h1 := itoa_val v
  have h2 := itoa_val n
  rw [h] at h1
  rw [h1]
  exact h2.symm
theorem dec_head (u : Nat) (h : 10 ≤ u) : ∃ c l, Lib.decDigits u = c :: l ∧ c.toNat ≠ 48 := by
  induction u using Nat.strongRecOn with
  | _ u ih =>
    rw [Lib.decDigits, dif_neg (by omega)]
    by_cases h2 : u / 10 < 10
    · rw [Lib.decDigits, dif_pos h2]
      refine ⟨_, _, rfl, ?_⟩
      rw [dg_val _ h2]
      omega
    · obtain ⟨c, l, e, hc⟩ := ih (u / 10) (by omega) (by omega)
      rw [e]
      exact ⟨c, _, rfl, hc⟩
theorem itoa_ne (n : Int) : 1 ≤ (Lib.itoa n).length := by
  unfold Lib.itoa
  split
  · simp
  · exact decDigits_ne _
theorem numS_zero (n : Int) : numS (48 :: Lib.itoa n) = (0, false) := by
  rcases numS_or (48 :: Lib.itoa n) with q | ⟨v, _, _, h2⟩
  · exact q
  · exfalso
    have hne := itoa_ne n
    unfold Lib.itoa at h2
    split at h2
    · simp at h2
    · by_cases h : v.toNat < 10
      · rw [Lib.decDigits, dif_pos h] at h2
        have := congrArg List.length h2
        simp only [List.length_cons, List.length_nil] at this
        unfold Lib.itoa at hne
        omega
      · obtain ⟨c, l, e, hc⟩ := dec_head v.toNat (by omega)
        rw [e] at h2
        injection h2 with h3 _
        rw [h3] at hc
        exact hc rfl
theorem numS_plus (n : Int) : numS (43 :: Lib.itoa n) = (0, false) := by
  rcases numS_or (43 :: Lib.itoa n) with q | ⟨v, _, _, h2⟩
  · exact q
  · exfalso
    have hd := decDigits_dg v.toNat
    unfold Lib.itoa at h2
    split at h2
    · simp at h2
    · have := hd 43 (by rw [h2]; simp)
      unfold isDg at this
      simp at this
theorem back_law (n : Int) : ((numS (Lib.itoa n)).2 == (decide (-1000000 ≤ n) && decide (n ≤ 1000000)) && ((numS (Lib.itoa n)).1 == n || !(decide (-1000000 ≤ n) && decide (n ≤ 1000000)) && (numS (Lib.itoa n)).1 == 0) && !((0, false) : Int × Bool).2 && !((0, false) : Int × Bool).2) = true := by
  by_cases h : -1000000 ≤ n ∧ n ≤ 1000000
  · rw [numS_of (clampS_id h.1 h.2) rfl]
    simp [h.1, h.2]
  · have e : numS (Lib.itoa n) = (0, false) := by
      rcases numS_or (Lib.itoa n) with q | ⟨v, _, h1, h2⟩
      · exact q
      · have := clampS_bd v
        have hv := itoa_inj h2
        subst hv
        rw [h1] at this
        exact absurd this h
    rw [e]
    by_cases h3 : -1000000 ≤ n <;> by_cases h4 : n ≤ 1000000 <;> simp_all
theorem law3 (m : Int) (hm : m ≤ 9223372036854775807) : PCall Tryd.prog I1 3 [.c (.int .i64 m)] (· = .c (.bool true)) := by
  refine PCall.body I1_stable (by kernel_rfl) Tryd.func3 rfl Tryd.ntmps3 (rs := [.tmp 2]) rfl (by simp only [go_sem]; rfl) ?_
  intro w0 av old
  repeat' (first
    | refine Holds.seq ?_
    | refine Holds.run ?_
    | refine Holds.runQ follows (by kernel_rfl) ?_
    | refine Run.nil ?_
    | refine RunQ.nil ?_
    | refine thenQ.normal ?_
    | refine thenQ.ret ?_
    | refine thenQ.exit ?_
    | refine blockQ.normal ?_
    | refine blockQ.ret ?_
    | refine blockQ.out ?_
    | refine blockQ.on rfl ?_
    | refine Holds.block ?_
    | refine Holds.ret ?_
    | refine Holds.skip ?_
    | refine Holds.exit ?_
    | (apply Run.rd; rfl; (simp only [go_sem]; rfl); (first | trivial | omega | focus (simp; done) | focus (simp; omega)); (simp only [go_sem]; rfl))
    | (apply Run.ef; rfl; (simp only [go_sem]; rfl); (first | trivial | omega | focus (simp; done) | focus (simp; omega)))
    | (apply Run.cut; rfl; (simp only [go_sem]; rfl); (simp only [go_sem]; rfl); (first | trivial | omega | focus (simp; done) | focus (simp; omega)); (simp only [go_sem]; rfl))
    | (apply Run.rdg; (simp only [go_sem]; rfl); rfl; (simp only [go_sem]; rfl); (intro hg; first | trivial | omega | focus (simp [hg]; done) | focus (simp [hg]; omega) | focus (simp only [hg, tt_tt, imp_tt, imp_self, true_and]; first | omega) | focus (simp_all; done)); (simp only [go_sem]; rfl))
    | (apply Run.call; rfl; (simp only [go_sem]; rfl); (first | trivial | omega | focus (simp; done) | focus (simp; omega)); (simp only [go_sem]; rfl); (simp only [go_sem]); (first | exact bits9 m | exact bits10 m hm | exact alive11 | fail); (first | exact Or.inl rfl | (refine Or.inr ⟨?_, ?_⟩ <;> simp [topVs, topV, topC, St.okFrz, St.look])); (simp only [go_sem]; rfl))
    | (apply Run.callg; (simp only [go_sem]; rfl); rfl; (simp only [go_sem]; rfl); (intro hg; first | trivial | omega | focus (simp [hg]; done) | focus (simp [hg]; omega) | focus (simp only [hg, tt_tt, imp_tt, imp_self, true_and]; first | omega) | focus (simp_all; done)); (simp only [go_sem]; rfl); (intro _; (simp only [go_sem])); (intro hg; first | exact bits9 m | exact bits10 m hm | exact alive11 | fail); rfl; (simp only [go_sem]; rfl))
    | (apply RunQ.rd; rfl; (simp only [go_sem]; rfl); (first | trivial | omega | focus (simp; done) | focus (simp; omega)); (simp only [go_sem]; rfl))
    | (apply RunQ.cut; rfl; (simp only [go_sem]; rfl); (first | trivial | omega | focus (simp; done) | focus (simp; omega)); (simp only [go_sem]; rfl))
    | (apply RunQ.rdg; (simp only [go_sem]; rfl); rfl; (simp only [go_sem]; rfl); (intro hg; first | trivial | omega | focus (simp [hg]; done) | focus (simp [hg]; omega) | focus (simp only [hg, tt_tt, imp_tt, imp_self, true_and]; first | omega) | focus (simp_all; done)); (simp only [go_sem]; rfl))
    | (apply RunQ.cutg; (simp only [go_sem]; rfl); rfl; (simp only [go_sem]; rfl); (intro hg; first | trivial | omega | focus (simp [hg]; done) | focus (simp [hg]; omega) | focus (simp only [hg, tt_tt, imp_tt, imp_self, true_and]; first | omega) | focus (simp_all; done)); (simp only [go_sem]; rfl))
    | (apply RunQ.call; rfl; (simp only [go_sem]; rfl); (first | trivial | omega | focus (simp; done) | focus (simp; omega)); (simp only [go_sem]; rfl); (simp only [go_sem]); (first | exact bits9 m | exact bits10 m hm | exact alive11 | fail); rfl; (simp only [go_sem]; rfl))
    | (apply RunQ.callg; (simp only [go_sem]; rfl); rfl; (simp only [go_sem]; rfl); (intro hg; first | trivial | omega | focus (simp [hg]; done) | focus (simp [hg]; omega) | focus (simp only [hg, tt_tt, imp_tt, imp_self, true_and]; first | omega) | focus (simp_all; done)); (simp only [go_sem]; rfl); (intro _; (simp only [go_sem])); (intro hg; first | exact bits9 m | exact bits10 m hm | exact alive11 | fail); rfl; (simp only [go_sem]; rfl))
    | (apply Holds.cond; (simp only [go_sem]; rfl); all_goals intro hb; all_goals try (refine absurd hb ?_; decide)))
  all_goals (first | focus (refine Holds.loop (X := Nat) (fun i => ⟨[.undef, .undef, .undef, .c (.sl (bitsS m).length ((bitsS m).map (C.int .i64))), .c (.sl (bitsS m).length ((bitsS m).map (C.int .i64))), .undef, .undef, .undef, .undef, .undef, .undef, .undef, .undef, .undef, .undef, .undef, .c (.int .i64 ((bitsS m).length : Int)), .c (.int .i64 (i : Int)), .undef, .undef, .undef, .undef, .undef, .undef, .undef, .undef, .undef, .undef, .undef, .undef, .undef], []⟩) (fun i => i ≤ (bitsS m).length) (fun i => (bitsS m).length - i) 0 (Nat.zero_le _) (by (exact Less.of (by repeat' first | exact lessL.nil | refine lessL.skip ?_ | (refine lessL.keep (by first | rfl | (rfl)) ?_)) (by repeat' first | exact lessE.nil | (refine lessE.keep (by first | rfl | (rfl)) ?_) | refine lessE.skip ?_))) ?_; intro i hx) | skip)
  all_goals (first | focus (exfalso; simp at hb; done) | skip)
  rcases Nat.lt_or_ge i (bitsS m).length with hi | hi
  · have hv : ((bitsS m).map (C.int .i64)).getD i C.any = C.int .i64 ((bitsS m).getD i 0) := by simp [List.getD_eq_getElem?_getD, hi]
    repeat' (first
      | refine Holds.seq ?_
      | refine Holds.run ?_
      | refine Holds.runQ follows (by kernel_rfl) ?_
      | refine Run.nil ?_
      | refine RunQ.nil ?_
      | refine thenQ.normal ?_
      | refine thenQ.ret ?_
      | refine thenQ.exit ?_
      | refine blockQ.normal ?_
      | refine blockQ.ret ?_
      | refine blockQ.out ?_
      | refine blockQ.on rfl ?_
      | refine Holds.block ?_
      | refine Holds.ret ?_
      | refine Holds.skip ?_
      | refine Holds.exit ?_
      | (apply Run.rd; rfl; (simp only [go_sem, hv, Int.toNat_natCast, Nat.mul_one]; rfl); (first | trivial | omega | focus (simp; done) | focus (simp; omega) | focus (simp only [decide_eq_true_eq] at *; omega)); (simp only [go_sem, hv, Int.toNat_natCast, Nat.mul_one]; rfl))
      | (apply Run.ef; rfl; (simp only [go_sem, hv, Int.toNat_natCast, Nat.mul_one]; rfl); (first | trivial | omega | focus (simp; done) | focus (simp; omega) | focus (simp only [decide_eq_true_eq] at *; omega)))
      | (apply Run.cut; rfl; (simp only [go_sem, hv, Int.toNat_natCast, Nat.mul_one]; rfl); (simp only [go_sem, hv, Int.toNat_natCast, Nat.mul_one]; rfl); (first | trivial | omega | focus (simp; done) | focus (simp; omega) | focus (simp only [decide_eq_true_eq] at *; omega)); (simp only [go_sem, hv, Int.toNat_natCast, Nat.mul_one]; rfl))
      | (apply Run.rdg; (simp only [go_sem, hv, Int.toNat_natCast, Nat.mul_one]; rfl); rfl; (simp only [go_sem, hv, Int.toNat_natCast, Nat.mul_one]; rfl); (intro hg; first | trivial | omega | focus (simp [hg]; done) | focus (simp [hg]; omega) | focus (simp only [hg, tt_tt, imp_tt, imp_self, true_and]; first | omega | focus (simp only [decide_eq_true_eq] at *; omega)) | focus (simp_all; done) | focus (simp only [decide_eq_true_eq] at *; omega)); (simp only [go_sem, hv, Int.toNat_natCast, Nat.mul_one]; rfl))
      | (apply Run.call; rfl; (simp only [go_sem, hv, Int.toNat_natCast, Nat.mul_one]; rfl); (first | trivial | omega | focus (simp; done) | focus (simp; omega) | focus (simp only [decide_eq_true_eq] at *; omega)); (simp only [go_sem, hv, Int.toNat_natCast, Nat.mul_one]; rfl); (simp only [go_sem, hv, Int.toNat_natCast, Nat.mul_one]); (first | exact alive11 | fail); (first | exact Or.inl rfl | (refine Or.inr ⟨?_, ?_⟩ <;> simp [topVs, topV, topC, St.okFrz, St.look])); (simp only [go_sem, hv, Int.toNat_natCast, Nat.mul_one]; rfl))
      | (apply Run.callg; (simp only [go_sem, hv, Int.toNat_natCast, Nat.mul_one]; rfl); rfl; (simp only [go_sem, hv, Int.toNat_natCast, Nat.mul_one]; rfl); (intro hg; first | trivial | omega | focus (simp [hg]; done) | focus (simp [hg]; omega) | focus (simp only [hg, tt_tt, imp_tt, imp_self, true_and]; first | omega | focus (simp only [decide_eq_true_eq] at *; omega)) | focus (simp_all; done) | focus (simp only [decide_eq_true_eq] at *; omega)); (simp only [go_sem, hv, Int.toNat_natCast, Nat.mul_one]; rfl); (intro _; (simp only [go_sem, hv, Int.toNat_natCast, Nat.mul_one])); (intro hg; first | exact alive11 | fail); rfl; (simp only [go_sem, hv, Int.toNat_natCast, Nat.mul_one]; rfl))
      | (apply RunQ.rd; rfl; (simp only [go_sem, hv, Int.toNat_natCast, Nat.mul_one]; rfl); (first | trivial | omega | focus (simp; done) | focus (simp; omega) | focus (simp only [decide_eq_true_eq] at *; omega)); (simp only [go_sem, hv, Int.toNat_natCast, Nat.mul_one]; rfl))
      | (apply RunQ.cut; rfl; (simp only [go_sem, hv, Int.toNat_natCast, Nat.mul_one]; rfl); (first | trivial | omega | focus (simp; done) | focus (simp; omega) | focus (simp only [decide_eq_true_eq] at *; omega)); (simp only [go_sem, hv, Int.toNat_natCast, Nat.mul_one]; rfl))
      | (apply RunQ.rdg; (simp only [go_sem, hv, Int.toNat_natCast, Nat.mul_one]; rfl); rfl; (simp only [go_sem, hv, Int.toNat_natCast, Nat.mul_one]; rfl); (intro hg; first | trivial | omega | focus (simp [hg]; done) | focus (simp [hg]; omega) | focus (simp only [hg, tt_tt, imp_tt, imp_self, true_and]; first | omega | focus (simp only [decide_eq_true_eq] at *; omega)) | focus (simp_all; done) | focus (simp only [decide_eq_true_eq] at *; omega)); (simp only [go_sem, hv, Int.toNat_natCast, Nat.mul_one]; rfl))
      | (apply RunQ.cutg; (simp only [go_sem, hv, Int.toNat_natCast, Nat.mul_one]; rfl); rfl; (simp only [go_sem, hv, Int.toNat_natCast, Nat.mul_one]; rfl); (intro hg; first | trivial | omega | focus (simp [hg]; done) | focus (simp [hg]; omega) | focus (simp only [hg, tt_tt, imp_tt, imp_self, true_and]; first | omega | focus (simp only [decide_eq_true_eq] at *; omega)) | focus (simp_all; done) | focus (simp only [decide_eq_true_eq] at *; omega)); (simp only [go_sem, hv, Int.toNat_natCast, Nat.mul_one]; rfl))
      | (apply RunQ.call; rfl; (simp only [go_sem, hv, Int.toNat_natCast, Nat.mul_one]; rfl); (first | trivial | omega | focus (simp; done) | focus (simp; omega) | focus (simp only [decide_eq_true_eq] at *; omega)); (simp only [go_sem, hv, Int.toNat_natCast, Nat.mul_one]; rfl); (simp only [go_sem, hv, Int.toNat_natCast, Nat.mul_one]); (first | exact alive11 | fail); rfl; (simp only [go_sem, hv, Int.toNat_natCast, Nat.mul_one]; rfl))
      | (apply RunQ.callg; (simp only [go_sem, hv, Int.toNat_natCast, Nat.mul_one]; rfl); rfl; (simp only [go_sem, hv, Int.toNat_natCast, Nat.mul_one]; rfl); (intro hg; first | trivial | omega | focus (simp [hg]; done) | focus (simp [hg]; omega) | focus (simp only [hg, tt_tt, imp_tt, imp_self, true_and]; first | omega | focus (simp only [decide_eq_true_eq] at *; omega)) | focus (simp_all; done) | focus (simp only [decide_eq_true_eq] at *; omega)); (simp only [go_sem, hv, Int.toNat_natCast, Nat.mul_one]; rfl); (intro _; (simp only [go_sem, hv, Int.toNat_natCast, Nat.mul_one])); (intro hg; first | exact alive11 | fail); rfl; (simp only [go_sem, hv, Int.toNat_natCast, Nat.mul_one]; rfl))
      | (apply Holds.cond; (simp only [go_sem, hv, Int.toNat_natCast, Nat.mul_one]; rfl); all_goals intro hb; all_goals try (refine absurd hb ?_; decide)))
    all_goals (first | focus (exfalso; simp only [decide_eq_true_eq, decide_eq_false_iff_not] at *; omega) | focus (exfalso; simp at hb; done) | focus (exact ⟨i + 1, hi, by omega, by (exact Less.of (by repeat' first | exact lessL.nil | refine lessL.skip ?_ | (refine lessL.keep (by first | rfl | ((refine congrArg V.c (congrArg (C.int _) ?_); have := bitsS_len m; rw [wrap_small _ (by omega)]; omega))) ?_)) (by repeat' first | exact lessE.nil | (refine lessE.keep (by first | rfl | (rfl)) ?_) | refine lessE.skip ?_))⟩))
  · have hv : (1 : Nat) = 1 := rfl
    repeat' (first
      | refine Holds.seq ?_
      | refine Holds.run ?_
      | refine Holds.runQ follows (by kernel_rfl) ?_
      | refine Run.nil ?_
      | refine RunQ.nil ?_
      | refine thenQ.normal ?_
      | refine thenQ.ret ?_
      | refine thenQ.exit ?_
      | refine blockQ.normal ?_
      | refine blockQ.ret ?_
      | refine blockQ.out ?_
      | refine blockQ.on rfl ?_
      | refine Holds.block ?_
      | refine Holds.ret ?_
      | refine Holds.skip ?_
      | refine Holds.exit ?_
      | (apply Run.rd; rfl; (simp only [go_sem, hv, Int.toNat_natCast, Nat.mul_one]; rfl); (first | trivial | omega | focus (simp; done) | focus (simp; omega) | focus (simp only [decide_eq_true_eq] at *; omega)); (simp only [go_sem, hv, Int.toNat_natCast, Nat.mul_one]; rfl))
      | (apply Run.ef; rfl; (simp only [go_sem, hv, Int.toNat_natCast, Nat.mul_one]; rfl); (first | trivial | omega | focus (simp; done) | focus (simp; omega) | focus (simp only [decide_eq_true_eq] at *; omega)))
      | (apply Run.cut; rfl; (simp only [go_sem, hv, Int.toNat_natCast, Nat.mul_one]; rfl); (simp only [go_sem, hv, Int.toNat_natCast, Nat.mul_one]; rfl); (first | trivial | omega | focus (simp; done) | focus (simp; omega) | focus (simp only [decide_eq_true_eq] at *; omega)); (simp only [go_sem, hv, Int.toNat_natCast, Nat.mul_one]; rfl))
      | (apply Run.rdg; (simp only [go_sem, hv, Int.toNat_natCast, Nat.mul_one]; rfl); rfl; (simp only [go_sem, hv, Int.toNat_natCast, Nat.mul_one]; rfl); (intro hg; first | trivial | omega | focus (simp [hg]; done) | focus (simp [hg]; omega) | focus (simp only [hg, tt_tt, imp_tt, imp_self, true_and]; first | omega | focus (simp only [decide_eq_true_eq] at *; omega)) | focus (simp_all; done) | focus (simp only [decide_eq_true_eq] at *; omega)); (simp only [go_sem, hv, Int.toNat_natCast, Nat.mul_one]; rfl))
      | (apply Run.call; rfl; (simp only [go_sem, hv, Int.toNat_natCast, Nat.mul_one]; rfl); (first | trivial | omega | focus (simp; done) | focus (simp; omega) | focus (simp only [decide_eq_true_eq] at *; omega)); (simp only [go_sem, hv, Int.toNat_natCast, Nat.mul_one]; rfl); (simp only [go_sem, hv, Int.toNat_natCast, Nat.mul_one]); (first | exact alive11 | fail); (first | exact Or.inl rfl | (refine Or.inr ⟨?_, ?_⟩ <;> simp [topVs, topV, topC, St.okFrz, St.look])); (simp only [go_sem, hv, Int.toNat_natCast, Nat.mul_one]; rfl))
      | (apply Run.callg; (simp only [go_sem, hv, Int.toNat_natCast, Nat.mul_one]; rfl); rfl; (simp only [go_sem, hv, Int.toNat_natCast, Nat.mul_one]; rfl); (intro hg; first | trivial | omega | focus (simp [hg]; done) | focus (simp [hg]; omega) | focus (simp only [hg, tt_tt, imp_tt, imp_self, true_and]; first | omega | focus (simp only [decide_eq_true_eq] at *; omega)) | focus (simp_all; done) | focus (simp only [decide_eq_true_eq] at *; omega)); (simp only [go_sem, hv, Int.toNat_natCast, Nat.mul_one]; rfl); (intro _; (simp only [go_sem, hv, Int.toNat_natCast, Nat.mul_one])); (intro hg; first | exact alive11 | fail); rfl; (simp only [go_sem, hv, Int.toNat_natCast, Nat.mul_one]; rfl))
      | (apply RunQ.rd; rfl; (simp only [go_sem, hv, Int.toNat_natCast, Nat.mul_one]; rfl); (first | trivial | omega | focus (simp; done) | focus (simp; omega) | focus (simp only [decide_eq_true_eq] at *; omega)); (simp only [go_sem, hv, Int.toNat_natCast, Nat.mul_one]; rfl))
      | (apply RunQ.cut; rfl; (simp only [go_sem, hv, Int.toNat_natCast, Nat.mul_one]; rfl); (first | trivial | omega | focus (simp; done) | focus (simp; omega) | focus (simp only [decide_eq_true_eq] at *; omega)); (simp only [go_sem, hv, Int.toNat_natCast, Nat.mul_one]; rfl))
      | (apply RunQ.rdg; (simp only [go_sem, hv, Int.toNat_natCast, Nat.mul_one]; rfl); rfl; (simp only [go_sem, hv, Int.toNat_natCast, Nat.mul_one]; rfl); (intro hg; first | trivial | omega | focus (simp [hg]; done) | focus (simp [hg]; omega) | focus (simp only [hg, tt_tt, imp_tt, imp_self, true_and]; first | omega | focus (simp only [decide_eq_true_eq] at *; omega)) | focus (simp_all; done) | focus (simp only [decide_eq_true_eq] at *; omega)); (simp only [go_sem, hv, Int.toNat_natCast, Nat.mul_one]; rfl))
      | (apply RunQ.cutg; (simp only [go_sem, hv, Int.toNat_natCast, Nat.mul_one]; rfl); rfl; (simp only [go_sem, hv, Int.toNat_natCast, Nat.mul_one]; rfl); (intro hg; first | trivial | omega | focus (simp [hg]; done) | focus (simp [hg]; omega) | focus (simp only [hg, tt_tt, imp_tt, imp_self, true_and]; first | omega | focus (simp only [decide_eq_true_eq] at *; omega)) | focus (simp_all; done) | focus (simp only [decide_eq_true_eq] at *; omega)); (simp only [go_sem, hv, Int.toNat_natCast, Nat.mul_one]; rfl))
      | (apply RunQ.call; rfl; (simp only [go_sem, hv, Int.toNat_natCast, Nat.mul_one]; rfl); (first | trivial | omega | focus (simp; done) | focus (simp; omega) | focus (simp only [decide_eq_true_eq] at *; omega)); (simp only [go_sem, hv, Int.toNat_natCast, Nat.mul_one]; rfl); (simp only [go_sem, hv, Int.toNat_natCast, Nat.mul_one]); (first | exact alive11 | fail); rfl; (simp only [go_sem, hv, Int.toNat_natCast, Nat.mul_one]; rfl))
      | (apply RunQ.callg; (simp only [go_sem, hv, Int.toNat_natCast, Nat.mul_one]; rfl); rfl; (simp only [go_sem, hv, Int.toNat_natCast, Nat.mul_one]; rfl); (intro hg; first | trivial | omega | focus (simp [hg]; done) | focus (simp [hg]; omega) | focus (simp only [hg, tt_tt, imp_tt, imp_self, true_and]; first | omega | focus (simp only [decide_eq_true_eq] at *; omega)) | focus (simp_all; done) | focus (simp only [decide_eq_true_eq] at *; omega)); (simp only [go_sem, hv, Int.toNat_natCast, Nat.mul_one]; rfl); (intro _; (simp only [go_sem, hv, Int.toNat_natCast, Nat.mul_one])); (intro hg; first | exact alive11 | fail); rfl; (simp only [go_sem, hv, Int.toNat_natCast, Nat.mul_one]; rfl))
      | (apply Holds.cond; (simp only [go_sem, hv, Int.toNat_natCast, Nat.mul_one]; rfl); all_goals intro hb; all_goals try (refine absurd hb ?_; decide)))
    all_goals (first | focus (refine ⟨by first | exact .inl rfl | exact .inr rfl, ?_⟩; simp only [go_sem]; done) | focus (exact ⟨by first | exact .inl rfl | exact .inr rfl, trivial, rfl, rfl⟩) | focus (exfalso; simp only [decide_eq_true_eq, decide_eq_false_iff_not] at *; omega) | focus (exfalso; simp at hb; done))

theorem law4 (n : Int) (s : List UInt8) (h0 : -9223372036854775808 ≤ n) (h1 : n ≤ 9223372036854775807) (hs : s.length ≤ 281474976710656) : PCall Tryd.prog I1 4 [.c (.int .i64 n), .c (.str s)] (· = .c (.bool true)) := by
  refine PCall.body I1_stable (by kernel_rfl) Tryd.func4 rfl Tryd.ntmps4 (rs := [.tmp 4]) rfl (by simp only [go_sem]; rfl) ?_
  intro w0 av old
  repeat' (first
    | refine Holds.seq ?_
    | refine Holds.run ?_
    | refine Holds.runQ follows (by kernel_rfl) ?_
    | refine Run.nil ?_
    | refine RunQ.nil ?_
    | refine thenQ.normal ?_
    | refine thenQ.ret ?_
    | refine thenQ.exit ?_
    | refine blockQ.normal ?_
    | refine blockQ.ret ?_
    | refine blockQ.out ?_
    | refine blockQ.on rfl ?_
    | refine Holds.block ?_
    | refine Holds.ret ?_
    | refine Holds.skip ?_
    | refine Holds.exit ?_
    | (apply Run.rd; rfl; (simp only [go_sem]; rfl); (first | trivial | omega | focus (simp; done) | focus (simp; omega)); (simp only [go_sem]; rfl))
    | (apply Run.ef; rfl; (simp only [go_sem]; rfl); (first | trivial | omega | focus (simp; done) | focus (simp; omega)))
    | (apply Run.cut; rfl; (simp only [go_sem]; rfl); (simp only [go_sem]; rfl); (first | trivial | omega | focus (simp; done) | focus (simp; omega)); (simp only [go_sem]; rfl))
    | (apply Run.rdg; (simp only [go_sem]; rfl); rfl; (simp only [go_sem]; rfl); (intro hg; first | trivial | omega | focus (simp [hg]; done) | focus (simp [hg]; omega) | focus (simp only [hg, tt_tt, imp_tt, imp_self, true_and]; first | omega) | focus (simp_all; done)); (simp only [go_sem]; rfl))
    | (apply Run.call; rfl; (simp only [go_sem]; rfl); (first | trivial | omega | focus (simp; done) | focus (simp; omega)); (simp only [go_sem]; rfl); (simp only [go_sem]); (first | exact alive11 | exact number12 s hs | exact number13 s hs | exact text14 n h0 h1 | exact text15 n h0 h1 | fail); (first | exact Or.inl rfl | (refine Or.inr ⟨?_, ?_⟩ <;> simp [topVs, topV, topC, St.okFrz, St.look])); (simp only [go_sem]; rfl))
    | (apply Run.callg; (simp only [go_sem]; rfl); rfl; (simp only [go_sem]; rfl); (intro hg; first | trivial | omega | focus (simp [hg]; done) | focus (simp [hg]; omega) | focus (simp only [hg, tt_tt, imp_tt, imp_self, true_and]; first | omega) | focus (simp_all; done)); (simp only [go_sem]; rfl); (intro _; (simp only [go_sem])); (intro hg; first | exact alive11 | exact number12 s hs | exact number13 s hs | exact text14 n h0 h1 | exact text15 n h0 h1 | fail); rfl; (simp only [go_sem]; rfl))
    | (apply RunQ.rd; rfl; (simp only [go_sem]; rfl); (first | trivial | omega | focus (simp; done) | focus (simp; omega)); (simp only [go_sem]; rfl))
    | (apply RunQ.cut; rfl; (simp only [go_sem]; rfl); (first | trivial | omega | focus (simp; done) | focus (simp; omega)); (simp only [go_sem]; rfl))
    | (apply RunQ.rdg; (simp only [go_sem]; rfl); rfl; (simp only [go_sem]; rfl); (intro hg; first | trivial | omega | focus (simp [hg]; done) | focus (simp [hg]; omega) | focus (simp only [hg, tt_tt, imp_tt, imp_self, true_and]; first | omega) | focus (simp_all; done)); (simp only [go_sem]; rfl))
    | (apply RunQ.cutg; (simp only [go_sem]; rfl); rfl; (simp only [go_sem]; rfl); (intro hg; first | trivial | omega | focus (simp [hg]; done) | focus (simp [hg]; omega) | focus (simp only [hg, tt_tt, imp_tt, imp_self, true_and]; first | omega) | focus (simp_all; done)); (simp only [go_sem]; rfl))
    | (apply RunQ.call; rfl; (simp only [go_sem]; rfl); (first | trivial | omega | focus (simp; done) | focus (simp; omega)); (simp only [go_sem]; rfl); (simp only [go_sem]); (first | exact alive11 | exact number12 s hs | exact number13 s hs | exact text14 n h0 h1 | exact text15 n h0 h1 | fail); rfl; (simp only [go_sem]; rfl))
    | (apply RunQ.callg; (simp only [go_sem]; rfl); rfl; (simp only [go_sem]; rfl); (intro hg; first | trivial | omega | focus (simp [hg]; done) | focus (simp [hg]; omega) | focus (simp only [hg, tt_tt, imp_tt, imp_self, true_and]; first | omega) | focus (simp_all; done)); (simp only [go_sem]; rfl); (intro _; (simp only [go_sem])); (intro hg; first | exact alive11 | exact number12 s hs | exact number13 s hs | exact text14 n h0 h1 | exact text15 n h0 h1 | fail); rfl; (simp only [go_sem]; rfl))
    | (apply Holds.cond; (simp only [go_sem]; rfl); all_goals intro hb; all_goals try (refine absurd hb ?_; decide)))
  all_goals (refine ⟨by first | exact .inl rfl | exact .inr rfl, ?_⟩; simp only [go_sem])
  all_goals simp

theorem law5 (n : Int) (h0 : -9223372036854775808 ≤ n) (h1 : n ≤ 9223372036854775807) : PCall Tryd.prog I1 5 [.c (.int .i64 n)] (· = .c (.bool true)) := by
  refine PCall.body I1_stable (by kernel_rfl) Tryd.func5 rfl Tryd.ntmps5 (rs := [.tmp 2]) rfl (by simp only [go_sem]; rfl) ?_
  intro w0 av old
  repeat' (first
    | refine Holds.seq ?_
    | refine Holds.run ?_
    | refine Holds.runQ follows (by kernel_rfl) ?_
    | refine Run.nil ?_
    | refine RunQ.nil ?_
    | refine thenQ.normal ?_
    | refine thenQ.ret ?_
    | refine thenQ.exit ?_
    | refine blockQ.normal ?_
    | refine blockQ.ret ?_
    | refine blockQ.out ?_
    | refine blockQ.on rfl ?_
    | refine Holds.block ?_
    | refine Holds.ret ?_
    | refine Holds.skip ?_
    | refine Holds.exit ?_
    | (apply Run.rd; rfl; (simp only [go_sem]; rfl); (first | trivial | omega | focus (simp; done) | focus (simp; omega) | focus (have := Lib.itoa_length_le n h0 h1; simp only [List.length_cons, List.length_nil, maxLen]; omega)); (simp only [go_sem]; rfl))
    | (apply Run.ef; rfl; (simp only [go_sem]; rfl); (first | trivial | omega | focus (simp; done) | focus (simp; omega) | focus (have := Lib.itoa_length_le n h0 h1; simp only [List.length_cons, List.length_nil, maxLen]; omega)))
    | (apply Run.cut; rfl; (simp only [go_sem]; rfl); (simp only [go_sem]; rfl); (first | trivial | omega | focus (simp; done) | focus (simp; omega) | focus (have := Lib.itoa_length_le n h0 h1; simp only [List.length_cons, List.length_nil, maxLen]; omega)); (simp only [go_sem]; rfl))
    | (apply Run.rdg; (simp only [go_sem]; rfl); rfl; (simp only [go_sem]; rfl); (intro hg; first | trivial | omega | focus (simp [hg]; done) | focus (simp [hg]; omega) | focus (simp only [hg, tt_tt, imp_tt, imp_self, true_and]; first | omega | focus (have := Lib.itoa_length_le n h0 h1; simp only [List.length_cons, List.length_nil, maxLen]; omega)) | focus (simp_all; done) | focus (have := Lib.itoa_length_le n h0 h1; simp only [List.length_cons, List.length_nil, maxLen]; omega)); (simp only [go_sem]; rfl))
    | (apply Run.call; rfl; (simp only [go_sem]; rfl); (first | trivial | omega | focus (simp; done) | focus (simp; omega) | focus (have := Lib.itoa_length_le n h0 h1; simp only [List.length_cons, List.length_nil, maxLen]; omega)); (simp only [go_sem]; rfl); (simp only [go_sem]); (first | exact alive11 | exact text14 n h0 h1 | exact number12 _ (itoa_len n h0 h1) | exact number12 _ (itoa_len1 n _ h0 h1) | fail); (first | exact Or.inl rfl | (refine Or.inr ⟨?_, ?_⟩ <;> simp [topVs, topV, topC, St.okFrz, St.look])); (simp only [go_sem]; rfl))
    | (apply Run.callg; (simp only [go_sem]; rfl); rfl; (simp only [go_sem]; rfl); (intro hg; first | trivial | omega | focus (simp [hg]; done) | focus (simp [hg]; omega) | focus (simp only [hg, tt_tt, imp_tt, imp_self, true_and]; first | omega | focus (have := Lib.itoa_length_le n h0 h1; simp only [List.length_cons, List.length_nil, maxLen]; omega)) | focus (simp_all; done) | focus (have := Lib.itoa_length_le n h0 h1; simp only [List.length_cons, List.length_nil, maxLen]; omega)); (simp only [go_sem]; rfl); (intro _; (simp only [go_sem])); (intro hg; first | exact alive11 | exact text14 n h0 h1 | exact number12 _ (itoa_len n h0 h1) | exact number12 _ (itoa_len1 n _ h0 h1) | fail); rfl; (simp only [go_sem]; rfl))
    | (apply RunQ.rd; rfl; (simp only [go_sem]; rfl); (first | trivial | omega | focus (simp; done) | focus (simp; omega) | focus (have := Lib.itoa_length_le n h0 h1; simp only [List.length_cons, List.length_nil, maxLen]; omega)); (simp only [go_sem]; rfl))
    | (apply RunQ.cut; rfl; (simp only [go_sem]; rfl); (first | trivial | omega | focus (simp; done) | focus (simp; omega) | focus (have := Lib.itoa_length_le n h0 h1; simp only [List.length_cons, List.length_nil, maxLen]; omega)); (simp only [go_sem]; rfl))
    | (apply RunQ.rdg; (simp only [go_sem]; rfl); rfl; (simp only [go_sem]; rfl); (intro hg; first | trivial | omega | focus (simp [hg]; done) | focus (simp [hg]; omega) | focus (simp only [hg, tt_tt, imp_tt, imp_self, true_and]; first | omega | focus (have := Lib.itoa_length_le n h0 h1; simp only [List.length_cons, List.length_nil, maxLen]; omega)) | focus (simp_all; done) | focus (have := Lib.itoa_length_le n h0 h1; simp only [List.length_cons, List.length_nil, maxLen]; omega)); (simp only [go_sem]; rfl))
    | (apply RunQ.cutg; (simp only [go_sem]; rfl); rfl; (simp only [go_sem]; rfl); (intro hg; first | trivial | omega | focus (simp [hg]; done) | focus (simp [hg]; omega) | focus (simp only [hg, tt_tt, imp_tt, imp_self, true_and]; first | omega | focus (have := Lib.itoa_length_le n h0 h1; simp only [List.length_cons, List.length_nil, maxLen]; omega)) | focus (simp_all; done) | focus (have := Lib.itoa_length_le n h0 h1; simp only [List.length_cons, List.length_nil, maxLen]; omega)); (simp only [go_sem]; rfl))
    | (apply RunQ.call; rfl; (simp only [go_sem]; rfl); (first | trivial | omega | focus (simp; done) | focus (simp; omega) | focus (have := Lib.itoa_length_le n h0 h1; simp only [List.length_cons, List.length_nil, maxLen]; omega)); (simp only [go_sem]; rfl); (simp only [go_sem]); (first | exact alive11 | exact text14 n h0 h1 | exact number12 _ (itoa_len n h0 h1) | exact number12 _ (itoa_len1 n _ h0 h1) | fail); rfl; (simp only [go_sem]; rfl))
    | (apply RunQ.callg; (simp only [go_sem]; rfl); rfl; (simp only [go_sem]; rfl); (intro hg; first | trivial | omega | focus (simp [hg]; done) | focus (simp [hg]; omega) | focus (simp only [hg, tt_tt, imp_tt, imp_self, true_and]; first | omega | focus (have := Lib.itoa_length_le n h0 h1; simp only [List.length_cons, List.length_nil, maxLen]; omega)) | focus (simp_all; done) | focus (have := Lib.itoa_length_le n h0 h1; simp only [List.length_cons, List.length_nil, maxLen]; omega)); (simp only [go_sem]; rfl); (intro _; (simp only [go_sem])); (intro hg; first | exact alive11 | exact text14 n h0 h1 | exact number12 _ (itoa_len n h0 h1) | exact number12 _ (itoa_len1 n _ h0 h1) | fail); rfl; (simp only [go_sem]; rfl))
    | (apply Holds.cond; (simp only [go_sem]; rfl); all_goals intro hb; all_goals try (refine absurd hb ?_; decide)))
  all_goals (refine ⟨by first | exact .inl rfl | exact .inr rfl, ?_⟩; simp only [go_sem])
  all_goals (refine congrArg V.c (congrArg C.bool ?_); rw [numS_zero, numS_plus]; exact back_law n)

end Go.PL
