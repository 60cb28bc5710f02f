/- Contracts of the texts. -/
import Derived.Test.YtkbcgcmklmelbaaDoorPlNumB
namespace Go.PL
open Go Go.RowKit Go.Proofs
attribute [local irreducible] Holds wpOps wqOps thenQ blockQ
set_option maxRecDepth 10000
set_option linter.unusedSimpArgs false
def dgc (n : Int) : UInt8 := UInt8.ofNat (48 + (n.toNat % 10))
theorem dig_init {n : Int} (h0 : 0 ≤ n) (h1 : n ≤ 18446744073709551615) : 0 ≤ n / 10 ∧ n / 10 ≤ 18446744073709551615 ∧ Lib.decDigits n.toNat = (if n / 10 = 0 then [] else Lib.decDigits (n / 10).toNat) ++ [dgc n] := by
  refine ⟨by omega, by omega, ?_⟩
  conv => lhs; rw [Lib.decDigits]
  split
  · rename_i h
    rw [if_pos (by omega), dgc, Nat.mod_eq_of_lt h]; rfl
  · rename_i h
    have e : n.toNat / 10 = (n / 10).toNat := by omega
    rw [if_neg (by omega), dgc, e]
theorem dig_step {n : Int} {x : Int × List UInt8} (hx : 0 ≤ x.1 ∧ x.1 ≤ 18446744073709551615 ∧ Lib.decDigits n.toNat = (if x.1 = 0 then [] else Lib.decDigits x.1.toNat) ++ x.2) (h : 0 < x.1) :
    0 ≤ x.1 / 10 ∧ x.1 / 10 ≤ 18446744073709551615 ∧ Lib.decDigits n.toNat = (if x.1 / 10 = 0 then [] else Lib.decDigits (x.1 / 10).toNat) ++ dgc x.1 :: x.2 := by
  obtain ⟨h1, h2, h3⟩ := hx
  obtain ⟨q1, q2, q3⟩ := dig_init h1 h2
  refine ⟨q1, q2, ?_⟩
  rw [h3, if_neg (by omega), q3]; simp
theorem dig_len {n : Int} (h1 : n ≤ 18446744073709551615) {l m : List UInt8} (h : Lib.decDigits n.toNat = l ++ m) : m.length ≤ 21 := by
  have h2 := decDigits_le 20 n.toNat (by omega)
  rw [h, List.length_append] at h2
  omega
theorem quo10 (n : Int) (h0 : 0 ≤ n) (h1 : n ≤ 18446744073709551615) : IntKind.u64.wrap (n.tdiv 10) = n / 10 := by
  rw [Int.tdiv_eq_ediv_of_nonneg h0, IntKind.wrap_u64]; omega
theorem dgc_eq (n : Int) (h0 : 0 ≤ n) (h1 : n ≤ 18446744073709551615) : UInt8.ofNat (IntKind.u8.wrap (IntKind.u64.wrap (48 + n.tmod 10))).toNat = dgc n := by
  rw [Int.tmod_eq_emod_of_nonneg h0, IntKind.wrap_u64, IntKind.wrap_u8, dgc]
  congr 1
  omega
theorem digits30 (n : Int) (h0 : 0 ≤ n) (h1 : n ≤ 18446744073709551615) : PCall Tryd.prog I1 30 [.c (.int .u64 n)] (· = .c (.str (Lib.decDigits n.toNat))) := by
  refine PCall.body I1_stable (by kernel_rfl) Tryd.func30 rfl Tryd.ntmps30 (rs := [.tmp 2]) rfl (by simp only [go_sem]; rfl) ?_
  intro w0 av old
  repeat' (first
    | refine Holds.seq ?_
    | refine Holds.run ?_
    | refine Holds.runQ follows (by kernel_rfl) ?_
    | refine Run.nil ?_
    | refine RunQ.nil ?_
    | refine thenQ.normal ?_
    | refine thenQ.ret ?_
    | refine thenQ.exit ?_
    | refine blockQ.normal ?_
    | refine blockQ.ret ?_
    | refine blockQ.out ?_
    | refine blockQ.on rfl ?_
    | refine Holds.block ?_
    | refine Holds.ret ?_
    | refine Holds.skip ?_
    | refine Holds.exit ?_
    | (apply Run.rd; rfl; (simp only [go_sem]; rfl); (first | trivial | omega | focus (simp; done) | focus (simp; omega) | focus (simp only [IntKind.wrap_u8, IntKind.wrap_u64]; omega) | focus (have := dig_len h1 hx.2.2; simp only [List.length_cons, List.length_nil, maxLen]; omega)); (simp only [go_sem]; rfl))
    | (apply Run.ef; rfl; (simp only [go_sem]; rfl); (first | trivial | omega | focus (simp; done) | focus (simp; omega) | focus (simp only [IntKind.wrap_u8, IntKind.wrap_u64]; omega) | focus (have := dig_len h1 hx.2.2; simp only [List.length_cons, List.length_nil, maxLen]; omega)))
    | (apply Run.cut; rfl; (simp only [go_sem]; rfl); (simp only [go_sem]; rfl); (first | trivial | omega | focus (simp; done) | focus (simp; omega) | focus (simp only [IntKind.wrap_u8, IntKind.wrap_u64]; omega) | focus (have := dig_len h1 hx.2.2; simp only [List.length_cons, List.length_nil, maxLen]; omega)); (simp only [go_sem]; rfl))
    | (apply Run.rdg; (simp only [go_sem]; rfl); rfl; (simp only [go_sem]; rfl); (intro hg; first | trivial | omega | focus (simp [hg]; done) | focus (simp [hg]; omega) | focus (simp only [hg, tt_tt, imp_tt, imp_self, true_and]; first | omega | focus (simp only [IntKind.wrap_u8, IntKind.wrap_u64]; omega) | focus (have := dig_len h1 hx.2.2; simp only [List.length_cons, List.length_nil, maxLen]; omega)) | focus (simp_all; done) | focus (simp only [IntKind.wrap_u8, IntKind.wrap_u64]; omega) | focus (have := dig_len h1 hx.2.2; simp only [List.length_cons, List.length_nil, maxLen]; omega)); (simp only [go_sem]; rfl))
    | (apply RunQ.rd; rfl; (simp only [go_sem]; rfl); (first | trivial | omega | focus (simp; done) | focus (simp; omega) | focus (simp only [IntKind.wrap_u8, IntKind.wrap_u64]; omega) | focus (have := dig_len h1 hx.2.2; simp only [List.length_cons, List.length_nil, maxLen]; omega)); (simp only [go_sem]; rfl))
    | (apply RunQ.cut; rfl; (simp only [go_sem]; rfl); (first | trivial | omega | focus (simp; done) | focus (simp; omega) | focus (simp only [IntKind.wrap_u8, IntKind.wrap_u64]; omega) | focus (have := dig_len h1 hx.2.2; simp only [List.length_cons, List.length_nil, maxLen]; omega)); (simp only [go_sem]; rfl))
    | (apply RunQ.rdg; (simp only [go_sem]; rfl); rfl; (simp only [go_sem]; rfl); (intro hg; first | trivial | omega | focus (simp [hg]; done) | focus (simp [hg]; omega) | focus (simp only [hg, tt_tt, imp_tt, imp_self, true_and]; first | omega | focus (simp only [IntKind.wrap_u8, IntKind.wrap_u64]; omega) | focus (have := dig_len h1 hx.2.2; simp only [List.length_cons, List.length_nil, maxLen]; omega)) | focus (simp_all; done) | focus (simp only [IntKind.wrap_u8, IntKind.wrap_u64]; omega) | focus (have := dig_len h1 hx.2.2; simp only [List.length_cons, List.length_nil, maxLen]; omega)); (simp only [go_sem]; rfl))
    | (apply RunQ.cutg; (simp only [go_sem]; rfl); rfl; (simp only [go_sem]; rfl); (intro hg; first | trivial | omega | focus (simp [hg]; done) | focus (simp [hg]; omega) | focus (simp only [hg, tt_tt, imp_tt, imp_self, true_and]; first | omega | focus (simp only [IntKind.wrap_u8, IntKind.wrap_u64]; omega) | focus (have := dig_len h1 hx.2.2; simp only [List.length_cons, List.length_nil, maxLen]; omega)) | focus (simp_all; done) | focus (simp only [IntKind.wrap_u8, IntKind.wrap_u64]; omega) | focus (have := dig_len h1 hx.2.2; simp only [List.length_cons, List.length_nil, maxLen]; omega)); (simp only [go_sem]; rfl))
    | (apply Holds.cond; (simp only [go_sem]; rfl); all_goals intro hb; all_goals try (refine absurd hb ?_; decide)))
  all_goals (first | focus (refine Holds.loop (X := Int × List UInt8) (fun x => ⟨[.c (.int .u64 x.1), .undef, .undef, .c (.str x.2), .undef, .undef, .undef, .undef, .undef, .undef, .undef, .undef, .undef, .undef, .undef, .undef, .undef, .undef, .undef, .undef, .undef, .undef, .undef, .undef, .undef], []⟩) (fun x => 0 ≤ x.1 ∧ x.1 ≤ 18446744073709551615 ∧ Lib.decDigits n.toNat = (if x.1 = 0 then [] else Lib.decDigits x.1.toNat) ++ x.2) (fun x => x.1.toNat) (n / 10, [dgc n]) (dig_init h0 h1) (by (exact Less.of (by repeat' first | exact lessL.nil | refine lessL.skip ?_ | (refine lessL.keep (by first | rfl | ((first | focus (refine congrArg V.c (congrArg (C.int _) ?_); exact quo10 _ (by first | omega | simp_all) (by first | omega | simp_all)) | focus (refine congrArg V.c (congrArg C.str ?_); exact congrArg (· :: _) (dgc_eq _ (by first | omega | simp_all) (by first | omega | simp_all)))))) ?_)) (by repeat' first | exact lessE.nil | (refine lessE.keep (by first | rfl | (rfl)) ?_) | refine lessE.skip ?_))) ?_; intro x hx) | skip)
  repeat' (first
    | refine Holds.seq ?_
    | refine Holds.run ?_
    | refine Holds.runQ follows (by kernel_rfl) ?_
    | refine Run.nil ?_
    | refine RunQ.nil ?_
    | refine thenQ.normal ?_
    | refine thenQ.ret ?_
    | refine thenQ.exit ?_
    | refine blockQ.normal ?_
    | refine blockQ.ret ?_
    | refine blockQ.out ?_
    | refine blockQ.on rfl ?_
    | refine Holds.block ?_
    | refine Holds.ret ?_
    | refine Holds.skip ?_
    | refine Holds.exit ?_
    | (apply Run.rd; rfl; (simp only [go_sem]; rfl); (first | trivial | omega | focus (simp; done) | focus (simp; omega) | focus (simp only [IntKind.wrap_u8, IntKind.wrap_u64]; omega) | focus (have := dig_len h1 hx.2.2; simp only [List.length_cons, List.length_nil, maxLen]; omega)); (simp only [go_sem]; rfl))
    | (apply Run.ef; rfl; (simp only [go_sem]; rfl); (first | trivial | omega | focus (simp; done) | focus (simp; omega) | focus (simp only [IntKind.wrap_u8, IntKind.wrap_u64]; omega) | focus (have := dig_len h1 hx.2.2; simp only [List.length_cons, List.length_nil, maxLen]; omega)))
    | (apply Run.cut; rfl; (simp only [go_sem]; rfl); (simp only [go_sem]; rfl); (first | trivial | omega | focus (simp; done) | focus (simp; omega) | focus (simp only [IntKind.wrap_u8, IntKind.wrap_u64]; omega) | focus (have := dig_len h1 hx.2.2; simp only [List.length_cons, List.length_nil, maxLen]; omega)); (simp only [go_sem]; rfl))
    | (apply Run.rdg; (simp only [go_sem]; rfl); rfl; (simp only [go_sem]; rfl); (intro hg; first | trivial | omega | focus (simp [hg]; done) | focus (simp [hg]; omega) | focus (simp only [hg, tt_tt, imp_tt, imp_self, true_and]; first | omega | focus (simp only [IntKind.wrap_u8, IntKind.wrap_u64]; omega) | focus (have := dig_len h1 hx.2.2; simp only [List.length_cons, List.length_nil, maxLen]; omega)) | focus (simp_all; done) | focus (simp only [IntKind.wrap_u8, IntKind.wrap_u64]; omega) | focus (have := dig_len h1 hx.2.2; simp only [List.length_cons, List.length_nil, maxLen]; omega)); (simp only [go_sem]; rfl))
    | (apply RunQ.rd; rfl; (simp only [go_sem]; rfl); (first | trivial | omega | focus (simp; done) | focus (simp; omega) | focus (simp only [IntKind.wrap_u8, IntKind.wrap_u64]; omega) | focus (have := dig_len h1 hx.2.2; simp only [List.length_cons, List.length_nil, maxLen]; omega)); (simp only [go_sem]; rfl))
    | (apply RunQ.cut; rfl; (simp only [go_sem]; rfl); (first | trivial | omega | focus (simp; done) | focus (simp; omega) | focus (simp only [IntKind.wrap_u8, IntKind.wrap_u64]; omega) | focus (have := dig_len h1 hx.2.2; simp only [List.length_cons, List.length_nil, maxLen]; omega)); (simp only [go_sem]; rfl))
    | (apply RunQ.rdg; (simp only [go_sem]; rfl); rfl; (simp only [go_sem]; rfl); (intro hg; first | trivial | omega | focus (simp [hg]; done) | focus (simp [hg]; omega) | focus (simp only [hg, tt_tt, imp_tt, imp_self, true_and]; first | omega | focus (simp only [IntKind.wrap_u8, IntKind.wrap_u64]; omega) | focus (have := dig_len h1 hx.2.2; simp only [List.length_cons, List.length_nil, maxLen]; omega)) | focus (simp_all; done) | focus (simp only [IntKind.wrap_u8, IntKind.wrap_u64]; omega) | focus (have := dig_len h1 hx.2.2; simp only [List.length_cons, List.length_nil, maxLen]; omega)); (simp only [go_sem]; rfl))
    | (apply RunQ.cutg; (simp only [go_sem]; rfl); rfl; (simp only [go_sem]; rfl); (intro hg; first | trivial | omega | focus (simp [hg]; done) | focus (simp [hg]; omega) | focus (simp only [hg, tt_tt, imp_tt, imp_self, true_and]; first | omega | focus (simp only [IntKind.wrap_u8, IntKind.wrap_u64]; omega) | focus (have := dig_len h1 hx.2.2; simp only [List.length_cons, List.length_nil, maxLen]; omega)) | focus (simp_all; done) | focus (simp only [IntKind.wrap_u8, IntKind.wrap_u64]; omega) | focus (have := dig_len h1 hx.2.2; simp only [List.length_cons, List.length_nil, maxLen]; omega)); (simp only [go_sem]; rfl))
    | (apply Holds.cond; (simp only [go_sem]; rfl); all_goals intro hb; all_goals try (refine absurd hb ?_; decide)))
  all_goals (first | focus (exact ⟨(x.1 / 10, dgc x.1 :: x.2), dig_step hx (by simp_all), by simp only [decide_eq_true_eq] at *; omega, by (exact Less.of (by repeat' first | exact lessL.nil | refine lessL.skip ?_ | (refine lessL.keep (by first | rfl | ((first | focus (refine congrArg V.c (congrArg (C.int _) ?_); exact quo10 _ (by first | omega | simp_all) (by first | omega | simp_all)) | focus (refine congrArg V.c (congrArg C.str ?_); exact congrArg (· :: _) (dgc_eq _ (by first | omega | simp_all) (by first | omega | simp_all)))))) ?_)) (by repeat' first | exact lessE.nil | (refine lessE.keep (by first | rfl | (rfl)) ?_) | refine lessE.skip ?_))⟩) | skip)
  all_goals (first | focus (refine ⟨by first | exact .inl rfl | exact .inr rfl, ?_⟩; simp only [go_sem]; refine congrArg V.c (congrArg C.str ?_); have h2 := hx.2.2; have h3 : x.1 = 0 := (by simp only [decide_eq_false_iff_not] at *; omega); rw [if_pos h3] at h2; simp [h2]; done))

end Go.PL
