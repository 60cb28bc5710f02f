/- Contracts of the arithmetic. -/
import Derived.Test.YtkbcgcmklmelbaaDoorPlNumI
namespace Go.PL
open Go Go.RowKit Go.Proofs
attribute [local irreducible] Holds wpOps wqOps thenQ blockQ
set_option maxRecDepth 10000
set_option linter.unusedSimpArgs false
theorem wrap_small (n : Int) (h : -9223372036854775808 ≤ n ∧ n ≤ 9223372036854775807) : IntKind.i64.wrap n = n := by rw [IntKind.wrap_i64]; omega
theorem mul_bd (a b : Int) (h1 : -1000000 ≤ a ∧ a ≤ 1000000) (h2 : -1000000 ≤ b ∧ b ≤ 1000000) : -9223372036854775808 ≤ a * b ∧ a * b ≤ 9223372036854775807 := by
  have h : a.natAbs * b.natAbs ≤ 1000000 * 1000000 := Nat.mul_le_mul (by omega) (by omega)
  have h' : (a * b).natAbs = a.natAbs * b.natAbs := Int.natAbs_mul a b
  omega
theorem tdiv2 (a : Int) : a.tdiv 2 = if 0 ≤ a then a / 2 else -((-a) / 2) := by
  split
  · exact Int.tdiv_eq_ediv_of_nonneg (by omega)
  · have : a = -(-a) := by omega
    conv => lhs; rw [this]
    rw [Int.neg_tdiv, Int.tdiv_eq_ediv_of_nonneg (by omega)]
theorem tmod2 (a : Int) : a.tmod 2 = if 0 ≤ a then a % 2 else -((-a) % 2) := by
  split
  · exact Int.tmod_eq_emod_of_nonneg (by omega)
  · have : a = -(-a) := by omega
    conv => lhs; rw [this]
    rw [Int.neg_tmod, Int.tmod_eq_emod_of_nonneg (by omega)]
theorem tdw (c : Int) (h : -1000000 ≤ c ∧ c ≤ 1000000) : IntKind.i64.wrap (c.tdiv 2) = c.tdiv 2 ∧ IntKind.i64.wrap (c.tdiv 2 + 1) = c.tdiv 2 + 1 ∧ IntKind.i64.wrap (c.tdiv 2 - 1) = c.tdiv 2 - 1 ∧ IntKind.i64.wrap (c.tdiv 2 + 1 - 1) = c.tdiv 2 + 1 - 1 := by
  have : -1000000 ≤ c.tdiv 2 ∧ c.tdiv 2 ≤ 1000000 := by rw [tdiv2]; split <;> omega
  exact ⟨wrap_small _ (by omega), wrap_small _ (by omega), wrap_small _ (by omega), wrap_small _ (by omega)⟩
def addS (a b : Int) : Int := clampS (clampS a + clampS b)
def subS (a b : Int) : Int := clampS (clampS a - clampS b)
def mulS (a b : Int) : Int := clampS (clampS a * clampS b)
def halfS (n : Int) (up : Bool) : Int := if up then -((-(clampS n)) / 2) else clampS n / 2
def meetsS (k m n : Int) : Bool := if k = 0 then true else if k = 1 then decide (m ≤ n) else if k = 2 then decide (n ≤ m) else if k = 3 then n == m else false
theorem clamp18 (n : Int) : PCall Tryd.prog I1 18 [.c (.int .i64 n)] (· = .c (.int .i64 (clampS n))) := by
  refine PCall.body I1_stable (by kernel_rfl) Tryd.func18 rfl Tryd.ntmps18 (rs := [.tmp 2]) rfl (by simp only [go_sem]; rfl) ?_
  intro w0 av old
  repeat' (first
    | refine Holds.seq ?_
    | refine Holds.run ?_
    | refine Holds.runQ follows (by kernel_rfl) ?_
    | refine Run.nil ?_
    | refine RunQ.nil ?_
    | refine thenQ.normal ?_
    | refine thenQ.ret ?_
    | refine thenQ.exit ?_
    | refine blockQ.normal ?_
    | refine blockQ.ret ?_
    | refine blockQ.out ?_
    | refine blockQ.on rfl ?_
    | refine Holds.block ?_
    | refine Holds.ret ?_
    | refine Holds.skip ?_
    | refine Holds.exit ?_
    | (apply Run.rd; rfl; (simp only [go_sem]; rfl); (first | trivial | omega | focus (simp; done) | focus (simp; omega)); (simp only [go_sem]; rfl))
    | (apply Run.ef; rfl; (simp only [go_sem]; rfl); (first | trivial | omega | focus (simp; done) | focus (simp; omega)))
    | (apply Run.cut; rfl; (simp only [go_sem]; rfl); (simp only [go_sem]; rfl); (first | trivial | omega | focus (simp; done) | focus (simp; omega)); (simp only [go_sem]; rfl))
    | (apply Run.rdg; (simp only [go_sem]; rfl); rfl; (simp only [go_sem]; rfl); (intro hg; first | trivial | omega | focus (simp [hg]; done) | focus (simp [hg]; omega) | focus (simp only [hg, tt_tt, imp_tt, imp_self, true_and]; first | omega) | focus (simp_all; done)); (simp only [go_sem]; rfl))
    | (apply RunQ.rd; rfl; (simp only [go_sem]; rfl); (first | trivial | omega | focus (simp; done) | focus (simp; omega)); (simp only [go_sem]; rfl))
    | (apply RunQ.cut; rfl; (simp only [go_sem]; rfl); (first | trivial | omega | focus (simp; done) | focus (simp; omega)); (simp only [go_sem]; rfl))
    | (apply RunQ.rdg; (simp only [go_sem]; rfl); rfl; (simp only [go_sem]; rfl); (intro hg; first | trivial | omega | focus (simp [hg]; done) | focus (simp [hg]; omega) | focus (simp only [hg, tt_tt, imp_tt, imp_self, true_and]; first | omega) | focus (simp_all; done)); (simp only [go_sem]; rfl))
    | (apply RunQ.cutg; (simp only [go_sem]; rfl); rfl; (simp only [go_sem]; rfl); (intro hg; first | trivial | omega | focus (simp [hg]; done) | focus (simp [hg]; omega) | focus (simp only [hg, tt_tt, imp_tt, imp_self, true_and]; first | omega) | focus (simp_all; done)); (simp only [go_sem]; rfl))
    | (apply Holds.cond; (simp only [go_sem]; rfl); all_goals intro hb; all_goals try (refine absurd hb ?_; decide)))
  all_goals (refine ⟨by first | exact .inl rfl | exact .inr rfl, ?_⟩; simp only [go_sem])
  all_goals (simp only [decide_eq_true_eq, decide_eq_false_iff_not, List.foldl] at *; unfold clampS; congr 2; (repeat' split) <;> omega)

theorem clamp19 (n : Int) : PCall Tryd.prog I1 19 [.c (.int .i64 n)] (· = .c (.int .i64 (clampS n))) := by
  refine PCall.body I1_stable (by kernel_rfl) Tryd.func19 rfl Tryd.ntmps19 (rs := [.tmp 2]) rfl (by simp only [go_sem]; rfl) ?_
  intro w0 av old
  repeat' (first
    | refine Holds.seq ?_
    | refine Holds.run ?_
    | refine Holds.runQ follows (by kernel_rfl) ?_
    | refine Run.nil ?_
    | refine RunQ.nil ?_
    | refine thenQ.normal ?_
    | refine thenQ.ret ?_
    | refine thenQ.exit ?_
    | refine blockQ.normal ?_
    | refine blockQ.ret ?_
    | refine blockQ.out ?_
    | refine blockQ.on rfl ?_
    | refine Holds.block ?_
    | refine Holds.ret ?_
    | refine Holds.skip ?_
    | refine Holds.exit ?_
    | (apply Run.rd; rfl; (simp only [go_sem]; rfl); (first | trivial | omega | focus (simp; done) | focus (simp; omega)); (simp only [go_sem]; rfl))
    | (apply Run.ef; rfl; (simp only [go_sem]; rfl); (first | trivial | omega | focus (simp; done) | focus (simp; omega)))
    | (apply Run.cut; rfl; (simp only [go_sem]; rfl); (simp only [go_sem]; rfl); (first | trivial | omega | focus (simp; done) | focus (simp; omega)); (simp only [go_sem]; rfl))
    | (apply Run.rdg; (simp only [go_sem]; rfl); rfl; (simp only [go_sem]; rfl); (intro hg; first | trivial | omega | focus (simp [hg]; done) | focus (simp [hg]; omega) | focus (simp only [hg, tt_tt, imp_tt, imp_self, true_and]; first | omega) | focus (simp_all; done)); (simp only [go_sem]; rfl))
    | (apply RunQ.rd; rfl; (simp only [go_sem]; rfl); (first | trivial | omega | focus (simp; done) | focus (simp; omega)); (simp only [go_sem]; rfl))
    | (apply RunQ.cut; rfl; (simp only [go_sem]; rfl); (first | trivial | omega | focus (simp; done) | focus (simp; omega)); (simp only [go_sem]; rfl))
    | (apply RunQ.rdg; (simp only [go_sem]; rfl); rfl; (simp only [go_sem]; rfl); (intro hg; first | trivial | omega | focus (simp [hg]; done) | focus (simp [hg]; omega) | focus (simp only [hg, tt_tt, imp_tt, imp_self, true_and]; first | omega) | focus (simp_all; done)); (simp only [go_sem]; rfl))
    | (apply RunQ.cutg; (simp only [go_sem]; rfl); rfl; (simp only [go_sem]; rfl); (intro hg; first | trivial | omega | focus (simp [hg]; done) | focus (simp [hg]; omega) | focus (simp only [hg, tt_tt, imp_tt, imp_self, true_and]; first | omega) | focus (simp_all; done)); (simp only [go_sem]; rfl))
    | (apply Holds.cond; (simp only [go_sem]; rfl); all_goals intro hb; all_goals try (refine absurd hb ?_; decide)))
  all_goals (refine ⟨by first | exact .inl rfl | exact .inr rfl, ?_⟩; simp only [go_sem])
  all_goals (simp only [decide_eq_true_eq, decide_eq_false_iff_not, List.foldl] at *; unfold clampS; congr 2; (repeat' split) <;> omega)

theorem add20 (a b : Int) : PCall Tryd.prog I1 20 [.c (.int .i64 a), .c (.int .i64 b)] (· = .c (.int .i64 (addS a b))) := by
  refine PCall.body I1_stable (by kernel_rfl) Tryd.func20 rfl Tryd.ntmps20 (rs := [.tmp 4]) rfl (by simp only [go_sem]; rfl) ?_
  intro w0 av old
  repeat' (first
    | refine Holds.seq ?_
    | refine Holds.run ?_
    | refine Holds.runQ follows (by kernel_rfl) ?_
    | refine Run.nil ?_
    | refine RunQ.nil ?_
    | refine thenQ.normal ?_
    | refine thenQ.ret ?_
    | refine thenQ.exit ?_
    | refine blockQ.normal ?_
    | refine blockQ.ret ?_
    | refine blockQ.out ?_
    | refine blockQ.on rfl ?_
    | refine Holds.block ?_
    | refine Holds.ret ?_
    | refine Holds.skip ?_
    | refine Holds.exit ?_
    | (apply Run.rd; rfl; (simp only [go_sem]; rfl); (first | trivial | omega | focus (simp; done) | focus (simp; omega)); (simp only [go_sem]; rfl))
    | (apply Run.ef; rfl; (simp only [go_sem]; rfl); (first | trivial | omega | focus (simp; done) | focus (simp; omega)))
    | (apply Run.cut; rfl; (simp only [go_sem]; rfl); (simp only [go_sem]; rfl); (first | trivial | omega | focus (simp; done) | focus (simp; omega)); (simp only [go_sem]; rfl))
    | (apply Run.rdg; (simp only [go_sem]; rfl); rfl; (simp only [go_sem]; rfl); (intro hg; first | trivial | omega | focus (simp [hg]; done) | focus (simp [hg]; omega) | focus (simp only [hg, tt_tt, imp_tt, imp_self, true_and]; first | omega) | focus (simp_all; done)); (simp only [go_sem]; rfl))
    | (apply Run.call; rfl; (simp only [go_sem]; rfl); (first | trivial | omega | focus (simp; done) | focus (simp; omega)); (simp only [go_sem]; rfl); (simp only [go_sem]); (first | exact clamp18 _ | fail); (first | exact Or.inl rfl | (refine Or.inr ⟨?_, ?_⟩ <;> simp [topVs, topV, topC, St.okFrz, St.look])); (simp only [go_sem]; rfl))
    | (apply Run.callg; (simp only [go_sem]; rfl); rfl; (simp only [go_sem]; rfl); (intro hg; first | trivial | omega | focus (simp [hg]; done) | focus (simp [hg]; omega) | focus (simp only [hg, tt_tt, imp_tt, imp_self, true_and]; first | omega) | focus (simp_all; done)); (simp only [go_sem]; rfl); (intro _; (simp only [go_sem])); (intro hg; first | exact clamp18 _ | fail); rfl; (simp only [go_sem]; rfl))
    | (apply RunQ.rd; rfl; (simp only [go_sem]; rfl); (first | trivial | omega | focus (simp; done) | focus (simp; omega)); (simp only [go_sem]; rfl))
    | (apply RunQ.cut; rfl; (simp only [go_sem]; rfl); (first | trivial | omega | focus (simp; done) | focus (simp; omega)); (simp only [go_sem]; rfl))
    | (apply RunQ.rdg; (simp only [go_sem]; rfl); rfl; (simp only [go_sem]; rfl); (intro hg; first | trivial | omega | focus (simp [hg]; done) | focus (simp [hg]; omega) | focus (simp only [hg, tt_tt, imp_tt, imp_self, true_and]; first | omega) | focus (simp_all; done)); (simp only [go_sem]; rfl))
    | (apply RunQ.cutg; (simp only [go_sem]; rfl); rfl; (simp only [go_sem]; rfl); (intro hg; first | trivial | omega | focus (simp [hg]; done) | focus (simp [hg]; omega) | focus (simp only [hg, tt_tt, imp_tt, imp_self, true_and]; first | omega) | focus (simp_all; done)); (simp only [go_sem]; rfl))
    | (apply RunQ.call; rfl; (simp only [go_sem]; rfl); (first | trivial | omega | focus (simp; done) | focus (simp; omega)); (simp only [go_sem]; rfl); (simp only [go_sem]); (first | exact clamp18 _ | fail); rfl; (simp only [go_sem]; rfl))
    | (apply RunQ.callg; (simp only [go_sem]; rfl); rfl; (simp only [go_sem]; rfl); (intro hg; first | trivial | omega | focus (simp [hg]; done) | focus (simp [hg]; omega) | focus (simp only [hg, tt_tt, imp_tt, imp_self, true_and]; first | omega) | focus (simp_all; done)); (simp only [go_sem]; rfl); (intro _; (simp only [go_sem])); (intro hg; first | exact clamp18 _ | fail); rfl; (simp only [go_sem]; rfl))
    | (apply Holds.cond; (simp only [go_sem]; rfl); all_goals intro hb; all_goals try (refine absurd hb ?_; decide)))
  all_goals (refine ⟨by first | exact .inl rfl | exact .inr rfl, ?_⟩; simp only [go_sem])
  all_goals (have h1 := clampS_bd a; have h2 := clampS_bd b; unfold addS; rw [wrap_small _ (by first | omega | exact mul_bd _ _ h1 h2)])

theorem add21 (a b : Int) : PCall Tryd.prog I1 21 [.c (.int .i64 a), .c (.int .i64 b)] (· = .c (.int .i64 (addS a b))) := by
  refine PCall.body I1_stable (by kernel_rfl) Tryd.func21 rfl Tryd.ntmps21 (rs := [.tmp 4]) rfl (by simp only [go_sem]; rfl) ?_
  intro w0 av old
  repeat' (first
    | refine Holds.seq ?_
    | refine Holds.run ?_
    | refine Holds.runQ follows (by kernel_rfl) ?_
    | refine Run.nil ?_
    | refine RunQ.nil ?_
    | refine thenQ.normal ?_
    | refine thenQ.ret ?_
    | refine thenQ.exit ?_
    | refine blockQ.normal ?_
    | refine blockQ.ret ?_
    | refine blockQ.out ?_
    | refine blockQ.on rfl ?_
    | refine Holds.block ?_
    | refine Holds.ret ?_
    | refine Holds.skip ?_
    | refine Holds.exit ?_
    | (apply Run.rd; rfl; (simp only [go_sem]; rfl); (first | trivial | omega | focus (simp; done) | focus (simp; omega)); (simp only [go_sem]; rfl))
    | (apply Run.ef; rfl; (simp only [go_sem]; rfl); (first | trivial | omega | focus (simp; done) | focus (simp; omega)))
    | (apply Run.cut; rfl; (simp only [go_sem]; rfl); (simp only [go_sem]; rfl); (first | trivial | omega | focus (simp; done) | focus (simp; omega)); (simp only [go_sem]; rfl))
    | (apply Run.rdg; (simp only [go_sem]; rfl); rfl; (simp only [go_sem]; rfl); (intro hg; first | trivial | omega | focus (simp [hg]; done) | focus (simp [hg]; omega) | focus (simp only [hg, tt_tt, imp_tt, imp_self, true_and]; first | omega) | focus (simp_all; done)); (simp only [go_sem]; rfl))
    | (apply Run.call; rfl; (simp only [go_sem]; rfl); (first | trivial | omega | focus (simp; done) | focus (simp; omega)); (simp only [go_sem]; rfl); (simp only [go_sem]); (first | exact clamp19 _ | fail); (first | exact Or.inl rfl | (refine Or.inr ⟨?_, ?_⟩ <;> simp [topVs, topV, topC, St.okFrz, St.look])); (simp only [go_sem]; rfl))
    | (apply Run.callg; (simp only [go_sem]; rfl); rfl; (simp only [go_sem]; rfl); (intro hg; first | trivial | omega | focus (simp [hg]; done) | focus (simp [hg]; omega) | focus (simp only [hg, tt_tt, imp_tt, imp_self, true_and]; first | omega) | focus (simp_all; done)); (simp only [go_sem]; rfl); (intro _; (simp only [go_sem])); (intro hg; first | exact clamp19 _ | fail); rfl; (simp only [go_sem]; rfl))
    | (apply RunQ.rd; rfl; (simp only [go_sem]; rfl); (first | trivial | omega | focus (simp; done) | focus (simp; omega)); (simp only [go_sem]; rfl))
    | (apply RunQ.cut; rfl; (simp only [go_sem]; rfl); (first | trivial | omega | focus (simp; done) | focus (simp; omega)); (simp only [go_sem]; rfl))
    | (apply RunQ.rdg; (simp only [go_sem]; rfl); rfl; (simp only [go_sem]; rfl); (intro hg; first | trivial | omega | focus (simp [hg]; done) | focus (simp [hg]; omega) | focus (simp only [hg, tt_tt, imp_tt, imp_self, true_and]; first | omega) | focus (simp_all; done)); (simp only [go_sem]; rfl))
    | (apply RunQ.cutg; (simp only [go_sem]; rfl); rfl; (simp only [go_sem]; rfl); (intro hg; first | trivial | omega | focus (simp [hg]; done) | focus (simp [hg]; omega) | focus (simp only [hg, tt_tt, imp_tt, imp_self, true_and]; first | omega) | focus (simp_all; done)); (simp only [go_sem]; rfl))
    | (apply RunQ.call; rfl; (simp only [go_sem]; rfl); (first | trivial | omega | focus (simp; done) | focus (simp; omega)); (simp only [go_sem]; rfl); (simp only [go_sem]); (first | exact clamp19 _ | fail); rfl; (simp only [go_sem]; rfl))
    | (apply RunQ.callg; (simp only [go_sem]; rfl); rfl; (simp only [go_sem]; rfl); (intro hg; first | trivial | omega | focus (simp [hg]; done) | focus (simp [hg]; omega) | focus (simp only [hg, tt_tt, imp_tt, imp_self, true_and]; first | omega) | focus (simp_all; done)); (simp only [go_sem]; rfl); (intro _; (simp only [go_sem])); (intro hg; first | exact clamp19 _ | fail); rfl; (simp only [go_sem]; rfl))
    | (apply Holds.cond; (simp only [go_sem]; rfl); all_goals intro hb; all_goals try (refine absurd hb ?_; decide)))
  all_goals (refine ⟨by first | exact .inl rfl | exact .inr rfl, ?_⟩; simp only [go_sem])
  all_goals (have h1 := clampS_bd a; have h2 := clampS_bd b; unfold addS; rw [wrap_small _ (by first | omega | exact mul_bd _ _ h1 h2)])

theorem sub22 (a b : Int) : PCall Tryd.prog I1 22 [.c (.int .i64 a), .c (.int .i64 b)] (· = .c (.int .i64 (subS a b))) := by
  refine PCall.body I1_stable (by kernel_rfl) Tryd.func22 rfl Tryd.ntmps22 (rs := [.tmp 4]) rfl (by simp only [go_sem]; rfl) ?_
  intro w0 av old
  repeat' (first
    | refine Holds.seq ?_
    | refine Holds.run ?_
    | refine Holds.runQ follows (by kernel_rfl) ?_
    | refine Run.nil ?_
    | refine RunQ.nil ?_
    | refine thenQ.normal ?_
    | refine thenQ.ret ?_
    | refine thenQ.exit ?_
    | refine blockQ.normal ?_
    | refine blockQ.ret ?_
    | refine blockQ.out ?_
    | refine blockQ.on rfl ?_
    | refine Holds.block ?_
    | refine Holds.ret ?_
    | refine Holds.skip ?_
    | refine Holds.exit ?_
    | (apply Run.rd; rfl; (simp only [go_sem]; rfl); (first | trivial | omega | focus (simp; done) | focus (simp; omega)); (simp only [go_sem]; rfl))
    | (apply Run.ef; rfl; (simp only [go_sem]; rfl); (first | trivial | omega | focus (simp; done) | focus (simp; omega)))
    | (apply Run.cut; rfl; (simp only [go_sem]; rfl); (simp only [go_sem]; rfl); (first | trivial | omega | focus (simp; done) | focus (simp; omega)); (simp only [go_sem]; rfl))
    | (apply Run.rdg; (simp only [go_sem]; rfl); rfl; (simp only [go_sem]; rfl); (intro hg; first | trivial | omega | focus (simp [hg]; done) | focus (simp [hg]; omega) | focus (simp only [hg, tt_tt, imp_tt, imp_self, true_and]; first | omega) | focus (simp_all; done)); (simp only [go_sem]; rfl))
    | (apply Run.call; rfl; (simp only [go_sem]; rfl); (first | trivial | omega | focus (simp; done) | focus (simp; omega)); (simp only [go_sem]; rfl); (simp only [go_sem]); (first | exact clamp18 _ | fail); (first | exact Or.inl rfl | (refine Or.inr ⟨?_, ?_⟩ <;> simp [topVs, topV, topC, St.okFrz, St.look])); (simp only [go_sem]; rfl))
    | (apply Run.callg; (simp only [go_sem]; rfl); rfl; (simp only [go_sem]; rfl); (intro hg; first | trivial | omega | focus (simp [hg]; done) | focus (simp [hg]; omega) | focus (simp only [hg, tt_tt, imp_tt, imp_self, true_and]; first | omega) | focus (simp_all; done)); (simp only [go_sem]; rfl); (intro _; (simp only [go_sem])); (intro hg; first | exact clamp18 _ | fail); rfl; (simp only [go_sem]; rfl))
    | (apply RunQ.rd; rfl; (simp only [go_sem]; rfl); (first | trivial | omega | focus (simp; done) | focus (simp; omega)); (simp only [go_sem]; rfl))
    | (apply RunQ.cut; rfl; (simp only [go_sem]; rfl); (first | trivial | omega | focus (simp; done) | focus (simp; omega)); (simp only [go_sem]; rfl))
    | (apply RunQ.rdg; (simp only [go_sem]; rfl); rfl; (simp only [go_sem]; rfl); (intro hg; first | trivial | omega | focus (simp [hg]; done) | focus (simp [hg]; omega) | focus (simp only [hg, tt_tt, imp_tt, imp_self, true_and]; first | omega) | focus (simp_all; done)); (simp only [go_sem]; rfl))
    | (apply RunQ.cutg; (simp only [go_sem]; rfl); rfl; (simp only [go_sem]; rfl); (intro hg; first | trivial | omega | focus (simp [hg]; done) | focus (simp [hg]; omega) | focus (simp only [hg, tt_tt, imp_tt, imp_self, true_and]; first | omega) | focus (simp_all; done)); (simp only [go_sem]; rfl))
    | (apply RunQ.call; rfl; (simp only [go_sem]; rfl); (first | trivial | omega | focus (simp; done) | focus (simp; omega)); (simp only [go_sem]; rfl); (simp only [go_sem]); (first | exact clamp18 _ | fail); rfl; (simp only [go_sem]; rfl))
    | (apply RunQ.callg; (simp only [go_sem]; rfl); rfl; (simp only [go_sem]; rfl); (intro hg; first | trivial | omega | focus (simp [hg]; done) | focus (simp [hg]; omega) | focus (simp only [hg, tt_tt, imp_tt, imp_self, true_and]; first | omega) | focus (simp_all; done)); (simp only [go_sem]; rfl); (intro _; (simp only [go_sem])); (intro hg; first | exact clamp18 _ | fail); rfl; (simp only [go_sem]; rfl))
    | (apply Holds.cond; (simp only [go_sem]; rfl); all_goals intro hb; all_goals try (refine absurd hb ?_; decide)))
  all_goals (refine ⟨by first | exact .inl rfl | exact .inr rfl, ?_⟩; simp only [go_sem])
  all_goals (have h1 := clampS_bd a; have h2 := clampS_bd b; unfold subS; rw [wrap_small _ (by first | omega | exact mul_bd _ _ h1 h2)])

theorem sub23 (a b : Int) : PCall Tryd.prog I1 23 [.c (.int .i64 a), .c (.int .i64 b)] (· = .c (.int .i64 (subS a b))) := by
  refine PCall.body I1_stable (by kernel_rfl) Tryd.func23 rfl Tryd.ntmps23 (rs := [.tmp 4]) rfl (by simp only [go_sem]; rfl) ?_
  intro w0 av old
  repeat' (first
    | refine Holds.seq ?_
    | refine Holds.run ?_
    | refine Holds.runQ follows (by kernel_rfl) ?_
    | refine Run.nil ?_
    | refine RunQ.nil ?_
    | refine thenQ.normal ?_
    | refine thenQ.ret ?_
    | refine thenQ.exit ?_
    | refine blockQ.normal ?_
    | refine blockQ.ret ?_
    | refine blockQ.out ?_
    | refine blockQ.on rfl ?_
    | refine Holds.block ?_
    | refine Holds.ret ?_
    | refine Holds.skip ?_
    | refine Holds.exit ?_
    | (apply Run.rd; rfl; (simp only [go_sem]; rfl); (first | trivial | omega | focus (simp; done) | focus (simp; omega)); (simp only [go_sem]; rfl))
    | (apply Run.ef; rfl; (simp only [go_sem]; rfl); (first | trivial | omega | focus (simp; done) | focus (simp; omega)))
    | (apply Run.cut; rfl; (simp only [go_sem]; rfl); (simp only [go_sem]; rfl); (first | trivial | omega | focus (simp; done) | focus (simp; omega)); (simp only [go_sem]; rfl))
    | (apply Run.rdg; (simp only [go_sem]; rfl); rfl; (simp only [go_sem]; rfl); (intro hg; first | trivial | omega | focus (simp [hg]; done) | focus (simp [hg]; omega) | focus (simp only [hg, tt_tt, imp_tt, imp_self, true_and]; first | omega) | focus (simp_all; done)); (simp only [go_sem]; rfl))
    | (apply Run.call; rfl; (simp only [go_sem]; rfl); (first | trivial | omega | focus (simp; done) | focus (simp; omega)); (simp only [go_sem]; rfl); (simp only [go_sem]); (first | exact clamp19 _ | fail); (first | exact Or.inl rfl | (refine Or.inr ⟨?_, ?_⟩ <;> simp [topVs, topV, topC, St.okFrz, St.look])); (simp only [go_sem]; rfl))
    | (apply Run.callg; (simp only [go_sem]; rfl); rfl; (simp only [go_sem]; rfl); (intro hg; first | trivial | omega | focus (simp [hg]; done) | focus (simp [hg]; omega) | focus (simp only [hg, tt_tt, imp_tt, imp_self, true_and]; first | omega) | focus (simp_all; done)); (simp only [go_sem]; rfl); (intro _; (simp only [go_sem])); (intro hg; first | exact clamp19 _ | fail); rfl; (simp only [go_sem]; rfl))
    | (apply RunQ.rd; rfl; (simp only [go_sem]; rfl); (first | trivial | omega | focus (simp; done) | focus (simp; omega)); (simp only [go_sem]; rfl))
    | (apply RunQ.cut; rfl; (simp only [go_sem]; rfl); (first | trivial | omega | focus (simp; done) | focus (simp; omega)); (simp only [go_sem]; rfl))
    | (apply RunQ.rdg; (simp only [go_sem]; rfl); rfl; (simp only [go_sem]; rfl); (intro hg; first | trivial | omega | focus (simp [hg]; done) | focus (simp [hg]; omega) | focus (simp only [hg, tt_tt, imp_tt, imp_self, true_and]; first | omega) | focus (simp_all; done)); (simp only [go_sem]; rfl))
    | (apply RunQ.cutg; (simp only [go_sem]; rfl); rfl; (simp only [go_sem]; rfl); (intro hg; first | trivial | omega | focus (simp [hg]; done) | focus (simp [hg]; omega) | focus (simp only [hg, tt_tt, imp_tt, imp_self, true_and]; first | omega) | focus (simp_all; done)); (simp only [go_sem]; rfl))
    | (apply RunQ.call; rfl; (simp only [go_sem]; rfl); (first | trivial | omega | focus (simp; done) | focus (simp; omega)); (simp only [go_sem]; rfl); (simp only [go_sem]); (first | exact clamp19 _ | fail); rfl; (simp only [go_sem]; rfl))
    | (apply RunQ.callg; (simp only [go_sem]; rfl); rfl; (simp only [go_sem]; rfl); (intro hg; first | trivial | omega | focus (simp [hg]; done) | focus (simp [hg]; omega) | focus (simp only [hg, tt_tt, imp_tt, imp_self, true_and]; first | omega) | focus (simp_all; done)); (simp only [go_sem]; rfl); (intro _; (simp only [go_sem])); (intro hg; first | exact clamp19 _ | fail); rfl; (simp only [go_sem]; rfl))
    | (apply Holds.cond; (simp only [go_sem]; rfl); all_goals intro hb; all_goals try (refine absurd hb ?_; decide)))
  all_goals (refine ⟨by first | exact .inl rfl | exact .inr rfl, ?_⟩; simp only [go_sem])
  all_goals (have h1 := clampS_bd a; have h2 := clampS_bd b; unfold subS; rw [wrap_small _ (by first | omega | exact mul_bd _ _ h1 h2)])

theorem mul24 (a b : Int) : PCall Tryd.prog I1 24 [.c (.int .i64 a), .c (.int .i64 b)] (· = .c (.int .i64 (mulS a b))) := by
  refine PCall.body I1_stable (by kernel_rfl) Tryd.func24 rfl Tryd.ntmps24 (rs := [.tmp 4]) rfl (by simp only [go_sem]; rfl) ?_
  intro w0 av old
  repeat' (first
    | refine Holds.seq ?_
    | refine Holds.run ?_
    | refine Holds.runQ follows (by kernel_rfl) ?_
    | refine Run.nil ?_
    | refine RunQ.nil ?_
    | refine thenQ.normal ?_
    | refine thenQ.ret ?_
    | refine thenQ.exit ?_
    | refine blockQ.normal ?_
    | refine blockQ.ret ?_
    | refine blockQ.out ?_
    | refine blockQ.on rfl ?_
    | refine Holds.block ?_
    | refine Holds.ret ?_
    | refine Holds.skip ?_
    | refine Holds.exit ?_
    | (apply Run.rd; rfl; (simp only [go_sem]; rfl); (first | trivial | omega | focus (simp; done) | focus (simp; omega)); (simp only [go_sem]; rfl))
    | (apply Run.ef; rfl; (simp only [go_sem]; rfl); (first | trivial | omega | focus (simp; done) | focus (simp; omega)))
    | (apply Run.cut; rfl; (simp only [go_sem]; rfl); (simp only [go_sem]; rfl); (first | trivial | omega | focus (simp; done) | focus (simp; omega)); (simp only [go_sem]; rfl))
    | (apply Run.rdg; (simp only [go_sem]; rfl); rfl; (simp only [go_sem]; rfl); (intro hg; first | trivial | omega | focus (simp [hg]; done) | focus (simp [hg]; omega) | focus (simp only [hg, tt_tt, imp_tt, imp_self, true_and]; first | omega) | focus (simp_all; done)); (simp only [go_sem]; rfl))
    | (apply Run.call; rfl; (simp only [go_sem]; rfl); (first | trivial | omega | focus (simp; done) | focus (simp; omega)); (simp only [go_sem]; rfl); (simp only [go_sem]); (first | exact clamp18 _ | fail); (first | exact Or.inl rfl | (refine Or.inr ⟨?_, ?_⟩ <;> simp [topVs, topV, topC, St.okFrz, St.look])); (simp only [go_sem]; rfl))
    | (apply Run.callg; (simp only [go_sem]; rfl); rfl; (simp only [go_sem]; rfl); (intro hg; first | trivial | omega | focus (simp [hg]; done) | focus (simp [hg]; omega) | focus (simp only [hg, tt_tt, imp_tt, imp_self, true_and]; first | omega) | focus (simp_all; done)); (simp only [go_sem]; rfl); (intro _; (simp only [go_sem])); (intro hg; first | exact clamp18 _ | fail); rfl; (simp only [go_sem]; rfl))
    | (apply RunQ.rd; rfl; (simp only [go_sem]; rfl); (first | trivial | omega | focus (simp; done) | focus (simp; omega)); (simp only [go_sem]; rfl))
    | (apply RunQ.cut; rfl; (simp only [go_sem]; rfl); (first | trivial | omega | focus (simp; done) | focus (simp; omega)); (simp only [go_sem]; rfl))
    | (apply RunQ.rdg; (simp only [go_sem]; rfl); rfl; (simp only [go_sem]; rfl); (intro hg; first | trivial | omega | focus (simp [hg]; done) | focus (simp [hg]; omega) | focus (simp only [hg, tt_tt, imp_tt, imp_self, true_and]; first | omega) | focus (simp_all; done)); (simp only [go_sem]; rfl))
    | (apply RunQ.cutg; (simp only [go_sem]; rfl); rfl; (simp only [go_sem]; rfl); (intro hg; first | trivial | omega | focus (simp [hg]; done) | focus (simp [hg]; omega) | focus (simp only [hg, tt_tt, imp_tt, imp_self, true_and]; first | omega) | focus (simp_all; done)); (simp only [go_sem]; rfl))
    | (apply RunQ.call; rfl; (simp only [go_sem]; rfl); (first | trivial | omega | focus (simp; done) | focus (simp; omega)); (simp only [go_sem]; rfl); (simp only [go_sem]); (first | exact clamp18 _ | fail); rfl; (simp only [go_sem]; rfl))
    | (apply RunQ.callg; (simp only [go_sem]; rfl); rfl; (simp only [go_sem]; rfl); (intro hg; first | trivial | omega | focus (simp [hg]; done) | focus (simp [hg]; omega) | focus (simp only [hg, tt_tt, imp_tt, imp_self, true_and]; first | omega) | focus (simp_all; done)); (simp only [go_sem]; rfl); (intro _; (simp only [go_sem])); (intro hg; first | exact clamp18 _ | fail); rfl; (simp only [go_sem]; rfl))
    | (apply Holds.cond; (simp only [go_sem]; rfl); all_goals intro hb; all_goals try (refine absurd hb ?_; decide)))
  all_goals (refine ⟨by first | exact .inl rfl | exact .inr rfl, ?_⟩; simp only [go_sem])
  all_goals (have h1 := clampS_bd a; have h2 := clampS_bd b; unfold mulS; rw [wrap_small _ (by first | omega | exact mul_bd _ _ h1 h2)])

theorem mul25 (a b : Int) : PCall Tryd.prog I1 25 [.c (.int .i64 a), .c (.int .i64 b)] (· = .c (.int .i64 (mulS a b))) := by
  refine PCall.body I1_stable (by kernel_rfl) Tryd.func25 rfl Tryd.ntmps25 (rs := [.tmp 4]) rfl (by simp only [go_sem]; rfl) ?_
  intro w0 av old
  repeat' (first
    | refine Holds.seq ?_
    | refine Holds.run ?_
    | refine Holds.runQ follows (by kernel_rfl) ?_
    | refine Run.nil ?_
    | refine RunQ.nil ?_
    | refine thenQ.normal ?_
    | refine thenQ.ret ?_
    | refine thenQ.exit ?_
    | refine blockQ.normal ?_
    | refine blockQ.ret ?_
    | refine blockQ.out ?_
    | refine blockQ.on rfl ?_
    | refine Holds.block ?_
    | refine Holds.ret ?_
    | refine Holds.skip ?_
    | refine Holds.exit ?_
    | (apply Run.rd; rfl; (simp only [go_sem]; rfl); (first | trivial | omega | focus (simp; done) | focus (simp; omega)); (simp only [go_sem]; rfl))
    | (apply Run.ef; rfl; (simp only [go_sem]; rfl); (first | trivial | omega | focus (simp; done) | focus (simp; omega)))
    | (apply Run.cut; rfl; (simp only [go_sem]; rfl); (simp only [go_sem]; rfl); (first | trivial | omega | focus (simp; done) | focus (simp; omega)); (simp only [go_sem]; rfl))
    | (apply Run.rdg; (simp only [go_sem]; rfl); rfl; (simp only [go_sem]; rfl); (intro hg; first | trivial | omega | focus (simp [hg]; done) | focus (simp [hg]; omega) | focus (simp only [hg, tt_tt, imp_tt, imp_self, true_and]; first | omega) | focus (simp_all; done)); (simp only [go_sem]; rfl))
    | (apply Run.call; rfl; (simp only [go_sem]; rfl); (first | trivial | omega | focus (simp; done) | focus (simp; omega)); (simp only [go_sem]; rfl); (simp only [go_sem]); (first | exact clamp19 _ | fail); (first | exact Or.inl rfl | (refine Or.inr ⟨?_, ?_⟩ <;> simp [topVs, topV, topC, St.okFrz, St.look])); (simp only [go_sem]; rfl))
    | (apply Run.callg; (simp only [go_sem]; rfl); rfl; (simp only [go_sem]; rfl); (intro hg; first | trivial | omega | focus (simp [hg]; done) | focus (simp [hg]; omega) | focus (simp only [hg, tt_tt, imp_tt, imp_self, true_and]; first | omega) | focus (simp_all; done)); (simp only [go_sem]; rfl); (intro _; (simp only [go_sem])); (intro hg; first | exact clamp19 _ | fail); rfl; (simp only [go_sem]; rfl))
    | (apply RunQ.rd; rfl; (simp only [go_sem]; rfl); (first | trivial | omega | focus (simp; done) | focus (simp; omega)); (simp only [go_sem]; rfl))
    | (apply RunQ.cut; rfl; (simp only [go_sem]; rfl); (first | trivial | omega | focus (simp; done) | focus (simp; omega)); (simp only [go_sem]; rfl))
    | (apply RunQ.rdg; (simp only [go_sem]; rfl); rfl; (simp only [go_sem]; rfl); (intro hg; first | trivial | omega | focus (simp [hg]; done) | focus (simp [hg]; omega) | focus (simp only [hg, tt_tt, imp_tt, imp_self, true_and]; first | omega) | focus (simp_all; done)); (simp only [go_sem]; rfl))
    | (apply RunQ.cutg; (simp only [go_sem]; rfl); rfl; (simp only [go_sem]; rfl); (intro hg; first | trivial | omega | focus (simp [hg]; done) | focus (simp [hg]; omega) | focus (simp only [hg, tt_tt, imp_tt, imp_self, true_and]; first | omega) | focus (simp_all; done)); (simp only [go_sem]; rfl))
    | (apply RunQ.call; rfl; (simp only [go_sem]; rfl); (first | trivial | omega | focus (simp; done) | focus (simp; omega)); (simp only [go_sem]; rfl); (simp only [go_sem]); (first | exact clamp19 _ | fail); rfl; (simp only [go_sem]; rfl))
    | (apply RunQ.callg; (simp only [go_sem]; rfl); rfl; (simp only [go_sem]; rfl); (intro hg; first | trivial | omega | focus (simp [hg]; done) | focus (simp [hg]; omega) | focus (simp only [hg, tt_tt, imp_tt, imp_self, true_and]; first | omega) | focus (simp_all; done)); (simp only [go_sem]; rfl); (intro _; (simp only [go_sem])); (intro hg; first | exact clamp19 _ | fail); rfl; (simp only [go_sem]; rfl))
    | (apply Holds.cond; (simp only [go_sem]; rfl); all_goals intro hb; all_goals try (refine absurd hb ?_; decide)))
  all_goals (refine ⟨by first | exact .inl rfl | exact .inr rfl, ?_⟩; simp only [go_sem])
  all_goals (have h1 := clampS_bd a; have h2 := clampS_bd b; unfold mulS; rw [wrap_small _ (by first | omega | exact mul_bd _ _ h1 h2)])

theorem half26 (n : Int) (up : Bool) : PCall Tryd.prog I1 26 [.c (.int .i64 n), .c (.bool up)] (· = .c (.int .i64 (halfS n up))) := by
  refine PCall.body I1_stable (by kernel_rfl) Tryd.func26 rfl Tryd.ntmps26 (rs := [.tmp 4]) rfl (by simp only [go_sem]; rfl) ?_
  intro w0 av old
  repeat' (first
    | refine Holds.seq ?_
    | refine Holds.run ?_
    | refine Holds.runQ follows (by kernel_rfl) ?_
    | refine Run.nil ?_
    | refine RunQ.nil ?_
    | refine thenQ.normal ?_
    | refine thenQ.ret ?_
    | refine thenQ.exit ?_
    | refine blockQ.normal ?_
    | refine blockQ.ret ?_
    | refine blockQ.out ?_
    | refine blockQ.on rfl ?_
    | refine Holds.block ?_
    | refine Holds.ret ?_
    | refine Holds.skip ?_
    | refine Holds.exit ?_
    | (apply Run.rd; rfl; (simp only [go_sem]; rfl); (first | trivial | omega | focus (simp; done) | focus (simp; omega)); (simp only [go_sem]; rfl))
    | (apply Run.ef; rfl; (simp only [go_sem]; rfl); (first | trivial | omega | focus (simp; done) | focus (simp; omega)))
    | (apply Run.cut; rfl; (simp only [go_sem]; rfl); (simp only [go_sem]; rfl); (first | trivial | omega | focus (simp; done) | focus (simp; omega)); (simp only [go_sem]; rfl))
    | (apply Run.rdg; (simp only [go_sem]; rfl); rfl; (simp only [go_sem]; rfl); (intro hg; first | trivial | omega | focus (simp [hg]; done) | focus (simp [hg]; omega) | focus (simp only [hg, tt_tt, imp_tt, imp_self, true_and]; first | omega) | focus (simp_all; done)); (simp only [go_sem]; rfl))
    | (apply Run.call; rfl; (simp only [go_sem]; rfl); (first | trivial | omega | focus (simp; done) | focus (simp; omega)); (simp only [go_sem]; rfl); (simp only [go_sem]); (first | exact clamp18 _ | fail); (first | exact Or.inl rfl | (refine Or.inr ⟨?_, ?_⟩ <;> simp [topVs, topV, topC, St.okFrz, St.look])); (simp only [go_sem]; rfl))
    | (apply Run.callg; (simp only [go_sem]; rfl); rfl; (simp only [go_sem]; rfl); (intro hg; first | trivial | omega | focus (simp [hg]; done) | focus (simp [hg]; omega) | focus (simp only [hg, tt_tt, imp_tt, imp_self, true_and]; first | omega) | focus (simp_all; done)); (simp only [go_sem]; rfl); (intro _; (simp only [go_sem])); (intro hg; first | exact clamp18 _ | fail); rfl; (simp only [go_sem]; rfl))
    | (apply RunQ.rd; rfl; (simp only [go_sem]; rfl); (first | trivial | omega | focus (simp; done) | focus (simp; omega)); (simp only [go_sem]; rfl))
    | (apply RunQ.cut; rfl; (simp only [go_sem]; rfl); (first | trivial | omega | focus (simp; done) | focus (simp; omega)); (simp only [go_sem]; rfl))
    | (apply RunQ.rdg; (simp only [go_sem]; rfl); rfl; (simp only [go_sem]; rfl); (intro hg; first | trivial | omega | focus (simp [hg]; done) | focus (simp [hg]; omega) | focus (simp only [hg, tt_tt, imp_tt, imp_self, true_and]; first | omega) | focus (simp_all; done)); (simp only [go_sem]; rfl))
    | (apply RunQ.cutg; (simp only [go_sem]; rfl); rfl; (simp only [go_sem]; rfl); (intro hg; first | trivial | omega | focus (simp [hg]; done) | focus (simp [hg]; omega) | focus (simp only [hg, tt_tt, imp_tt, imp_self, true_and]; first | omega) | focus (simp_all; done)); (simp only [go_sem]; rfl))
    | (apply RunQ.call; rfl; (simp only [go_sem]; rfl); (first | trivial | omega | focus (simp; done) | focus (simp; omega)); (simp only [go_sem]; rfl); (simp only [go_sem]); (first | exact clamp18 _ | fail); rfl; (simp only [go_sem]; rfl))
    | (apply RunQ.callg; (simp only [go_sem]; rfl); rfl; (simp only [go_sem]; rfl); (intro hg; first | trivial | omega | focus (simp [hg]; done) | focus (simp [hg]; omega) | focus (simp only [hg, tt_tt, imp_tt, imp_self, true_and]; first | omega) | focus (simp_all; done)); (simp only [go_sem]; rfl); (intro _; (simp only [go_sem])); (intro hg; first | exact clamp18 _ | fail); rfl; (simp only [go_sem]; rfl))
    | (apply Holds.cond; (simp only [go_sem]; rfl); all_goals intro hb; all_goals try (refine absurd hb ?_; decide)))
  all_goals (refine ⟨by first | exact .inl rfl | exact .inr rfl, ?_⟩; simp only [go_sem])
  all_goals (have h1 := clampS_bd n; have w1 := tdw _ h1; unfold halfS; generalize clampS n = c at *; simp only [w1.1, w1.2.1, w1.2.2.1, w1.2.2.2]; clear w1; rw [tdiv2]; try rw [tmod2] at *; congr 2; cases up <;> simp at * <;> (repeat' split) <;> (repeat' split at *) <;> omega)

theorem half27 (n : Int) (up : Bool) : PCall Tryd.prog I1 27 [.c (.int .i64 n), .c (.bool up)] (· = .c (.int .i64 (halfS n up))) := by
  refine PCall.body I1_stable (by kernel_rfl) Tryd.func27 rfl Tryd.ntmps27 (rs := [.tmp 4]) rfl (by simp only [go_sem]; rfl) ?_
  intro w0 av old
  repeat' (first
    | refine Holds.seq ?_
    | refine Holds.run ?_
    | refine Holds.runQ follows (by kernel_rfl) ?_
    | refine Run.nil ?_
    | refine RunQ.nil ?_
    | refine thenQ.normal ?_
    | refine thenQ.ret ?_
    | refine thenQ.exit ?_
    | refine blockQ.normal ?_
    | refine blockQ.ret ?_
    | refine blockQ.out ?_
    | refine blockQ.on rfl ?_
    | refine Holds.block ?_
    | refine Holds.ret ?_
    | refine Holds.skip ?_
    | refine Holds.exit ?_
    | (apply Run.rd; rfl; (simp only [go_sem]; rfl); (first | trivial | omega | focus (simp; done) | focus (simp; omega)); (simp only [go_sem]; rfl))
    | (apply Run.ef; rfl; (simp only [go_sem]; rfl); (first | trivial | omega | focus (simp; done) | focus (simp; omega)))
    | (apply Run.cut; rfl; (simp only [go_sem]; rfl); (simp only [go_sem]; rfl); (first | trivial | omega | focus (simp; done) | focus (simp; omega)); (simp only [go_sem]; rfl))
    | (apply Run.rdg; (simp only [go_sem]; rfl); rfl; (simp only [go_sem]; rfl); (intro hg; first | trivial | omega | focus (simp [hg]; done) | focus (simp [hg]; omega) | focus (simp only [hg, tt_tt, imp_tt, imp_self, true_and]; first | omega) | focus (simp_all; done)); (simp only [go_sem]; rfl))
    | (apply Run.call; rfl; (simp only [go_sem]; rfl); (first | trivial | omega | focus (simp; done) | focus (simp; omega)); (simp only [go_sem]; rfl); (simp only [go_sem]); (first | exact clamp19 _ | fail); (first | exact Or.inl rfl | (refine Or.inr ⟨?_, ?_⟩ <;> simp [topVs, topV, topC, St.okFrz, St.look])); (simp only [go_sem]; rfl))
    | (apply Run.callg; (simp only [go_sem]; rfl); rfl; (simp only [go_sem]; rfl); (intro hg; first | trivial | omega | focus (simp [hg]; done) | focus (simp [hg]; omega) | focus (simp only [hg, tt_tt, imp_tt, imp_self, true_and]; first | omega) | focus (simp_all; done)); (simp only [go_sem]; rfl); (intro _; (simp only [go_sem])); (intro hg; first | exact clamp19 _ | fail); rfl; (simp only [go_sem]; rfl))
    | (apply RunQ.rd; rfl; (simp only [go_sem]; rfl); (first | trivial | omega | focus (simp; done) | focus (simp; omega)); (simp only [go_sem]; rfl))
    | (apply RunQ.cut; rfl; (simp only [go_sem]; rfl); (first | trivial | omega | focus (simp; done) | focus (simp; omega)); (simp only [go_sem]; rfl))
    | (apply RunQ.rdg; (simp only [go_sem]; rfl); rfl; (simp only [go_sem]; rfl); (intro hg; first | trivial | omega | focus (simp [hg]; done) | focus (simp [hg]; omega) | focus (simp only [hg, tt_tt, imp_tt, imp_self, true_and]; first | omega) | focus (simp_all; done)); (simp only [go_sem]; rfl))
    | (apply RunQ.cutg; (simp only [go_sem]; rfl); rfl; (simp only [go_sem]; rfl); (intro hg; first | trivial | omega | focus (simp [hg]; done) | focus (simp [hg]; omega) | focus (simp only [hg, tt_tt, imp_tt, imp_self, true_and]; first | omega) | focus (simp_all; done)); (simp only [go_sem]; rfl))
    | (apply RunQ.call; rfl; (simp only [go_sem]; rfl); (first | trivial | omega | focus (simp; done) | focus (simp; omega)); (simp only [go_sem]; rfl); (simp only [go_sem]); (first | exact clamp19 _ | fail); rfl; (simp only [go_sem]; rfl))
    | (apply RunQ.callg; (simp only [go_sem]; rfl); rfl; (simp only [go_sem]; rfl); (intro hg; first | trivial | omega | focus (simp [hg]; done) | focus (simp [hg]; omega) | focus (simp only [hg, tt_tt, imp_tt, imp_self, true_and]; first | omega) | focus (simp_all; done)); (simp only [go_sem]; rfl); (intro _; (simp only [go_sem])); (intro hg; first | exact clamp19 _ | fail); rfl; (simp only [go_sem]; rfl))
    | (apply Holds.cond; (simp only [go_sem]; rfl); all_goals intro hb; all_goals try (refine absurd hb ?_; decide)))
  all_goals (refine ⟨by first | exact .inl rfl | exact .inr rfl, ?_⟩; simp only [go_sem])
  all_goals (have h1 := clampS_bd n; have w1 := tdw _ h1; unfold halfS; generalize clampS n = c at *; simp only [w1.1, w1.2.1, w1.2.2.1, w1.2.2.2]; clear w1; rw [tdiv2]; try rw [tmod2] at *; congr 2; cases up <;> simp at * <;> (repeat' split) <;> (repeat' split at *) <;> omega)

theorem meets16 (k m n : Int) : PCall Tryd.prog I1 16 [.agg [.int .i64 k, .int .i64 m], .c (.int .i64 n)] (· = .c (.bool (meetsS k m n))) := by
  refine PCall.body I1_stable (by kernel_rfl) Tryd.func16 rfl Tryd.ntmps16 (rs := [.tmp 4]) rfl (by simp only [go_sem]; rfl) ?_
  intro w0 av old
  repeat' (first
    | refine Holds.seq ?_
    | refine Holds.run ?_
    | refine Holds.runQ follows (by kernel_rfl) ?_
    | refine Run.nil ?_
    | refine RunQ.nil ?_
    | refine thenQ.normal ?_
    | refine thenQ.ret ?_
    | refine thenQ.exit ?_
    | refine blockQ.normal ?_
    | refine blockQ.ret ?_
    | refine blockQ.out ?_
    | refine blockQ.on rfl ?_
    | refine Holds.block ?_
    | refine Holds.ret ?_
    | refine Holds.skip ?_
    | refine Holds.exit ?_
    | (apply Run.rd; rfl; (simp only [go_sem]; rfl); (first | trivial | omega | focus (simp; done) | focus (simp; omega)); (simp only [go_sem]; rfl))
    | (apply Run.ef; rfl; (simp only [go_sem]; rfl); (first | trivial | omega | focus (simp; done) | focus (simp; omega)))
    | (apply Run.cut; rfl; (simp only [go_sem]; rfl); (simp only [go_sem]; rfl); (first | trivial | omega | focus (simp; done) | focus (simp; omega)); (simp only [go_sem]; rfl))
    | (apply Run.rdg; (simp only [go_sem]; rfl); rfl; (simp only [go_sem]; rfl); (intro hg; first | trivial | omega | focus (simp [hg]; done) | focus (simp [hg]; omega) | focus (simp only [hg, tt_tt, imp_tt, imp_self, true_and]; first | omega) | focus (simp_all; done)); (simp only [go_sem]; rfl))
    | (apply RunQ.rd; rfl; (simp only [go_sem]; rfl); (first | trivial | omega | focus (simp; done) | focus (simp; omega)); (simp only [go_sem]; rfl))
    | (apply RunQ.cut; rfl; (simp only [go_sem]; rfl); (first | trivial | omega | focus (simp; done) | focus (simp; omega)); (simp only [go_sem]; rfl))
    | (apply RunQ.rdg; (simp only [go_sem]; rfl); rfl; (simp only [go_sem]; rfl); (intro hg; first | trivial | omega | focus (simp [hg]; done) | focus (simp [hg]; omega) | focus (simp only [hg, tt_tt, imp_tt, imp_self, true_and]; first | omega) | focus (simp_all; done)); (simp only [go_sem]; rfl))
    | (apply RunQ.cutg; (simp only [go_sem]; rfl); rfl; (simp only [go_sem]; rfl); (intro hg; first | trivial | omega | focus (simp [hg]; done) | focus (simp [hg]; omega) | focus (simp only [hg, tt_tt, imp_tt, imp_self, true_and]; first | omega) | focus (simp_all; done)); (simp only [go_sem]; rfl))
    | (apply Holds.cond; (simp only [go_sem]; rfl); all_goals intro hb; all_goals try (refine absurd hb ?_; decide)))
  all_goals (refine ⟨by first | exact .inl rfl | exact .inr rfl, ?_⟩; simp only [go_sem])
  all_goals (simp at *; simp [meetsS, *])

theorem meets17 (k m n : Int) : PCall Tryd.prog I1 17 [.agg [.int .i64 k, .int .i64 m], .c (.int .i64 n)] (· = .c (.bool (meetsS k m n))) := by
  refine PCall.body I1_stable (by kernel_rfl) Tryd.func17 rfl Tryd.ntmps17 (rs := [.tmp 4]) rfl (by simp only [go_sem]; rfl) ?_
  intro w0 av old
  repeat' (first
    | refine Holds.seq ?_
    | refine Holds.run ?_
    | refine Holds.runQ follows (by kernel_rfl) ?_
    | refine Run.nil ?_
    | refine RunQ.nil ?_
    | refine thenQ.normal ?_
    | refine thenQ.ret ?_
    | refine thenQ.exit ?_
    | refine blockQ.normal ?_
    | refine blockQ.ret ?_
    | refine blockQ.out ?_
    | refine blockQ.on rfl ?_
    | refine Holds.block ?_
    | refine Holds.ret ?_
    | refine Holds.skip ?_
    | refine Holds.exit ?_
    | (apply Run.rd; rfl; (simp only [go_sem]; rfl); (first | trivial | omega | focus (simp; done) | focus (simp; omega)); (simp only [go_sem]; rfl))
    | (apply Run.ef; rfl; (simp only [go_sem]; rfl); (first | trivial | omega | focus (simp; done) | focus (simp; omega)))
    | (apply Run.cut; rfl; (simp only [go_sem]; rfl); (simp only [go_sem]; rfl); (first | trivial | omega | focus (simp; done) | focus (simp; omega)); (simp only [go_sem]; rfl))
    | (apply Run.rdg; (simp only [go_sem]; rfl); rfl; (simp only [go_sem]; rfl); (intro hg; first | trivial | omega | focus (simp [hg]; done) | focus (simp [hg]; omega) | focus (simp only [hg, tt_tt, imp_tt, imp_self, true_and]; first | omega) | focus (simp_all; done)); (simp only [go_sem]; rfl))
    | (apply RunQ.rd; rfl; (simp only [go_sem]; rfl); (first | trivial | omega | focus (simp; done) | focus (simp; omega)); (simp only [go_sem]; rfl))
    | (apply RunQ.cut; rfl; (simp only [go_sem]; rfl); (first | trivial | omega | focus (simp; done) | focus (simp; omega)); (simp only [go_sem]; rfl))
    | (apply RunQ.rdg; (simp only [go_sem]; rfl); rfl; (simp only [go_sem]; rfl); (intro hg; first | trivial | omega | focus (simp [hg]; done) | focus (simp [hg]; omega) | focus (simp only [hg, tt_tt, imp_tt, imp_self, true_and]; first | omega) | focus (simp_all; done)); (simp only [go_sem]; rfl))
    | (apply RunQ.cutg; (simp only [go_sem]; rfl); rfl; (simp only [go_sem]; rfl); (intro hg; first | trivial | omega | focus (simp [hg]; done) | focus (simp [hg]; omega) | focus (simp only [hg, tt_tt, imp_tt, imp_self, true_and]; first | omega) | focus (simp_all; done)); (simp only [go_sem]; rfl))
    | (apply Holds.cond; (simp only [go_sem]; rfl); all_goals intro hb; all_goals try (refine absurd hb ?_; decide)))
  all_goals (refine ⟨by first | exact .inl rfl | exact .inr rfl, ?_⟩; simp only [go_sem])
  all_goals (simp at *; simp [meetsS, *])

end Go.PL
