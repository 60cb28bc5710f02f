/- The laws, one call each. -/
import Derived.Test.YtkbcgcmklmelbaaDoorPlNumE
namespace Go.PL
open Go Go.RowKit Go.Proofs
attribute [local irreducible] Holds wpOps wqOps thenQ blockQ
set_option maxRecDepth 10000
set_option linter.unusedSimpArgs false
theorem num40 : numS [45, 52, 48] = (-40, true) := numS_of (by decide) (by simp [Lib.itoa, Lib.decDigits])
theorem num007 : numS [48, 48, 55] = (0, false) := by
  rcases numS_or [48, 48, 55] with q | ⟨v, _, h1, h2⟩
  · exact q
  · have := itoa_shape h1
    rw [h2] at this
    have hv := this.2.2.2
    simp [sgn, valF] at hv
    subst hv
    simp [Lib.itoa, Lib.decDigits] at h2
theorem bitsS5 : bitsS 5 = [0, 2] := by decide
theorem mul1000 : mulS 1000 1001 = 1000000 := by decide
theorem half3f : halfS (-3) false = -2 := by decide
theorem half3t : halfS (-3) true = -1 := by decide
theorem itoa7 : Lib.itoa (-7) = [45, 55] := by simp [Lib.itoa, Lib.decDigits]
theorem meets123 : meetsS 1 2 3 = true := by decide
attribute [local go_sem] Int.reduceToNat Int.reduceBEq Int.cast_ofNat_Int num40 num007 bitsS5 mul1000 half3f half3t itoa7 meets123
theorem alive11  : PCall Tryd.prog I1 11 [] (· = .c (.bool true)) := by
  refine PCall.body I1_stable (by kernel_rfl) Tryd.func11 rfl Tryd.ntmps11 (rs := [.tmp 0]) rfl (by simp only [go_sem]; rfl) ?_
  intro w0 av old
  repeat' (first
    | refine Holds.seq ?_
    | refine Holds.run ?_
    | refine Holds.runQ follows (by kernel_rfl) ?_
    | refine Run.nil ?_
    | refine RunQ.nil ?_
    | refine thenQ.normal ?_
    | refine thenQ.ret ?_
    | refine thenQ.exit ?_
    | refine blockQ.normal ?_
    | refine blockQ.ret ?_
    | refine blockQ.out ?_
    | refine blockQ.on rfl ?_
    | refine Holds.block ?_
    | refine Holds.ret ?_
    | refine Holds.skip ?_
    | refine Holds.exit ?_
    | (apply Run.rd; rfl; (simp only [go_sem]; rfl); (first | trivial | omega | focus (simp; done) | focus (simp; omega)); (simp only [go_sem]; rfl))
    | (apply Run.ef; rfl; (simp only [go_sem]; rfl); (first | trivial | omega | focus (simp; done) | focus (simp; omega)))
    | (apply Run.cut; rfl; (simp only [go_sem]; rfl); (simp only [go_sem]; rfl); (first | trivial | omega | focus (simp; done) | focus (simp; omega)); (simp only [go_sem]; rfl))
    | (apply Run.rdg; (simp only [go_sem]; rfl); rfl; (simp only [go_sem]; rfl); (intro hg; first | trivial | omega | focus (simp [hg]; done) | focus (simp [hg]; omega) | focus (simp only [hg, tt_tt, imp_tt, imp_self, true_and]; first | omega) | focus (simp_all; done)); (simp only [go_sem]; rfl))
    | (apply Run.call; rfl; (simp only [go_sem]; rfl); (first | trivial | omega | focus (simp; done) | focus (simp; omega)); (simp only [go_sem]; rfl); (simp only [go_sem]); (first | exact number12 _ (by decide) | exact bits9 _ | exact mul24 _ _ | exact half26 _ _ | exact text14 _ (by decide) (by decide) | exact meets16 _ _ _ | fail); (first | exact Or.inl rfl | (refine Or.inr ⟨?_, ?_⟩ <;> simp [topVs, topV, topC, St.okFrz, St.look])); (simp only [go_sem]; rfl))
    | (apply Run.callg; (simp only [go_sem]; rfl); rfl; (simp only [go_sem]; rfl); (intro hg; first | trivial | omega | focus (simp [hg]; done) | focus (simp [hg]; omega) | focus (simp only [hg, tt_tt, imp_tt, imp_self, true_and]; first | omega) | focus (simp_all; done)); (simp only [go_sem]; rfl); (intro _; (simp only [go_sem])); (intro hg; first | exact number12 _ (by decide) | exact bits9 _ | exact mul24 _ _ | exact half26 _ _ | exact text14 _ (by decide) (by decide) | exact meets16 _ _ _ | fail); rfl; (simp only [go_sem]; rfl))
    | (apply RunQ.rd; rfl; (simp only [go_sem]; rfl); (first | trivial | omega | focus (simp; done) | focus (simp; omega)); (simp only [go_sem]; rfl))
    | (apply RunQ.cut; rfl; (simp only [go_sem]; rfl); (first | trivial | omega | focus (simp; done) | focus (simp; omega)); (simp only [go_sem]; rfl))
    | (apply RunQ.rdg; (simp only [go_sem]; rfl); rfl; (simp only [go_sem]; rfl); (intro hg; first | trivial | omega | focus (simp [hg]; done) | focus (simp [hg]; omega) | focus (simp only [hg, tt_tt, imp_tt, imp_self, true_and]; first | omega) | focus (simp_all; done)); (simp only [go_sem]; rfl))
    | (apply RunQ.cutg; (simp only [go_sem]; rfl); rfl; (simp only [go_sem]; rfl); (intro hg; first | trivial | omega | focus (simp [hg]; done) | focus (simp [hg]; omega) | focus (simp only [hg, tt_tt, imp_tt, imp_self, true_and]; first | omega) | focus (simp_all; done)); (simp only [go_sem]; rfl))
    | (apply RunQ.call; rfl; (simp only [go_sem]; rfl); (first | trivial | omega | focus (simp; done) | focus (simp; omega)); (simp only [go_sem]; rfl); (simp only [go_sem]); (first | exact number12 _ (by decide) | exact bits9 _ | exact mul24 _ _ | exact half26 _ _ | exact text14 _ (by decide) (by decide) | exact meets16 _ _ _ | fail); rfl; (simp only [go_sem]; rfl))
    | (apply RunQ.callg; (simp only [go_sem]; rfl); rfl; (simp only [go_sem]; rfl); (intro hg; first | trivial | omega | focus (simp [hg]; done) | focus (simp [hg]; omega) | focus (simp only [hg, tt_tt, imp_tt, imp_self, true_and]; first | omega) | focus (simp_all; done)); (simp only [go_sem]; rfl); (intro _; (simp only [go_sem])); (intro hg; first | exact number12 _ (by decide) | exact bits9 _ | exact mul24 _ _ | exact half26 _ _ | exact text14 _ (by decide) (by decide) | exact meets16 _ _ _ | fail); rfl; (simp only [go_sem]; rfl))
    | (apply Holds.cond; (simp only [go_sem]; rfl); all_goals intro hb; all_goals try (refine absurd hb ?_; decide)))
  all_goals (refine ⟨by first | exact .inl rfl | exact .inr rfl, ?_⟩; simp only [go_sem])

theorem law6 (k m n : Int) : PCall Tryd.prog I1 6 [.agg [.int .i64 k, .int .i64 m], .c (.int .i64 n)] (· = .c (.bool true)) := by
  refine PCall.body I1_stable (by kernel_rfl) Tryd.func6 rfl Tryd.ntmps6 (rs := [.tmp 4]) rfl (by simp only [go_sem]; rfl) ?_
  intro w0 av old
  repeat' (first
    | refine Holds.seq ?_
    | refine Holds.run ?_
    | refine Holds.runQ follows (by kernel_rfl) ?_
    | refine Run.nil ?_
    | refine RunQ.nil ?_
    | refine thenQ.normal ?_
    | refine thenQ.ret ?_
    | refine thenQ.exit ?_
    | refine blockQ.normal ?_
    | refine blockQ.ret ?_
    | refine blockQ.out ?_
    | refine blockQ.on rfl ?_
    | refine Holds.block ?_
    | refine Holds.ret ?_
    | refine Holds.skip ?_
    | refine Holds.exit ?_
    | (apply Run.rd; rfl; (simp only [go_sem]; rfl); (first | trivial | omega | focus (simp; done) | focus (simp; omega)); (simp only [go_sem]; rfl))
    | (apply Run.ef; rfl; (simp only [go_sem]; rfl); (first | trivial | omega | focus (simp; done) | focus (simp; omega)))
    | (apply Run.cut; rfl; (simp only [go_sem]; rfl); (simp only [go_sem]; rfl); (first | trivial | omega | focus (simp; done) | focus (simp; omega)); (simp only [go_sem]; rfl))
    | (apply Run.rdg; (simp only [go_sem]; rfl); rfl; (simp only [go_sem]; rfl); (intro hg; first | trivial | omega | focus (simp [hg]; done) | focus (simp [hg]; omega) | focus (simp only [hg, tt_tt, imp_tt, imp_self, true_and]; first | omega) | focus (simp_all; done)); (simp only [go_sem]; rfl))
    | (apply Run.call; rfl; (simp only [go_sem]; rfl); (first | trivial | omega | focus (simp; done) | focus (simp; omega)); (simp only [go_sem]; rfl); (simp only [go_sem]); (first | exact alive11 | exact meets16 _ _ _ | exact meets17 _ _ _ | fail); (first | exact Or.inl rfl | (refine Or.inr ⟨?_, ?_⟩ <;> simp [topVs, topV, topC, St.okFrz, St.look])); (simp only [go_sem]; rfl))
    | (apply Run.callg; (simp only [go_sem]; rfl); rfl; (simp only [go_sem]; rfl); (intro hg; first | trivial | omega | focus (simp [hg]; done) | focus (simp [hg]; omega) | focus (simp only [hg, tt_tt, imp_tt, imp_self, true_and]; first | omega) | focus (simp_all; done)); (simp only [go_sem]; rfl); (intro _; (simp only [go_sem])); (intro hg; first | exact alive11 | exact meets16 _ _ _ | exact meets17 _ _ _ | fail); rfl; (simp only [go_sem]; rfl))
    | (apply RunQ.rd; rfl; (simp only [go_sem]; rfl); (first | trivial | omega | focus (simp; done) | focus (simp; omega)); (simp only [go_sem]; rfl))
    | (apply RunQ.cut; rfl; (simp only [go_sem]; rfl); (first | trivial | omega | focus (simp; done) | focus (simp; omega)); (simp only [go_sem]; rfl))
    | (apply RunQ.rdg; (simp only [go_sem]; rfl); rfl; (simp only [go_sem]; rfl); (intro hg; first | trivial | omega | focus (simp [hg]; done) | focus (simp [hg]; omega) | focus (simp only [hg, tt_tt, imp_tt, imp_self, true_and]; first | omega) | focus (simp_all; done)); (simp only [go_sem]; rfl))
    | (apply RunQ.cutg; (simp only [go_sem]; rfl); rfl; (simp only [go_sem]; rfl); (intro hg; first | trivial | omega | focus (simp [hg]; done) | focus (simp [hg]; omega) | focus (simp only [hg, tt_tt, imp_tt, imp_self, true_and]; first | omega) | focus (simp_all; done)); (simp only [go_sem]; rfl))
    | (apply RunQ.call; rfl; (simp only [go_sem]; rfl); (first | trivial | omega | focus (simp; done) | focus (simp; omega)); (simp only [go_sem]; rfl); (simp only [go_sem]); (first | exact alive11 | exact meets16 _ _ _ | exact meets17 _ _ _ | fail); rfl; (simp only [go_sem]; rfl))
    | (apply RunQ.callg; (simp only [go_sem]; rfl); rfl; (simp only [go_sem]; rfl); (intro hg; first | trivial | omega | focus (simp [hg]; done) | focus (simp [hg]; omega) | focus (simp only [hg, tt_tt, imp_tt, imp_self, true_and]; first | omega) | focus (simp_all; done)); (simp only [go_sem]; rfl); (intro _; (simp only [go_sem])); (intro hg; first | exact alive11 | exact meets16 _ _ _ | exact meets17 _ _ _ | fail); rfl; (simp only [go_sem]; rfl))
    | (apply Holds.cond; (simp only [go_sem]; rfl); all_goals intro hb; all_goals try (refine absurd hb ?_; decide)))
  all_goals (refine ⟨by first | exact .inl rfl | exact .inr rfl, ?_⟩; simp only [go_sem])
  all_goals simp

theorem law7 (a b : Int) (up : Bool) : PCall Tryd.prog I1 7 [.c (.int .i64 a), .c (.int .i64 b), .c (.bool up)] (· = .c (.bool true)) := by
  refine PCall.body I1_stable (by kernel_rfl) Tryd.func7 rfl Tryd.ntmps7 (rs := [.tmp 6]) rfl (by simp only [go_sem]; rfl) ?_
  intro w0 av old
  repeat' (first
    | refine Holds.seq ?_
    | refine Holds.run ?_
    | refine Holds.runQ follows (by kernel_rfl) ?_
    | refine Run.nil ?_
    | refine RunQ.nil ?_
    | refine thenQ.normal ?_
    | refine thenQ.ret ?_
    | refine thenQ.exit ?_
    | refine blockQ.normal ?_
    | refine blockQ.ret ?_
    | refine blockQ.out ?_
    | refine blockQ.on rfl ?_
    | refine Holds.block ?_
    | refine Holds.ret ?_
    | refine Holds.skip ?_
    | refine Holds.exit ?_
    | (apply Run.rd; rfl; (simp only [go_sem]; rfl); (first | trivial | omega | focus (simp; done) | focus (simp; omega)); (simp only [go_sem]; rfl))
    | (apply Run.ef; rfl; (simp only [go_sem]; rfl); (first | trivial | omega | focus (simp; done) | focus (simp; omega)))
    | (apply Run.cut; rfl; (simp only [go_sem]; rfl); (simp only [go_sem]; rfl); (first | trivial | omega | focus (simp; done) | focus (simp; omega)); (simp only [go_sem]; rfl))
    | (apply Run.rdg; (simp only [go_sem]; rfl); rfl; (simp only [go_sem]; rfl); (intro hg; first | trivial | omega | focus (simp [hg]; done) | focus (simp [hg]; omega) | focus (simp only [hg, tt_tt, imp_tt, imp_self, true_and]; first | omega) | focus (simp_all; done)); (simp only [go_sem]; rfl))
    | (apply Run.call; rfl; (simp only [go_sem]; rfl); (first | trivial | omega | focus (simp; done) | focus (simp; omega)); (simp only [go_sem]; rfl); (simp only [go_sem]); (first | exact alive11 | exact clamp18 _ | exact clamp19 _ | exact add20 _ _ | exact add21 _ _ | exact sub22 _ _ | exact sub23 _ _ | exact mul24 _ _ | exact mul25 _ _ | exact half26 _ _ | exact half27 _ _ | fail); (first | exact Or.inl rfl | (refine Or.inr ⟨?_, ?_⟩ <;> simp [topVs, topV, topC, St.okFrz, St.look])); (simp only [go_sem]; rfl))
    | (apply Run.callg; (simp only [go_sem]; rfl); rfl; (simp only [go_sem]; rfl); (intro hg; first | trivial | omega | focus (simp [hg]; done) | focus (simp [hg]; omega) | focus (simp only [hg, tt_tt, imp_tt, imp_self, true_and]; first | omega) | focus (simp_all; done)); (simp only [go_sem]; rfl); (intro _; (simp only [go_sem])); (intro hg; first | exact alive11 | exact clamp18 _ | exact clamp19 _ | exact add20 _ _ | exact add21 _ _ | exact sub22 _ _ | exact sub23 _ _ | exact mul24 _ _ | exact mul25 _ _ | exact half26 _ _ | exact half27 _ _ | fail); rfl; (simp only [go_sem]; rfl))
    | (apply RunQ.rd; rfl; (simp only [go_sem]; rfl); (first | trivial | omega | focus (simp; done) | focus (simp; omega)); (simp only [go_sem]; rfl))
    | (apply RunQ.cut; rfl; (simp only [go_sem]; rfl); (first | trivial | omega | focus (simp; done) | focus (simp; omega)); (simp only [go_sem]; rfl))
    | (apply RunQ.rdg; (simp only [go_sem]; rfl); rfl; (simp only [go_sem]; rfl); (intro hg; first | trivial | omega | focus (simp [hg]; done) | focus (simp [hg]; omega) | focus (simp only [hg, tt_tt, imp_tt, imp_self, true_and]; first | omega) | focus (simp_all; done)); (simp only [go_sem]; rfl))
    | (apply RunQ.cutg; (simp only [go_sem]; rfl); rfl; (simp only [go_sem]; rfl); (intro hg; first | trivial | omega | focus (simp [hg]; done) | focus (simp [hg]; omega) | focus (simp only [hg, tt_tt, imp_tt, imp_self, true_and]; first | omega) | focus (simp_all; done)); (simp only [go_sem]; rfl))
    | (apply RunQ.call; rfl; (simp only [go_sem]; rfl); (first | trivial | omega | focus (simp; done) | focus (simp; omega)); (simp only [go_sem]; rfl); (simp only [go_sem]); (first | exact alive11 | exact clamp18 _ | exact clamp19 _ | exact add20 _ _ | exact add21 _ _ | exact sub22 _ _ | exact sub23 _ _ | exact mul24 _ _ | exact mul25 _ _ | exact half26 _ _ | exact half27 _ _ | fail); rfl; (simp only [go_sem]; rfl))
    | (apply RunQ.callg; (simp only [go_sem]; rfl); rfl; (simp only [go_sem]; rfl); (intro hg; first | trivial | omega | focus (simp [hg]; done) | focus (simp [hg]; omega) | focus (simp only [hg, tt_tt, imp_tt, imp_self, true_and]; first | omega) | focus (simp_all; done)); (simp only [go_sem]; rfl); (intro _; (simp only [go_sem])); (intro hg; first | exact alive11 | exact clamp18 _ | exact clamp19 _ | exact add20 _ _ | exact add21 _ _ | exact sub22 _ _ | exact sub23 _ _ | exact mul24 _ _ | exact mul25 _ _ | exact half26 _ _ | exact half27 _ _ | fail); rfl; (simp only [go_sem]; rfl))
    | (apply Holds.cond; (simp only [go_sem]; rfl); all_goals intro hb; all_goals try (refine absurd hb ?_; decide)))
  all_goals (refine ⟨by first | exact .inl rfl | exact .inr rfl, ?_⟩; simp only [go_sem])
  all_goals simp

end Go.PL
