/- NumSaturates. -/
import Derived.Test.YtkbcgcmklmelbaaDoorPlNumF
namespace Go.PL
open Go Go.RowKit Go.Proofs
attribute [local irreducible] Holds wpOps wqOps thenQ blockQ
set_option maxRecDepth 10000
set_option linter.unusedSimpArgs false
theorem natC0 : ((0 : Nat) : Int) = 0 := rfl
theorem natC1 : ((1 : Nat) : Int) = 1 := rfl
theorem addS_bd (a b : Int) : -1000000 ≤ addS a b ∧ addS a b ≤ 1000000 := clampS_bd _
theorem subS_bd (a b : Int) : -1000000 ≤ subS a b ∧ subS a b ≤ 1000000 := clampS_bd _
theorem mulS_bd (a b : Int) : -1000000 ≤ mulS a b ∧ mulS a b ≤ 1000000 := clampS_bd _
theorem clampS_neg (n : Int) : clampS (-n) = - clampS n := by unfold clampS; (repeat' split) <;> omega
theorem sat_sym (a b : Int) : (addS a b != addS b a || mulS a b != mulS b a || subS a b != IntKind.i64.wrap (0 - subS b a) || IntKind.i64.wrap (halfS a false + halfS a true) != clampS a) = false := by
  have h1 : addS a b = addS b a := by unfold addS; rw [Int.add_comm]
  have h2 : mulS a b = mulS b a := by unfold mulS; rw [Int.mul_comm]
  have h3 : subS a b = IntKind.i64.wrap (0 - subS b a) := by
    have := subS_bd b a
    rw [wrap_small _ (by omega)]
    have e : clampS a - clampS b = -(clampS b - clampS a) := by omega
    unfold subS
    rw [e, clampS_neg]
    omega
  have h4 : IntKind.i64.wrap (halfS a false + halfS a true) = clampS a := by
    have := clampS_bd a
    unfold halfS
    simp only [Bool.false_eq_true, if_false, if_true]
    rw [wrap_small _ (by omega)]
    omega
  rw [h4, ← h1, ← h2, ← h3]
  simp
theorem sat_end (a b : Int) : ((!(decide (-1000000 ≤ IntKind.i64.wrap (clampS a + clampS b)) && decide (IntKind.i64.wrap (clampS a + clampS b) ≤ 1000000)) || addS a b == IntKind.i64.wrap (clampS a + clampS b) && subS (addS a b) b == clampS a) &&
    (decide (IntKind.i64.wrap (clampS a * clampS b) < -1000000) || decide (1000000 < IntKind.i64.wrap (clampS a * clampS b)) || mulS a b == IntKind.i64.wrap (clampS a * clampS b))) = true := by
  have h1 := clampS_bd a
  have h2 := clampS_bd b
  have h3 := mul_bd _ _ h1 h2
  rw [wrap_small _ (by omega), wrap_small _ h3]
  rw [Bool.and_eq_true]
  constructor
  · by_cases h : -1000000 ≤ clampS a + clampS b ∧ clampS a + clampS b ≤ 1000000
    · have e : addS a b = clampS a + clampS b := clampS_id h.1 h.2
      have e2 : subS (addS a b) b = clampS a := by
        unfold subS
        rw [e, clampS_id h.1 h.2, show clampS a + clampS b - clampS b = clampS a by omega, clampS_id h1.1 h1.2]
      rw [e2, e]
      simp
    · have : (decide (-1000000 ≤ clampS a + clampS b) && decide (clampS a + clampS b ≤ 1000000)) = false := by simp; omega
      rw [this]; rfl
  · by_cases h : -1000000 ≤ clampS a * clampS b ∧ clampS a * clampS b ≤ 1000000
    · have e : mulS a b = clampS a * clampS b := clampS_id h.1 h.2
      rw [e]; simp
    · have : (decide (clampS a * clampS b < -1000000) || decide (1000000 < clampS a * clampS b)) = true := by simp; omega
      rw [this]; rfl
theorem law8 (a b : Int) : PCall Tryd.prog I1 8 [.c (.int .i64 a), .c (.int .i64 b)] (· = .c (.bool true)) := by
  refine PCall.body I1_stable (by kernel_rfl) Tryd.func8 rfl Tryd.ntmps8 (rs := [.tmp 4]) rfl (by simp only [go_sem]; rfl) ?_
  intro w0 av old
  repeat' (first
    | refine Holds.seq ?_
    | refine Holds.run ?_
    | refine Holds.runQ follows (by kernel_rfl) ?_
    | refine Run.nil ?_
    | refine RunQ.nil ?_
    | refine thenQ.normal ?_
    | refine thenQ.ret ?_
    | refine thenQ.exit ?_
    | refine blockQ.normal ?_
    | refine blockQ.ret ?_
    | refine blockQ.out ?_
    | refine blockQ.on rfl ?_
    | refine Holds.block ?_
    | refine Holds.ret ?_
    | refine Holds.skip ?_
    | refine Holds.exit ?_
    | (apply Run.rd; rfl; (simp only [go_sem]; rfl); (first | trivial | omega | focus (simp; done) | focus (simp; omega)); (simp only [go_sem]; rfl))
    | (apply Run.ef; rfl; (simp only [go_sem]; rfl); (first | trivial | omega | focus (simp; done) | focus (simp; omega)))
    | (apply Run.cut; rfl; (simp only [go_sem]; rfl); (simp only [go_sem]; rfl); (first | trivial | omega | focus (simp; done) | focus (simp; omega)); (simp only [go_sem]; rfl))
    | (apply Run.rdg; (simp only [go_sem]; rfl); rfl; (simp only [go_sem]; rfl); (intro hg; first | trivial | omega | focus (simp [hg]; done) | focus (simp [hg]; omega) | focus (simp only [hg, tt_tt, imp_tt, imp_self, true_and]; first | omega) | focus (simp_all; done)); (simp only [go_sem]; rfl))
    | (apply Run.call; rfl; (simp only [go_sem]; rfl); (first | trivial | omega | focus (simp; done) | focus (simp; omega)); (simp only [go_sem]; rfl); (simp only [go_sem]); (first | exact clamp18 _ | exact add20 _ _ | exact sub22 _ _ | exact mul24 _ _ | exact half26 _ _ | exact alive11 | fail); (first | exact Or.inl rfl | (refine Or.inr ⟨?_, ?_⟩ <;> simp [topVs, topV, topC, St.okFrz, St.look])); (simp only [go_sem]; rfl))
    | (apply Run.callg; (simp only [go_sem]; rfl); rfl; (simp only [go_sem]; rfl); (intro hg; first | trivial | omega | focus (simp [hg]; done) | focus (simp [hg]; omega) | focus (simp only [hg, tt_tt, imp_tt, imp_self, true_and]; first | omega) | focus (simp_all; done)); (simp only [go_sem]; rfl); (intro _; (simp only [go_sem])); (intro hg; first | exact clamp18 _ | exact add20 _ _ | exact sub22 _ _ | exact mul24 _ _ | exact half26 _ _ | exact alive11 | fail); rfl; (simp only [go_sem]; rfl))
    | (apply RunQ.rd; rfl; (simp only [go_sem]; rfl); (first | trivial | omega | focus (simp; done) | focus (simp; omega)); (simp only [go_sem]; rfl))
    | (apply RunQ.cut; rfl; (simp only [go_sem]; rfl); (first | trivial | omega | focus (simp; done) | focus (simp; omega)); (simp only [go_sem]; rfl))
    | (apply RunQ.rdg; (simp only [go_sem]; rfl); rfl; (simp only [go_sem]; rfl); (intro hg; first | trivial | omega | focus (simp [hg]; done) | focus (simp [hg]; omega) | focus (simp only [hg, tt_tt, imp_tt, imp_self, true_and]; first | omega) | focus (simp_all; done)); (simp only [go_sem]; rfl))
    | (apply RunQ.cutg; (simp only [go_sem]; rfl); rfl; (simp only [go_sem]; rfl); (intro hg; first | trivial | omega | focus (simp [hg]; done) | focus (simp [hg]; omega) | focus (simp only [hg, tt_tt, imp_tt, imp_self, true_and]; first | omega) | focus (simp_all; done)); (simp only [go_sem]; rfl))
    | (apply RunQ.call; rfl; (simp only [go_sem]; rfl); (first | trivial | omega | focus (simp; done) | focus (simp; omega)); (simp only [go_sem]; rfl); (simp only [go_sem]); (first | exact clamp18 _ | exact add20 _ _ | exact sub22 _ _ | exact mul24 _ _ | exact half26 _ _ | exact alive11 | fail); rfl; (simp only [go_sem]; rfl))
    | (apply RunQ.callg; (simp only [go_sem]; rfl); rfl; (simp only [go_sem]; rfl); (intro hg; first | trivial | omega | focus (simp [hg]; done) | focus (simp [hg]; omega) | focus (simp only [hg, tt_tt, imp_tt, imp_self, true_and]; first | omega) | focus (simp_all; done)); (simp only [go_sem]; rfl); (intro _; (simp only [go_sem])); (intro hg; first | exact clamp18 _ | exact add20 _ _ | exact sub22 _ _ | exact mul24 _ _ | exact half26 _ _ | exact alive11 | fail); rfl; (simp only [go_sem]; rfl))
    | (apply Holds.cond; (simp only [go_sem]; rfl); all_goals intro hb; all_goals try (refine absurd hb ?_; decide)))
  all_goals (first | focus (refine Holds.loop (X := Nat) (fun i => ⟨[.c (.int .i64 a), .c (.int .i64 b), .undef, .undef, .undef, .c (.int .i64 (clampS a)), .c (.int .i64 (clampS b)), .c (.int .i64 (addS a b)), .c (.int .i64 (subS a b)), .c (.int .i64 (mulS a b)), .undef, .undef, .undef, .undef, .undef, .undef, .undef, .undef, .undef, .undef, .undef, .undef, .undef, .undef, .undef, .undef, .undef, .undef, .undef, .undef, .undef, .c (.osl [31]), .c (.int .i64 5), .c (.int .i64 (i : Int)), .undef, .undef, .undef, .undef, .undef, .undef, .undef, .undef, .undef, .undef, .undef, .undef, .undef, .undef, .undef, .undef, .undef, .undef, .undef, .undef, .undef, .undef, .undef, .undef, .undef, .undef, .undef, .undef, .undef, .undef, .undef, .undef, .undef, .undef, .undef, .undef, .undef, .undef, .undef, .undef, .undef, .undef, .undef, .undef, .undef, .undef, .undef, .undef, .undef, .undef, .undef, .undef, .undef, .undef, .undef, .undef, .undef, .undef, .undef, .undef, .undef, .undef, .undef, .undef, .undef, .undef, .undef, .undef, .undef, .undef, .undef, .undef, .undef, .undef, .undef, .undef, .undef, .undef, .undef, .undef, .undef, .undef, .undef, .undef, .undef, .undef, .undef], [⟨[31], some (3, 1, 5), [C.int .i64 (clampS a), C.int .i64 (clampS b), C.int .i64 (addS a b), C.int .i64 (subS a b), C.int .i64 (mulS a b)]⟩]⟩) (fun i => i ≤ 5) (fun i => 5 - i) 0 (by omega) (by (exact Less.of (by repeat' first | exact lessL.nil | refine lessL.skip ?_ | (refine lessL.keep (by first | rfl | (rfl)) ?_)) (by repeat' first | exact lessE.nil | (refine lessE.keep (by first | rfl | (rfl)) ?_) | refine lessE.skip ?_))) ?_; intro i hx) | skip)
  have hi : i = 0 ∨ i = 1 ∨ i = 2 ∨ i = 3 ∨ i = 4 ∨ i = 5 := by omega
  clear hx
  rcases hi with rfl | rfl | rfl | rfl | rfl | rfl
  all_goals (
  repeat' (first
    | refine Holds.seq ?_
    | refine Holds.run ?_
    | refine Holds.runQ follows (by kernel_rfl) ?_
    | refine Run.nil ?_
    | refine RunQ.nil ?_
    | refine thenQ.normal ?_
    | refine thenQ.ret ?_
    | refine thenQ.exit ?_
    | refine blockQ.normal ?_
    | refine blockQ.ret ?_
    | refine blockQ.out ?_
    | refine blockQ.on rfl ?_
    | refine Holds.block ?_
    | refine Holds.ret ?_
    | refine Holds.skip ?_
    | refine Holds.exit ?_
    | (apply Run.rd; rfl; (simp only [go_sem, Int.cast_ofNat_Int, Int.reduceToNat, Int.reduceLT, decide_true, decide_false, natC0, natC1]; rfl); (first | trivial | omega | focus (simp; done) | focus (simp; omega)); (simp only [go_sem, Int.cast_ofNat_Int, Int.reduceToNat, Int.reduceLT, decide_true, decide_false, natC0, natC1]; rfl))
    | (apply Run.ef; rfl; (simp only [go_sem, Int.cast_ofNat_Int, Int.reduceToNat, Int.reduceLT, decide_true, decide_false, natC0, natC1]; rfl); (first | trivial | omega | focus (simp; done) | focus (simp; omega)))
    | (apply Run.cut; rfl; (simp only [go_sem, Int.cast_ofNat_Int, Int.reduceToNat, Int.reduceLT, decide_true, decide_false, natC0, natC1]; rfl); (simp only [go_sem, Int.cast_ofNat_Int, Int.reduceToNat, Int.reduceLT, decide_true, decide_false, natC0, natC1]; rfl); (first | trivial | omega | focus (simp; done) | focus (simp; omega)); (simp only [go_sem, Int.cast_ofNat_Int, Int.reduceToNat, Int.reduceLT, decide_true, decide_false, natC0, natC1]; rfl))
    | (apply Run.rdg; (simp only [go_sem, Int.cast_ofNat_Int, Int.reduceToNat, Int.reduceLT, decide_true, decide_false, natC0, natC1]; rfl); rfl; (simp only [go_sem, Int.cast_ofNat_Int, Int.reduceToNat, Int.reduceLT, decide_true, decide_false, natC0, natC1]; rfl); (intro hg; first | trivial | omega | focus (simp [hg]; done) | focus (simp [hg]; omega) | focus (simp only [hg, tt_tt, imp_tt, imp_self, true_and]; first | omega) | focus (simp_all; done)); (simp only [go_sem, Int.cast_ofNat_Int, Int.reduceToNat, Int.reduceLT, decide_true, decide_false, natC0, natC1]; rfl))
    | (apply Run.call; rfl; (simp only [go_sem, Int.cast_ofNat_Int, Int.reduceToNat, Int.reduceLT, decide_true, decide_false, natC0, natC1]; rfl); (first | trivial | omega | focus (simp; done) | focus (simp; omega)); (simp only [go_sem, Int.cast_ofNat_Int, Int.reduceToNat, Int.reduceLT, decide_true, decide_false, natC0, natC1]; rfl); (simp only [go_sem, Int.cast_ofNat_Int, Int.reduceToNat, Int.reduceLT, decide_true, decide_false, natC0, natC1]); (first | exact clamp18 _ | exact add20 _ _ | exact sub22 _ _ | exact mul24 _ _ | exact half26 _ _ | exact alive11 | fail); (first | exact Or.inl rfl | (refine Or.inr ⟨?_, ?_⟩ <;> simp [topVs, topV, topC, St.okFrz, St.look])); (simp only [go_sem, Int.cast_ofNat_Int, Int.reduceToNat, Int.reduceLT, decide_true, decide_false, natC0, natC1]; rfl))
    | (apply Run.callg; (simp only [go_sem, Int.cast_ofNat_Int, Int.reduceToNat, Int.reduceLT, decide_true, decide_false, natC0, natC1]; rfl); rfl; (simp only [go_sem, Int.cast_ofNat_Int, Int.reduceToNat, Int.reduceLT, decide_true, decide_false, natC0, natC1]; rfl); (intro hg; first | trivial | omega | focus (simp [hg]; done) | focus (simp [hg]; omega) | focus (simp only [hg, tt_tt, imp_tt, imp_self, true_and]; first | omega) | focus (simp_all; done)); (simp only [go_sem, Int.cast_ofNat_Int, Int.reduceToNat, Int.reduceLT, decide_true, decide_false, natC0, natC1]; rfl); (intro _; (simp only [go_sem, Int.cast_ofNat_Int, Int.reduceToNat, Int.reduceLT, decide_true, decide_false, natC0, natC1])); (intro hg; first | exact clamp18 _ | exact add20 _ _ | exact sub22 _ _ | exact mul24 _ _ | exact half26 _ _ | exact alive11 | fail); rfl; (simp only [go_sem, Int.cast_ofNat_Int, Int.reduceToNat, Int.reduceLT, decide_true, decide_false, natC0, natC1]; rfl))
    | (apply RunQ.rd; rfl; (simp only [go_sem, Int.cast_ofNat_Int, Int.reduceToNat, Int.reduceLT, decide_true, decide_false, natC0, natC1]; rfl); (first | trivial | omega | focus (simp; done) | focus (simp; omega)); (simp only [go_sem, Int.cast_ofNat_Int, Int.reduceToNat, Int.reduceLT, decide_true, decide_false, natC0, natC1]; rfl))
    | (apply RunQ.cut; rfl; (simp only [go_sem, Int.cast_ofNat_Int, Int.reduceToNat, Int.reduceLT, decide_true, decide_false, natC0, natC1]; rfl); (first | trivial | omega | focus (simp; done) | focus (simp; omega)); (simp only [go_sem, Int.cast_ofNat_Int, Int.reduceToNat, Int.reduceLT, decide_true, decide_false, natC0, natC1]; rfl))
    | (apply RunQ.rdg; (simp only [go_sem, Int.cast_ofNat_Int, Int.reduceToNat, Int.reduceLT, decide_true, decide_false, natC0, natC1]; rfl); rfl; (simp only [go_sem, Int.cast_ofNat_Int, Int.reduceToNat, Int.reduceLT, decide_true, decide_false, natC0, natC1]; rfl); (intro hg; first | trivial | omega | focus (simp [hg]; done) | focus (simp [hg]; omega) | focus (simp only [hg, tt_tt, imp_tt, imp_self, true_and]; first | omega) | focus (simp_all; done)); (simp only [go_sem, Int.cast_ofNat_Int, Int.reduceToNat, Int.reduceLT, decide_true, decide_false, natC0, natC1]; rfl))
    | (apply RunQ.cutg; (simp only [go_sem, Int.cast_ofNat_Int, Int.reduceToNat, Int.reduceLT, decide_true, decide_false, natC0, natC1]; rfl); rfl; (simp only [go_sem, Int.cast_ofNat_Int, Int.reduceToNat, Int.reduceLT, decide_true, decide_false, natC0, natC1]; rfl); (intro hg; first | trivial | omega | focus (simp [hg]; done) | focus (simp [hg]; omega) | focus (simp only [hg, tt_tt, imp_tt, imp_self, true_and]; first | omega) | focus (simp_all; done)); (simp only [go_sem, Int.cast_ofNat_Int, Int.reduceToNat, Int.reduceLT, decide_true, decide_false, natC0, natC1]; rfl))
    | (apply RunQ.call; rfl; (simp only [go_sem, Int.cast_ofNat_Int, Int.reduceToNat, Int.reduceLT, decide_true, decide_false, natC0, natC1]; rfl); (first | trivial | omega | focus (simp; done) | focus (simp; omega)); (simp only [go_sem, Int.cast_ofNat_Int, Int.reduceToNat, Int.reduceLT, decide_true, decide_false, natC0, natC1]; rfl); (simp only [go_sem, Int.cast_ofNat_Int, Int.reduceToNat, Int.reduceLT, decide_true, decide_false, natC0, natC1]); (first | exact clamp18 _ | exact add20 _ _ | exact sub22 _ _ | exact mul24 _ _ | exact half26 _ _ | exact alive11 | fail); rfl; (simp only [go_sem, Int.cast_ofNat_Int, Int.reduceToNat, Int.reduceLT, decide_true, decide_false, natC0, natC1]; rfl))
    | (apply RunQ.callg; (simp only [go_sem, Int.cast_ofNat_Int, Int.reduceToNat, Int.reduceLT, decide_true, decide_false, natC0, natC1]; rfl); rfl; (simp only [go_sem, Int.cast_ofNat_Int, Int.reduceToNat, Int.reduceLT, decide_true, decide_false, natC0, natC1]; rfl); (intro hg; first | trivial | omega | focus (simp [hg]; done) | focus (simp [hg]; omega) | focus (simp only [hg, tt_tt, imp_tt, imp_self, true_and]; first | omega) | focus (simp_all; done)); (simp only [go_sem, Int.cast_ofNat_Int, Int.reduceToNat, Int.reduceLT, decide_true, decide_false, natC0, natC1]; rfl); (intro _; (simp only [go_sem, Int.cast_ofNat_Int, Int.reduceToNat, Int.reduceLT, decide_true, decide_false, natC0, natC1])); (intro hg; first | exact clamp18 _ | exact add20 _ _ | exact sub22 _ _ | exact mul24 _ _ | exact half26 _ _ | exact alive11 | fail); rfl; (simp only [go_sem, Int.cast_ofNat_Int, Int.reduceToNat, Int.reduceLT, decide_true, decide_false, natC0, natC1]; rfl))
    | (apply Holds.cond; (simp only [go_sem, Int.cast_ofNat_Int, Int.reduceToNat, Int.reduceLT, decide_true, decide_false, natC0, natC1]; rfl); all_goals intro hb; all_goals try (refine absurd hb ?_; decide))))
  all_goals (first | focus (exfalso; have h1 := clampS_bd a; have h2 := clampS_bd b; have h3 := addS_bd a b; have h4 := subS_bd a b; have h5 := mulS_bd a b; simp only [Bool.or_eq_true, decide_eq_true_eq] at hb; omega) | focus (rw [sat_sym] at hb; exact Bool.noConfusion hb) | focus (refine ⟨by first | exact .inl rfl | exact .inr rfl, ?_⟩; simp only [go_sem]; exact congrArg V.c (congrArg C.bool (sat_end a b))) | focus (exact ⟨1, by omega, by omega, by (exact Less.of (by repeat' first | exact lessL.nil | refine lessL.skip ?_ | (refine lessL.keep (by first | rfl | ((refine congrArg V.c (congrArg (C.int _) ?_); decide))) ?_)) (by repeat' first | exact lessE.nil | (refine lessE.keep (by first | rfl | (rfl)) ?_) | refine lessE.skip ?_))⟩) | focus (exact ⟨2, by omega, by omega, by (exact Less.of (by repeat' first | exact lessL.nil | refine lessL.skip ?_ | (refine lessL.keep (by first | rfl | ((refine congrArg V.c (congrArg (C.int _) ?_); decide))) ?_)) (by repeat' first | exact lessE.nil | (refine lessE.keep (by first | rfl | (rfl)) ?_) | refine lessE.skip ?_))⟩) | focus (exact ⟨3, by omega, by omega, by (exact Less.of (by repeat' first | exact lessL.nil | refine lessL.skip ?_ | (refine lessL.keep (by first | rfl | ((refine congrArg V.c (congrArg (C.int _) ?_); decide))) ?_)) (by repeat' first | exact lessE.nil | (refine lessE.keep (by first | rfl | (rfl)) ?_) | refine lessE.skip ?_))⟩) | focus (exact ⟨4, by omega, by omega, by (exact Less.of (by repeat' first | exact lessL.nil | refine lessL.skip ?_ | (refine lessL.keep (by first | rfl | ((refine congrArg V.c (congrArg (C.int _) ?_); decide))) ?_)) (by repeat' first | exact lessE.nil | (refine lessE.keep (by first | rfl | (rfl)) ?_) | refine lessE.skip ?_))⟩) | focus (exact ⟨5, by omega, by omega, by (exact Less.of (by repeat' first | exact lessL.nil | refine lessL.skip ?_ | (refine lessL.keep (by first | rfl | ((refine congrArg V.c (congrArg (C.int _) ?_); decide))) ?_)) (by repeat' first | exact lessE.nil | (refine lessE.keep (by first | rfl | (rfl)) ?_) | refine lessE.skip ?_))⟩))

end Go.PL
