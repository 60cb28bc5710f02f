/- Contracts of the bits. -/
import Derived.Test.YtkbcgcmklmelbaaDoorPlNumA
namespace Go.PL
open Go Go.RowKit Go.Proofs
attribute [local irreducible] Holds wpOps wqOps thenQ blockQ
set_option maxRecDepth 10000
set_option linter.unusedSimpArgs false
def bitL (m : Int) : Nat → List Int
  | 0 => []
  | i + 1 => bitL m i ++ if (m / 2 ^ i) % 2 = 1 then [(i : Int)] else []
theorem bitL_len (m : Int) : ∀ i, (bitL m i).length ≤ i
  | 0 => by simp [bitL]
  | i + 1 => by have := bitL_len m i; simp only [bitL, List.length_append]; split <;> simp <;> omega
def bitsS (m : Int) : List Int := if m < 0 then [] else bitL m 31
theorem bAnd_one (a : Int) : bAnd .i64 a 1 = a % 2 := by
  unfold bAnd
  have h1 : (BitVec.ofInt IntKind.i64.bits a &&& BitVec.ofInt IntKind.i64.bits 1).toNat = (BitVec.ofInt 64 a).toNat % 2 := by
    rw [BitVec.toNat_and]; exact Nat.and_one_is_mod _
  rw [h1, BitVec.toNat_ofInt, wrap_small _ (by omega)]
  omega
theorem shr_small (m : Int) (i : Nat) (h : (i : Int) < 31) : m.fdiv (2 ^ min i 64) = m / 2 ^ i := by
  rw [Int.fdiv_eq_ediv_of_nonneg _ (by exact Int.pow_nonneg (by omega))]
  congr 2
  omega
theorem pow_pos {m : Int} {i : Nat} (h : 0 < m / 2 ^ i) : 0 ≤ m := by
  have hp : (0 : Int) < 2 ^ i := Int.pow_pos (by omega)
  by_cases hm : 0 ≤ m
  · exact hm
  · have := Int.ediv_neg_of_neg_of_pos (a := m) (b := 2 ^ i) (by omega) hp
    omega
theorem rem_pos {m : Int} {i : Nat} (h : 0 < m / 2 ^ i) : (m / 2 ^ i).tmod 2 = (m / 2 ^ i) % 2 := Int.tmod_eq_emod_of_nonneg (by omega)
theorem half_pow {m : Int} {i : Nat} (h : 0 < m / 2 ^ i) (hm : m ≤ 9223372036854775807) : IntKind.i64.wrap ((m / 2 ^ i).tdiv 2) = m / 2 ^ (i + 1) := by
  have hp : (0 : Int) < 2 ^ i := Int.pow_pos (by omega)
  have hle : m / 2 ^ i ≤ m := Int.ediv_le_self _ (pow_pos h)
  rw [Int.tdiv_eq_ediv_of_nonneg (by omega), wrap_small _ (by omega), Int.pow_succ, Int.ediv_ediv_of_nonneg (by omega)]
theorem bitL_stop {m : Int} (hm : 0 ≤ m) {i : Nat} (h : m / 2 ^ i = 0) : ∀ j, bitL m (i + j) = bitL m i
  | 0 => rfl
  | j + 1 => by
    have hz : m / 2 ^ (i + j) = 0 := by
      rw [Int.pow_add, ← Int.ediv_ediv_of_nonneg (Int.pow_nonneg (by omega)), h]; simp
    rw [show i + (j + 1) = i + j + 1 from rfl, bitL, hz, bitL_stop hm h j]; simp
theorem bits_stop {m : Int} {i : Nat} (h1 : i ≤ 31) (h2 : m < 0 → i = 0) (h3 : (i : Int) < 31 → m / 2 ^ i ≤ 0) : C.sl (bitL m i).length ((bitL m i).map (C.int .i64)) = C.sl (bitsS m).length ((bitsS m).map (C.int .i64)) := by
  have : bitsS m = bitL m i := by
    unfold bitsS
    split
    · rename_i h; rw [h2 h]; rfl
    · rename_i h
      by_cases hi : i = 31
      · rw [hi]
      · have h4 := h3 (by omega)
        have h5 : 0 ≤ m / 2 ^ i := Int.ediv_nonneg (by omega) (Int.pow_nonneg (by omega))
        have := bitL_stop (m := m) (by omega) (i := i) (by omega) (31 - i)
        rw [show i + (31 - i) = 31 by omega] at this
        exact this
  rw [this]
theorem bits9 (m : Int) : PCall Tryd.prog I1 9 [.c (.int .i64 m)] (· = .c (.sl (bitsS m).length ((bitsS m).map (C.int .i64)))) := by
  refine PCall.body I1_stable (by kernel_rfl) Tryd.func9 rfl Tryd.ntmps9 (rs := [.tmp 2]) rfl (by simp only [go_sem]; rfl) ?_
  intro w0 av old
  repeat' (first
    | refine Holds.seq ?_
    | refine Holds.run ?_
    | refine Holds.runQ follows (by kernel_rfl) ?_
    | refine Run.nil ?_
    | refine RunQ.nil ?_
    | refine thenQ.normal ?_
    | refine thenQ.ret ?_
    | refine thenQ.exit ?_
    | refine blockQ.normal ?_
    | refine blockQ.ret ?_
    | refine blockQ.out ?_
    | refine blockQ.on rfl ?_
    | refine Holds.block ?_
    | refine Holds.ret ?_
    | refine Holds.skip ?_
    | refine Holds.exit ?_
    | (apply Run.rd; rfl; (simp only [go_sem]; rfl); (first | trivial | omega | focus (simp; done) | focus (simp; omega) | (have := bitL_len m i; simp only [maxLen] at *; omega)); (simp only [go_sem]; rfl))
    | (apply Run.ef; rfl; (simp only [go_sem]; rfl); (first | trivial | omega | focus (simp; done) | focus (simp; omega) | (have := bitL_len m i; simp only [maxLen] at *; omega)))
    | (apply Run.cut; rfl; (simp only [go_sem]; rfl); (simp only [go_sem]; rfl); (first | trivial | omega | focus (simp; done) | focus (simp; omega) | (have := bitL_len m i; simp only [maxLen] at *; omega)); (simp only [go_sem]; rfl))
    | (apply Run.rdg; (simp only [go_sem]; rfl); rfl; (simp only [go_sem]; rfl); (intro hg; first | trivial | omega | focus (simp [hg]; done) | focus (simp [hg]; omega) | focus (simp only [hg, tt_tt, imp_tt, imp_self, true_and]; first | omega | (have := bitL_len m i; simp only [maxLen] at *; omega)) | focus (simp_all; done) | (have := bitL_len m i; simp only [maxLen] at *; omega)); (simp only [go_sem]; rfl))
    | (apply RunQ.rd; rfl; (simp only [go_sem]; rfl); (first | trivial | omega | focus (simp; done) | focus (simp; omega) | (have := bitL_len m i; simp only [maxLen] at *; omega)); (simp only [go_sem]; rfl))
    | (apply RunQ.cut; rfl; (simp only [go_sem]; rfl); (first | trivial | omega | focus (simp; done) | focus (simp; omega) | (have := bitL_len m i; simp only [maxLen] at *; omega)); (simp only [go_sem]; rfl))
    | (apply RunQ.rdg; (simp only [go_sem]; rfl); rfl; (simp only [go_sem]; rfl); (intro hg; first | trivial | omega | focus (simp [hg]; done) | focus (simp [hg]; omega) | focus (simp only [hg, tt_tt, imp_tt, imp_self, true_and]; first | omega | (have := bitL_len m i; simp only [maxLen] at *; omega)) | focus (simp_all; done) | (have := bitL_len m i; simp only [maxLen] at *; omega)); (simp only [go_sem]; rfl))
    | (apply RunQ.cutg; (simp only [go_sem]; rfl); rfl; (simp only [go_sem]; rfl); (intro hg; first | trivial | omega | focus (simp [hg]; done) | focus (simp [hg]; omega) | focus (simp only [hg, tt_tt, imp_tt, imp_self, true_and]; first | omega | (have := bitL_len m i; simp only [maxLen] at *; omega)) | focus (simp_all; done) | (have := bitL_len m i; simp only [maxLen] at *; omega)); (simp only [go_sem]; rfl))
    | (apply Holds.cond; (simp only [go_sem]; rfl); all_goals intro hb; all_goals try (refine absurd hb ?_; decide)))
  all_goals (first | focus (refine Holds.loop (X := Nat) (fun i => ⟨[.c (.int .i64 m), .undef, .undef, .c (.osl [3]), .undef, .undef, .undef, .undef, .c (.int .i64 (i : Int)), .undef, .undef, .undef, .undef, .undef, .undef, .undef, .undef, .undef, .undef, .undef, .undef, .undef], [⟨[3], some (3, 1, (bitL m i).length), (bitL m i).map (C.int .i64)⟩]⟩) (fun i => i ≤ 31) (fun i => 31 - i) 0 (by omega) (by (exact Less.of (by repeat' first | exact lessL.nil | refine lessL.skip ?_ | (refine lessL.keep (by first | rfl | (rfl)) ?_)) (by repeat' first | exact lessE.nil | (refine lessE.keep (by first | rfl | (rfl)) ?_) | refine lessE.skip ?_))) ?_; intro i hx) | skip)
  repeat' (first
    | refine Holds.seq ?_
    | refine Holds.run ?_
    | refine Holds.runQ follows (by kernel_rfl) ?_
    | refine Run.nil ?_
    | refine RunQ.nil ?_
    | refine thenQ.normal ?_
    | refine thenQ.ret ?_
    | refine thenQ.exit ?_
    | refine blockQ.normal ?_
    | refine blockQ.ret ?_
    | refine blockQ.out ?_
    | refine blockQ.on rfl ?_
    | refine Holds.block ?_
    | refine Holds.ret ?_
    | refine Holds.skip ?_
    | refine Holds.exit ?_
    | (apply Run.rd; rfl; (simp only [go_sem]; rfl); (first | trivial | omega | focus (simp; done) | focus (simp; omega) | (have := bitL_len m i; simp only [maxLen] at *; omega)); (simp only [go_sem]; rfl))
    | (apply Run.ef; rfl; (simp only [go_sem]; rfl); (first | trivial | omega | focus (simp; done) | focus (simp; omega) | (have := bitL_len m i; simp only [maxLen] at *; omega)))
    | (apply Run.cut; rfl; (simp only [go_sem]; rfl); (simp only [go_sem]; rfl); (first | trivial | omega | focus (simp; done) | focus (simp; omega) | (have := bitL_len m i; simp only [maxLen] at *; omega)); (simp only [go_sem]; rfl))
    | (apply Run.rdg; (simp only [go_sem]; rfl); rfl; (simp only [go_sem]; rfl); (intro hg; first | trivial | omega | focus (simp [hg]; done) | focus (simp [hg]; omega) | focus (simp only [hg, tt_tt, imp_tt, imp_self, true_and]; first | omega | (have := bitL_len m i; simp only [maxLen] at *; omega)) | focus (simp_all; done) | (have := bitL_len m i; simp only [maxLen] at *; omega)); (simp only [go_sem]; rfl))
    | (apply RunQ.rd; rfl; (simp only [go_sem]; rfl); (first | trivial | omega | focus (simp; done) | focus (simp; omega) | (have := bitL_len m i; simp only [maxLen] at *; omega)); (simp only [go_sem]; rfl))
    | (apply RunQ.cut; rfl; (simp only [go_sem]; rfl); (first | trivial | omega | focus (simp; done) | focus (simp; omega) | (have := bitL_len m i; simp only [maxLen] at *; omega)); (simp only [go_sem]; rfl))
    | (apply RunQ.rdg; (simp only [go_sem]; rfl); rfl; (simp only [go_sem]; rfl); (intro hg; first | trivial | omega | focus (simp [hg]; done) | focus (simp [hg]; omega) | focus (simp only [hg, tt_tt, imp_tt, imp_self, true_and]; first | omega | (have := bitL_len m i; simp only [maxLen] at *; omega)) | focus (simp_all; done) | (have := bitL_len m i; simp only [maxLen] at *; omega)); (simp only [go_sem]; rfl))
    | (apply RunQ.cutg; (simp only [go_sem]; rfl); rfl; (simp only [go_sem]; rfl); (intro hg; first | trivial | omega | focus (simp [hg]; done) | focus (simp [hg]; omega) | focus (simp only [hg, tt_tt, imp_tt, imp_self, true_and]; first | omega | (have := bitL_len m i; simp only [maxLen] at *; omega)) | focus (simp_all; done) | (have := bitL_len m i; simp only [maxLen] at *; omega)); (simp only [go_sem]; rfl))
    | (apply Holds.cond; (simp only [go_sem]; rfl); all_goals intro hb; all_goals try (refine absurd hb ?_; decide)))
  all_goals (first | focus (refine ⟨i + 1, by simp at *; omega, by simp at *; omega, by (exact Less.of (by repeat' first | exact lessL.nil | refine lessL.skip ?_ | (refine lessL.keep (by first | rfl | ((refine congrArg V.c (congrArg (C.int _) ?_); first | rfl | (rw [wrap_small _ (by omega)]; omega)))) ?_)) (by repeat' first | exact lessE.nil | (refine lessE.keep (by first | rfl | ((refine ent_eq ?_ ?_ <;> simp_all [bitL, bAnd_one, shr_small]; done))) ?_) | refine lessE.skip ?_))⟩) | skip)
  all_goals (first | focus (refine ⟨by first | exact .inl rfl | exact .inr rfl, ?_⟩; simp only [go_sem]; simp only [decide_eq_true_eq, decide_eq_false_iff_not] at *; first | focus (simp_all [bitsS]; done) | focus (have hi : i = 31 := (by omega); subst hi; simp [bitsS, *]; done)))

theorem bits10 (m : Int) (hm : m ≤ 9223372036854775807) : PCall Tryd.prog I1 10 [.c (.int .i64 m)] (· = .c (.sl (bitsS m).length ((bitsS m).map (C.int .i64)))) := by
  refine PCall.body I1_stable (by kernel_rfl) Tryd.func10 rfl Tryd.ntmps10 (rs := [.tmp 2]) rfl (by simp only [go_sem]; rfl) ?_
  intro w0 av old
  repeat' (first
    | refine Holds.seq ?_
    | refine Holds.run ?_
    | refine Holds.runQ follows (by kernel_rfl) ?_
    | refine Run.nil ?_
    | refine RunQ.nil ?_
    | refine thenQ.normal ?_
    | refine thenQ.ret ?_
    | refine thenQ.exit ?_
    | refine blockQ.normal ?_
    | refine blockQ.ret ?_
    | refine blockQ.out ?_
    | refine blockQ.on rfl ?_
    | refine Holds.block ?_
    | refine Holds.ret ?_
    | refine Holds.skip ?_
    | refine Holds.exit ?_
    | (apply Run.rd; rfl; (simp only [go_sem]; rfl); (first | trivial | omega | focus (simp; done) | focus (simp; omega) | (have := bitL_len m i; simp only [maxLen] at *; omega)); (simp only [go_sem]; rfl))
    | (apply Run.ef; rfl; (simp only [go_sem]; rfl); (first | trivial | omega | focus (simp; done) | focus (simp; omega) | (have := bitL_len m i; simp only [maxLen] at *; omega)))
    | (apply Run.cut; rfl; (simp only [go_sem]; rfl); (simp only [go_sem]; rfl); (first | trivial | omega | focus (simp; done) | focus (simp; omega) | (have := bitL_len m i; simp only [maxLen] at *; omega)); (simp only [go_sem]; rfl))
    | (apply Run.rdg; (simp only [go_sem]; rfl); rfl; (simp only [go_sem]; rfl); (intro hg; first | trivial | omega | focus (simp [hg]; done) | focus (simp [hg]; omega) | focus (simp only [hg, tt_tt, imp_tt, imp_self, true_and]; first | omega | (have := bitL_len m i; simp only [maxLen] at *; omega)) | focus (simp_all; done) | (have := bitL_len m i; simp only [maxLen] at *; omega)); (simp only [go_sem]; rfl))
    | (apply RunQ.rd; rfl; (simp only [go_sem]; rfl); (first | trivial | omega | focus (simp; done) | focus (simp; omega) | (have := bitL_len m i; simp only [maxLen] at *; omega)); (simp only [go_sem]; rfl))
    | (apply RunQ.cut; rfl; (simp only [go_sem]; rfl); (first | trivial | omega | focus (simp; done) | focus (simp; omega) | (have := bitL_len m i; simp only [maxLen] at *; omega)); (simp only [go_sem]; rfl))
    | (apply RunQ.rdg; (simp only [go_sem]; rfl); rfl; (simp only [go_sem]; rfl); (intro hg; first | trivial | omega | focus (simp [hg]; done) | focus (simp [hg]; omega) | focus (simp only [hg, tt_tt, imp_tt, imp_self, true_and]; first | omega | (have := bitL_len m i; simp only [maxLen] at *; omega)) | focus (simp_all; done) | (have := bitL_len m i; simp only [maxLen] at *; omega)); (simp only [go_sem]; rfl))
    | (apply RunQ.cutg; (simp only [go_sem]; rfl); rfl; (simp only [go_sem]; rfl); (intro hg; first | trivial | omega | focus (simp [hg]; done) | focus (simp [hg]; omega) | focus (simp only [hg, tt_tt, imp_tt, imp_self, true_and]; first | omega | (have := bitL_len m i; simp only [maxLen] at *; omega)) | focus (simp_all; done) | (have := bitL_len m i; simp only [maxLen] at *; omega)); (simp only [go_sem]; rfl))
    | (apply Holds.cond; (simp only [go_sem]; rfl); all_goals intro hb; all_goals try (refine absurd hb ?_; decide)))
  all_goals (first | focus (refine Holds.loop (X := Nat) (fun i => ⟨[.c (.int .i64 (m / 2 ^ i)), .undef, .undef, .c (.osl [3]), .c (.int .i64 (i : Int)), .undef, .undef, .undef, .undef, .undef, .undef, .undef, .undef, .undef, .undef, .undef, .undef, .undef, .undef, .undef, .undef, .undef, .undef], [⟨[3], some (3, 1, (bitL m i).length), (bitL m i).map (C.int .i64)⟩]⟩) (fun i => i ≤ 31 ∧ (m < 0 → i = 0)) (fun i => 31 - i) 0 (by omega) (by (exact Less.of (by repeat' first | exact lessL.nil | refine lessL.skip ?_ | (refine lessL.keep (by first | rfl | ((simp; done))) ?_)) (by repeat' first | exact lessE.nil | (refine lessE.keep (by first | rfl | (rfl)) ?_) | refine lessE.skip ?_))) ?_; intro i hx) | skip)
  repeat' (first
    | refine Holds.seq ?_
    | refine Holds.run ?_
    | refine Holds.runQ follows (by kernel_rfl) ?_
    | refine Run.nil ?_
    | refine RunQ.nil ?_
    | refine thenQ.normal ?_
    | refine thenQ.ret ?_
    | refine thenQ.exit ?_
    | refine blockQ.normal ?_
    | refine blockQ.ret ?_
    | refine blockQ.out ?_
    | refine blockQ.on rfl ?_
    | refine Holds.block ?_
    | refine Holds.ret ?_
    | refine Holds.skip ?_
    | refine Holds.exit ?_
    | (apply Run.rd; rfl; (simp only [go_sem]; rfl); (first | trivial | omega | focus (simp; done) | focus (simp; omega) | (have := bitL_len m i; simp only [maxLen] at *; omega)); (simp only [go_sem]; rfl))
    | (apply Run.ef; rfl; (simp only [go_sem]; rfl); (first | trivial | omega | focus (simp; done) | focus (simp; omega) | (have := bitL_len m i; simp only [maxLen] at *; omega)))
    | (apply Run.cut; rfl; (simp only [go_sem]; rfl); (simp only [go_sem]; rfl); (first | trivial | omega | focus (simp; done) | focus (simp; omega) | (have := bitL_len m i; simp only [maxLen] at *; omega)); (simp only [go_sem]; rfl))
    | (apply Run.rdg; (simp only [go_sem]; rfl); rfl; (simp only [go_sem]; rfl); (intro hg; first | trivial | omega | focus (simp [hg]; done) | focus (simp [hg]; omega) | focus (simp only [hg, tt_tt, imp_tt, imp_self, true_and]; first | omega | (have := bitL_len m i; simp only [maxLen] at *; omega)) | focus (simp_all; done) | (have := bitL_len m i; simp only [maxLen] at *; omega)); (simp only [go_sem]; rfl))
    | (apply RunQ.rd; rfl; (simp only [go_sem]; rfl); (first | trivial | omega | focus (simp; done) | focus (simp; omega) | (have := bitL_len m i; simp only [maxLen] at *; omega)); (simp only [go_sem]; rfl))
    | (apply RunQ.cut; rfl; (simp only [go_sem]; rfl); (first | trivial | omega | focus (simp; done) | focus (simp; omega) | (have := bitL_len m i; simp only [maxLen] at *; omega)); (simp only [go_sem]; rfl))
    | (apply RunQ.rdg; (simp only [go_sem]; rfl); rfl; (simp only [go_sem]; rfl); (intro hg; first | trivial | omega | focus (simp [hg]; done) | focus (simp [hg]; omega) | focus (simp only [hg, tt_tt, imp_tt, imp_self, true_and]; first | omega | (have := bitL_len m i; simp only [maxLen] at *; omega)) | focus (simp_all; done) | (have := bitL_len m i; simp only [maxLen] at *; omega)); (simp only [go_sem]; rfl))
    | (apply RunQ.cutg; (simp only [go_sem]; rfl); rfl; (simp only [go_sem]; rfl); (intro hg; first | trivial | omega | focus (simp [hg]; done) | focus (simp [hg]; omega) | focus (simp only [hg, tt_tt, imp_tt, imp_self, true_and]; first | omega | (have := bitL_len m i; simp only [maxLen] at *; omega)) | focus (simp_all; done) | (have := bitL_len m i; simp only [maxLen] at *; omega)); (simp only [go_sem]; rfl))
    | (apply Holds.cond; (simp only [go_sem]; rfl); all_goals intro hb; all_goals try (refine absurd hb ?_; decide)))
  all_goals (first | focus (refine ⟨i + 1, by simp only [Bool.and_eq_true, decide_eq_true_eq] at *; have := pow_pos (m := m) (i := i) (by simp_all); omega, by simp at *; omega, by (exact Less.of (by repeat' first | exact lessL.nil | refine lessL.skip ?_ | (refine lessL.keep (by first | rfl | ((first | focus (refine congrArg V.c (congrArg (C.int _) ?_); rw [wrap_small _ (by omega)]; omega) | focus (simp; done) | focus (refine congrArg V.c (congrArg (C.int _) ?_); exact half_pow (by simp_all) hm)))) ?_)) (by repeat' first | exact lessE.nil | (refine lessE.keep (by first | rfl | ((refine ent_eq ?_ ?_ <;> simp_all [bitL, rem_pos]; done))) ?_) | refine lessE.skip ?_))⟩) | skip)
  all_goals (first | focus (refine ⟨by first | exact .inl rfl | exact .inr rfl, ?_⟩; simp only [go_sem]; refine congrArg V.c ?_; rw [bits_stop hx.1 hx.2 (by simp_all)]; done))

end Go.PL
