/- The invariant of the seat's worlds; the library's contracts as contracts of this logic. -/
import Derived.Test.YtkbcgcmklmelbaaDoorPlNum
import Derived.Test.YtkbcgcmklmelbaaDoorNumTy
import Derived.Test.YtkbcgcmklmelbaaDoorShelf
namespace Go.PL
open Go Go.RowKit Go.Proofs

theorem follows : Tryd.prog.follows .mixedOrders = true := by kernel_rfl
def I1 (w : World) : Prop := Lib.TabIs Tryd.prog w "internal/strconv.uint64pow10" .u64 Lib.pow10Tab ∧
  (∃ tp p, w.var? Tryd.prog "strconv.ErrSyntax" = some #[.iface tp p]) ∧ (∃ tp p, w.var? Tryd.prog "strconv.ErrRange" = some #[.iface tp p])
theorem var_stable {P : Program} {w w' : World} {n : String} {cs : Array Value} (h2 : ∀ b, b < w.heap.size → w'.heap[b]? = w.heap[b]?) (h : w.var? P n = some cs) : w'.var? P n = some cs := by
  unfold World.var? at h ⊢
  cases hg : P.globalNamed n with
  | none => rw [hg] at h; cases h
  | some g =>
    rw [hg] at h
    simp only [Option.bind_some] at h ⊢
    by_cases hlt : g < w.heap.size
    · rw [h2 g hlt]; exact h
    · rw [Array.getElem?_eq_none (by omega)] at h; cases h
theorem I1_stable : Stable I1 := fun w w' h _ h2 => by
  obtain ⟨a, ⟨tp, p, b⟩, ⟨tq, q, c⟩⟩ := h
  exact ⟨var_stable h2 a, ⟨tp, p, var_stable h2 b⟩, ⟨tq, q, var_stable h2 c⟩⟩

theorem args_one {w : World} {G : Ctx} {x : V} {vs : Array Value} (h : RelVs w G [x] vs.toList) : ∃ v, vs = #[v] ∧ RelV w G x v := by
  simp only [RelVs] at h
  obtain ⟨v, r, h1, h2, rfl⟩ := h
  refine ⟨v, ?_, h2⟩
  apply Array.ext'
  exact h1

theorem itoa29 (n : Int) (h0 : -9223372036854775808 ≤ n) (h1 : n ≤ 9223372036854775807) : PCall Tryd.prog I1 29 [.c (.int .i64 n)] (· = .c (.str (Lib.itoa n))) := by
  refine ⟨by kernel_rfl, fun w vs av hI hav hr => ?_⟩
  obtain ⟨v, rfl, hv⟩ := args_one hr
  simp only [RelV, RelC] at hv
  subst hv
  refine (Tryd.strconv_Itoa n h0 h1 w hI.1).mono fun e w' ⟨he, k, os, hw⟩ => ?_
  subst hw
  refine ⟨_, _, he, rfl, rfl, ?_, ?_⟩
  · simp only [RelV, RelC]
  · refine ⟨rfl, rfl, rfl, by simp [Sort.grow], fun i hi => ?_⟩
    show ((w.drewN k).heap ++ os)[i]? = _
    rw [Array.getElem?_append_left (by show i < w.heap.size; omega)]
    rfl

theorem atoi28_ok (s : List UInt8) (hs : s.length ≤ 281474976710656) (v : Int) (h : Lib.atoiAll s = .ok v) : PCall Tryd.prog I1 28 [.c (.str s)] (· = .tup [.c (.int .i64 v), .c .niface]) := by
  refine ⟨by kernel_rfl, fun w vs av hI hav hr => ?_⟩
  obtain ⟨x, rfl, hv⟩ := args_one hr
  simp only [RelV, RelC] at hv
  subst hv
  refine (Tryd.strconv_Atoi_ok ⟨s.toArray⟩ (by simp [ByteArray.size]; omega) v h w).mono fun e w' ⟨he, hw⟩ => ?_
  refine ⟨_, _, he, rfl, rfl, ?_, ?_⟩
  · simp only [RelV]
    exact ⟨_, rfl, by simp only [RelVs]; exact ⟨_, _, rfl, by simp only [RelV, RelC], _, _, rfl, by simp only [RelV, RelC], rfl⟩⟩
  · rcases hw with rfl | ⟨t, rfl⟩
    · exact Below.refl _ _
    · exact Lib.bytesWorld_below _ _ _
theorem atoiSat_bd (s : List UInt8) : -9223372036854775808 ≤ Lib.atoiSat s ∧ Lib.atoiSat s ≤ 9223372036854775807 := by unfold Lib.atoiSat; split <;> omega
theorem atoi28_bad (s : List UInt8) (hs : s.length ≤ 281474976710656) (h : ∀ v, Lib.atoiAll s ≠ .ok v) :
    ∃ n : Int, -9223372036854775808 ≤ n ∧ n ≤ 9223372036854775807 ∧ PCall Tryd.prog I1 28 [.c (.str s)] (· = .tup [.c (.int .i64 n), .c .held]) := by
  rcases h1 : Lib.atoiAll s with v | _ | _
  · exact absurd h1 (h v)
  · refine ⟨0, by omega, by omega, by kernel_rfl, fun w vs av hI hav hr => ?_⟩
    obtain ⟨x, rfl, hv⟩ := args_one hr
    simp only [RelV, RelC] at hv
    subst hv
    obtain ⟨tp, p, hvar⟩ := hI.2.1
    refine (Any.strconv_Atoi_syntax_var Tryd.laysC172 ⟨s.toArray⟩ (by simp [ByteArray.size]; omega) h1 tp p w hvar).mono fun e w' ⟨N, he, _, _, hw⟩ => ?_
    refine ⟨_, _, he, rfl, rfl, ?_, hw⟩
    simp only [RelV]
    exact ⟨_, rfl, by simp only [RelVs]; exact ⟨_, _, rfl, by simp only [RelV, RelC], _, _, rfl, by simp only [RelV, RelC]; exact ⟨_, _, rfl⟩, rfl⟩⟩
  · refine ⟨Lib.atoiSat s, (atoiSat_bd s).1, (atoiSat_bd s).2, by kernel_rfl, fun w vs av hI hav hr => ?_⟩
    obtain ⟨x, rfl, hv⟩ := args_one hr
    simp only [RelV, RelC] at hv
    subst hv
    obtain ⟨tp, p, hvar⟩ := hI.2.2
    refine (Any.strconv_Atoi_range_var Tryd.laysC172 ⟨s.toArray⟩ (by simp [ByteArray.size]; omega) h1 tp p w hvar).mono fun e w' ⟨N, he, _, _, hw⟩ => ?_
    refine ⟨_, _, he, rfl, rfl, ?_, hw⟩
    simp only [RelV]
    exact ⟨_, rfl, by simp only [RelVs]; exact ⟨_, _, rfl, by simp only [RelV, RelC], _, _, rfl, by simp only [RelV, RelC]; exact ⟨_, _, rfl⟩, rfl⟩⟩
end Go.PL
