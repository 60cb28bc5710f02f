/- Functions of the program, as partial functions in Lean, with proofs. -/
import Derived.Test.YtieikooalmfmfaaDoorPlRtoPlPd
import Derived.Test.YtieikooalmfmfaaDoorRows
import Derived.Test.YtieikooalmfmfaaDoorPlShelf
import Derived.Test.YtieikooalmfmfaaDoorPlIa
namespace Go.PL
open Go Go.RowKit Go.Proofs
set_option maxRecDepth 100000
set_option linter.all false
set_option maxHeartbeats 1000000
theorem followsP : Tryd.prog.follows .mixedOrders = true := by kernel_rfl
def I0 (w : World) : Prop := Lib.TabIs Tryd.prog w "internal/strconv.uint64pow10" .u64 Lib.pow10Tab ∧
  (∃ tp p, w.var? Tryd.prog "strconv.ErrSyntax" = some #[.iface tp p]) ∧ (∃ tp p, w.var? Tryd.prog "strconv.ErrRange" = some #[.iface tp p])
theorem var_stable {P : Program} {w w' : World} {n : String} {cs : Array Value} (h2 : ∀ b, b < w.heap.size → w'.heap[b]? = w.heap[b]?) (h : w.var? P n = some cs) : w'.var? P n = some cs := by
  unfold World.var? at h ⊢
  cases hg : P.globalNamed n with
  | none => rw [hg] at h; cases h
  | some g =>
    rw [hg] at h
    simp only [Option.bind_some] at h ⊢
    by_cases hlt : g < w.heap.size
    · rw [h2 g hlt]; exact h
    · rw [Array.getElem?_eq_none (by omega)] at h; cases h
theorem I0_stable : Stable I0 := fun w w' h _ h2 => by
  obtain ⟨a, ⟨tp, p, b⟩, ⟨tq, q, c⟩⟩ := h
  exact ⟨var_stable h2 a, ⟨tp, p, var_stable h2 b⟩, ⟨tq, q, var_stable h2 c⟩⟩
def dItoa (n : Int) : Option (List UInt8) := if -9223372036854775808 ≤ n ∧ n ≤ 9223372036854775807 then some (Lib.itoa n) else none
theorem okItoa {n : Int} {r : List UInt8} (h : dItoa n = some r) : PCall Tryd.prog I0 70 [vI n] (· = vS r) := by
  unfold dItoa at h
  split at h
  · rename_i hb
    injection h with h; subst h
    refine ⟨by kernel_rfl, fun w vs av hI hav hr => ?_⟩
    simp only [RelVs] at hr
    obtain ⟨v, r, h1, h2, rfl⟩ := hr
    obtain rfl : vs = #[v] := Array.ext' h1
    simp only [RelV, RelC] at h2
    subst h2
    refine (Tryd.strconv_Itoa n hb.1 hb.2 w hI.1).mono fun e w' ⟨he, k, os, hw⟩ => ?_
    subst hw
    refine ⟨_, _, he, rfl, rfl, ?_, ?_⟩
    · simp only [RelV, RelC]
    · refine ⟨rfl, rfl, rfl, by simp [Sort.grow], fun i hi => ?_⟩
      show ((w.drewN k).heap ++ os)[i]? = _
      rw [Array.getElem?_append_left (by show i < w.heap.size; omega)]
      rfl
  · cases h
def dRepeat (s : List UInt8) (n : Int) : Option (List UInt8) := if 0 ≤ n ∧ n ≤ 9223372036854775807 ∧ s.length * n.toNat ≤ 140737488355328 then some (Lib.repeatL s n.toNat) else none
theorem okRepeat {s : List UInt8} {n : Int} {r : List UInt8} (h : dRepeat s n = some r) : PCall Tryd.prog I0 47 [vS s, vI n] (· = vS r) := by
  unfold dRepeat at h
  split at h
  · rename_i hb
    injection h with h; subst h
    refine ⟨by kernel_rfl, fun w vs av hI hav hr => ?_⟩
    simp only [RelVs] at hr
    obtain ⟨v, r, h1, h2, u, r2, rfl, h3, rfl⟩ := hr
    obtain rfl : vs = #[v, u] := Array.ext' h1
    simp only [RelV, RelC] at h2 h3
    subst h2 h3
    have hn : (Value.int .i64 n) = .int .i64 (n.toNat : Nat) := by rw [Int.toNat_of_nonneg hb.1]
    rw [hn]
    refine (Tryd.strings_Repeat ⟨s.toArray⟩ n.toNat w (by omega) (by simpa [ByteArray.size] using hb.2.2)).mono fun e w' ⟨he, hw⟩ => ?_
    exact ⟨_, _, he, rfl, rfl, by simp only [RelV, RelC], hw⟩
  · cases h
def dHasPrefix (s p : List UInt8) : Option Bool := some (Lib.hasPrefix s p)
theorem okHasPrefix {s p : List UInt8} {r : Bool} (h : dHasPrefix s p = some r) : PCall Tryd.prog I0 53 [vS s, vS p] (· = vB r) := by
    injection h with h; subst h
    refine ⟨by kernel_rfl, fun w vs av hI hav hr => ?_⟩
    simp only [RelVs] at hr
    obtain ⟨v, r, h1, h2, u, r2, rfl, h3, rfl⟩ := hr
    obtain rfl : vs = #[v, u] := Array.ext' h1
    simp only [RelV, RelC] at h2 h3
    subst h2 h3
    refine (Tryd.strings_HasPrefix ⟨s.toArray⟩ ⟨p.toArray⟩ w).mono fun e w' ⟨he, hw⟩ => ?_
    subst hw
    exact ⟨_, _, he, rfl, rfl, by simp only [RelV, RelC], Below.refl _ _⟩
def dIndexByte (s : List UInt8) (c : Int) : Option Int := some (Lib.indexByte s c.toNat.toUInt8)
theorem okIndexByte {s : List UInt8} {c r : Int} (h : dIndexByte s c = some r) : PCall Tryd.prog I0 56 [vS s, .c (.int .u8 c)] (· = vI r) := by
    injection h with h; subst h
    refine ⟨by kernel_rfl, fun w vs av hI hav hr => ?_⟩
    simp only [RelVs] at hr
    obtain ⟨v, r, h1, h2, u, r2, rfl, h3, rfl⟩ := hr
    obtain rfl : vs = #[v, u] := Array.ext' h1
    simp only [RelV, RelC] at h2 h3
    subst h2 h3
    refine (Tryd.strings_IndexByte ⟨s.toArray⟩ c w).mono fun e w' ⟨he, hw⟩ => ?_
    subst hw
    exact ⟨_, _, he, rfl, rfl, by simp only [RelV, RelC], Below.refl _ _⟩
def asciiB (l : List UInt8) : Bool := l.all fun b => decide (b.toNat < 128)
theorem asciiB_get {l : List UInt8} (h : asciiB l = true) (j : Nat) (b : UInt8) (hj : l[j]? = some b) : b.toNat < 128 := by
  have := List.all_eq_true.1 h b (List.mem_of_getElem? hj)
  simpa using this
def dIndexAny (s p : List UInt8) : Option Int := if s.length < 4294967281 ∧ 2 ≤ p.length ∧ p.length ≤ 1000 ∧ asciiB p = true then some (Lib.indexAny s p) else none
theorem okIndexAny {s p : List UInt8} {r : Int} (h : dIndexAny s p = some r) : PCall Tryd.prog I0 54 [vS s, vS p] (· = vI r) := by
  unfold dIndexAny at h
  split at h
  · rename_i hb
    injection h with h; subst h
    refine ⟨by kernel_rfl, fun w vs av hI hav hr => ?_⟩
    simp only [RelVs] at hr
    obtain ⟨v, r, h1, h2, u, r2, rfl, h3, rfl⟩ := hr
    obtain rfl : vs = #[v, u] := Array.ext' h1
    simp only [RelV, RelC] at h2 h3
    subst h2 h3
    have h116 : (Tryd.prog.info? (Tryd.lays153_ren.t 116)).map (fun i => (i.zero, i.size)) = some (some (.agg (Array.replicate 256 (.bool false))), 256) := by kernel_rfl
    refine (indexAny_all Tryd.lays153 (zero_of_info h116).1 (zero_of_info h116).2 ⟨s.toArray⟩ ⟨p.toArray⟩ w (by simpa [ByteArray.size] using hb.1) (by simpa [ByteArray.size] using hb.2.1) (by simpa [ByteArray.size] using hb.2.2.1) (asciiB_get hb.2.2.2)).mono fun e w' ⟨he, hw⟩ => ?_
    exact ⟨_, _, he, rfl, rfl, by simp only [RelV, RelC], hw⟩
  · cases h
def dAtoiV (s : List UInt8) : Option Int := if s.length ≤ 281474976710656 then (match Lib.atoiAll s with
  | .ok v => some v
  | _ => none) else none
def dAtoiB (s : List UInt8) : Option Int := if s.length ≤ 281474976710656 then (match Lib.atoiAll s with
  | .ok _ => none
  | .range => some (Lib.atoiSat s)
  | _ => some 0) else none
theorem okAtoiV {s : List UInt8} {v : Int} (h : dAtoiV s = some v) : PCall Tryd.prog I0 77 [vS s] (· = .tup [vI v, .c .niface]) := by
  unfold dAtoiV at h
  split at h
  · rename_i hs
    split at h
    · rename_i v' hv'
      injection h with h; subst h
      refine ⟨by kernel_rfl, fun w vs av hI hav hr => ?_⟩
      simp only [RelVs] at hr
      obtain ⟨v, r, h1, h2, rfl⟩ := hr
      obtain rfl : vs = #[v] := Array.ext' h1
      simp only [RelV, RelC] at h2
      subst h2
      refine (Tryd.strconv_Atoi_ok ⟨s.toArray⟩ (by simp [ByteArray.size]; omega) v' hv' w).mono fun e w' ⟨he, hw⟩ => ?_
      refine ⟨_, _, he, rfl, rfl, ?_, ?_⟩
      · simp only [RelV]
        exact ⟨_, rfl, by simp only [RelVs]; exact ⟨_, _, rfl, by simp only [RelV, RelC], _, _, rfl, by simp only [RelV, RelC], rfl⟩⟩
      · rcases hw with rfl | ⟨t, rfl⟩
        · exact Below.refl _ _
        · exact Lib.bytesWorld_below _ _ _
    · cases h
  · cases h
theorem okAtoiB {s : List UInt8} {n : Int} (h : dAtoiB s = some n) : PCall Tryd.prog I0 77 [vS s] (· = .tup [vI n, .c .held]) := by
  unfold dAtoiB at h
  split at h
  · rename_i hs
    rcases h1' : Lib.atoiAll s with v | _ | _
    · rw [h1'] at h; cases h
    · rw [h1'] at h; injection h with h; subst h
      refine ⟨by kernel_rfl, fun w vs av hI hav hr => ?_⟩
      simp only [RelVs] at hr
      obtain ⟨v, r, h1, h2, rfl⟩ := hr
      obtain rfl : vs = #[v] := Array.ext' h1
      simp only [RelV, RelC] at h2
      subst h2
      obtain ⟨tp, p, hvar⟩ := hI.2.1
      refine (Any.strconv_Atoi_syntax_var Tryd.laysC172 ⟨s.toArray⟩ (by simp [ByteArray.size]; omega) h1' tp p w hvar).mono fun e w' ⟨N, he, _, _, hw⟩ => ?_
      refine ⟨_, _, he, rfl, rfl, ?_, hw⟩
      simp only [RelV]
      exact ⟨_, rfl, by simp only [RelVs]; exact ⟨_, _, rfl, by simp only [RelV, RelC], _, _, rfl, by simp only [RelV, RelC]; exact ⟨_, _, rfl⟩, rfl⟩⟩
    · rw [h1'] at h; injection h with h; subst h
      refine ⟨by kernel_rfl, fun w vs av hI hav hr => ?_⟩
      simp only [RelVs] at hr
      obtain ⟨v, r, h1, h2, rfl⟩ := hr
      obtain rfl : vs = #[v] := Array.ext' h1
      simp only [RelV, RelC] at h2
      subst h2
      obtain ⟨tp, p, hvar⟩ := hI.2.2
      refine (Any.strconv_Atoi_range_var Tryd.laysC172 ⟨s.toArray⟩ (by simp [ByteArray.size]; omega) h1' tp p w hvar).mono fun e w' ⟨N, he, _, _, hw⟩ => ?_
      refine ⟨_, _, he, rfl, rfl, ?_, hw⟩
      simp only [RelV]
      exact ⟨_, rfl, by simp only [RelVs]; exact ⟨_, _, rfl, by simp only [RelV, RelC], _, _, rfl, by simp only [RelV, RelC]; exact ⟨_, _, rfl⟩, rfl⟩⟩
  · cases h
structure A5 (α : Type) where
  x0 : α
  x1 : α
  x2 : α
  x3 : α
  x4 : α
  deriving DecidableEq, Inhabited
def A5.l {α : Type} (a : A5 α) : List α := [a.x0, a.x1, a.x2, a.x3, a.x4]
def eA5 {α : Type} (e : α → List C) (a : A5 α) : List C := a.l.flatMap e
def A5.set {α : Type} (a : A5 α) (i : Nat) (v : α) : A5 α := ⟨if i = 0 then v else a.x0, if i = 1 then v else a.x1, if i = 2 then v else a.x2, if i = 3 then v else a.x3, if i = 4 then v else a.x4⟩
theorem A5.l_set {α : Type} (a : A5 α) (i : Nat) (v : α) : (a.set i v).l = a.l.set i v := by
  rcases i with _ | _ | _ | _ | _ | i <;> simp [A5.set, A5.l]
structure A6 (α : Type) where
  x0 : α
  x1 : α
  x2 : α
  x3 : α
  x4 : α
  x5 : α
  deriving DecidableEq, Inhabited
def A6.l {α : Type} (a : A6 α) : List α := [a.x0, a.x1, a.x2, a.x3, a.x4, a.x5]
def eA6 {α : Type} (e : α → List C) (a : A6 α) : List C := a.l.flatMap e
def A6.set {α : Type} (a : A6 α) (i : Nat) (v : α) : A6 α := ⟨if i = 0 then v else a.x0, if i = 1 then v else a.x1, if i = 2 then v else a.x2, if i = 3 then v else a.x3, if i = 4 then v else a.x4, if i = 5 then v else a.x5⟩
theorem A6.l_set {α : Type} (a : A6 α) (i : Nat) (v : α) : (a.set i v).l = a.l.set i v := by
  rcases i with _ | _ | _ | _ | _ | _ | i <;> simp [A6.set, A6.l]
structure SCost where
  Generic : Int
  X : Int
  Color : A5 (Int)
  deriving DecidableEq, Inhabited
def encSCost (x : SCost) : List C := [.int .i64 ((x).Generic), .int .i64 ((x).X), .int .i64 (((x).Color).x0), .int .i64 (((x).Color).x1), .int .i64 (((x).Color).x2), .int .i64 (((x).Color).x3), .int .i64 (((x).Color).x4)]
def dcT31 (cs : List C) : A6 (Int) := (⟨getI (cs.getD 0 .any), getI (cs.getD 1 .any), getI (cs.getD 2 .any), getI (cs.getD 3 .any), getI (cs.getD 4 .any), getI (cs.getD 5 .any)⟩ : A6 (Int))
theorem eqT31 (a b : A6 (Int)) : ceqL (eA6 (eI .i64) a) (eA6 (eI .i64) b) = (a == b) := ceqL_dec (eA6 (eI .i64)) dcT31 (fun _ => rfl) (fun _ => rfl) (fun _ _ => rfl) a b
def dcT34 (cs : List C) : SCost := (⟨getI (cs.getD 0 .any), getI (cs.getD 1 .any), (⟨getI (cs.getD 2 .any), getI (cs.getD 3 .any), getI (cs.getD 4 .any), getI (cs.getD 5 .any), getI (cs.getD 6 .any)⟩ : A5 (Int))⟩ : SCost)
theorem eqT34 (a b : SCost) : ceqL (encSCost a) (encSCost b) = (a == b) := ceqL_dec (encSCost) dcT34 (fun _ => rfl) (fun _ => rfl) (fun _ _ => rfl) a b
def str_XX3R : List UInt8 := [88, 88, 51, 82]
def str_X : List UInt8 := [88]
def str_A : List UInt8 := [65]
def str_ACJRE : List UInt8 := [65, 67, 74, 82, 69]
def str_0 : List UInt8 := [48]
def str_R3 : List UInt8 := [82, 51]
def str_x2d : List UInt8 := [45]
theorem isif91 : isIface Tryd.prog 91 = true := by kernel_rfl
theorem okp31 : okPlc Tryd.prog 31 = true := by kernel_rfl
theorem okp32 : okPlc Tryd.prog 32 = true := by kernel_rfl
theorem okp34 : okPlc Tryd.prog 34 = true := by kernel_rfl
end Go.PL
