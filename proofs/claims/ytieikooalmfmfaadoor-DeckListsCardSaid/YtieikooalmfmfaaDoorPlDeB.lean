/- Functions of the program, as partial functions in Lean, with proofs. -/
import Derived.Test.YtieikooalmfmfaaDoorPlPtoPlPo
import Derived.Test.YtieikooalmfmfaaDoorRows
import Derived.Test.YtieikooalmfmfaaDoorPlShelf
import Derived.Test.YtieikooalmfmfaaDoorPlIa
import Derived.Test.YtieikooalmfmfaaDoorPlPptoPlPd
import Derived.Test.YtieikooalmfmfaaDoorPlDeC
namespace Go.PL
open Go Go.RowKit Go.Proofs
set_option maxRecDepth 100000
set_option linter.all false
set_option maxHeartbeats 1000000
theorem followsP : Tryd.prog.follows .mixedOrders = true := by kernel_rfl
def I0 (w : World) : Prop := Lib.TabIs Tryd.prog w "internal/strconv.uint64pow10" .u64 Lib.pow10Tab ∧
  (∃ tp p, w.var? Tryd.prog "strconv.ErrSyntax" = some #[.iface tp p]) ∧ (∃ tp p, w.var? Tryd.prog "strconv.ErrRange" = some #[.iface tp p])
theorem var_stable {P : Program} {w w' : World} {n : String} {cs : Array Value} (h2 : ∀ b, b < w.heap.size → w'.heap[b]? = w.heap[b]?) (h : w.var? P n = some cs) : w'.var? P n = some cs := by
  unfold World.var? at h ⊢
  cases hg : P.globalNamed n with
  | none => rw [hg] at h; cases h
  | some g =>
    rw [hg] at h
    simp only [Option.bind_some] at h ⊢
    by_cases hlt : g < w.heap.size
    · rw [h2 g hlt]; exact h
    · rw [Array.getElem?_eq_none (by omega)] at h; cases h
theorem I0_stable : Stable I0 := fun w w' h _ h2 => by
  obtain ⟨a, ⟨tp, p, b⟩, ⟨tq, q, c⟩⟩ := h
  exact ⟨var_stable h2 a, ⟨tp, p, var_stable h2 b⟩, ⟨tq, q, var_stable h2 c⟩⟩
def dItoa (n : Int) : Option (List UInt8) := if -9223372036854775808 ≤ n ∧ n ≤ 9223372036854775807 then some (Lib.itoa n) else none
theorem okItoa {n : Int} {r : List UInt8} (h : dItoa n = some r) : PCall Tryd.prog I0 70 [vI n] (· = vS r) := by
  unfold dItoa at h
  split at h
  · rename_i hb
    injection h with h; subst h
    refine ⟨by kernel_rfl, fun w vs av hI hav hr => ?_⟩
    simp only [RelVs] at hr
    obtain ⟨v, r, h1, h2, rfl⟩ := hr
    obtain rfl : vs = #[v] := Array.ext' h1
    simp only [RelV, RelC] at h2
    subst h2
    refine (Tryd.strconv_Itoa n hb.1 hb.2 w hI.1).mono fun e w' ⟨he, k, os, hw⟩ => ?_
    subst hw
    refine ⟨_, _, he, rfl, rfl, ?_, ?_⟩
    · simp only [RelV, RelC]
    · refine ⟨rfl, rfl, rfl, by simp [Sort.grow], fun i hi => ?_⟩
      show ((w.drewN k).heap ++ os)[i]? = _
      rw [Array.getElem?_append_left (by show i < w.heap.size; omega)]
      rfl
  · cases h
def dIndexByte (s : List UInt8) (c : Int) : Option Int := some (Lib.indexByte s c.toNat.toUInt8)
theorem okIndexByte {s : List UInt8} {c r : Int} (h : dIndexByte s c = some r) : PCall Tryd.prog I0 56 [vS s, .c (.int .u8 c)] (· = vI r) := by
    injection h with h; subst h
    refine ⟨by kernel_rfl, fun w vs av hI hav hr => ?_⟩
    simp only [RelVs] at hr
    obtain ⟨v, r, h1, h2, u, r2, rfl, h3, rfl⟩ := hr
    obtain rfl : vs = #[v, u] := Array.ext' h1
    simp only [RelV, RelC] at h2 h3
    subst h2 h3
    refine (Tryd.strings_IndexByte ⟨s.toArray⟩ c w).mono fun e w' ⟨he, hw⟩ => ?_
    subst hw
    exact ⟨_, _, he, rfl, rfl, by simp only [RelV, RelC], Below.refl _ _⟩
def dAtoiV (s : List UInt8) : Option Int := if s.length ≤ 281474976710656 then (match Lib.atoiAll s with
  | .ok v => some v
  | _ => none) else none
def dAtoiB (s : List UInt8) : Option Int := if s.length ≤ 281474976710656 then (match Lib.atoiAll s with
  | .ok _ => none
  | .range => some (Lib.atoiSat s)
  | _ => some 0) else none
theorem okAtoiV {s : List UInt8} {v : Int} (h : dAtoiV s = some v) : PCall Tryd.prog I0 77 [vS s] (· = .tup [vI v, .c .niface]) := by
  unfold dAtoiV at h
  split at h
  · rename_i hs
    split at h
    · rename_i v' hv'
      injection h with h; subst h
      refine ⟨by kernel_rfl, fun w vs av hI hav hr => ?_⟩
      simp only [RelVs] at hr
      obtain ⟨v, r, h1, h2, rfl⟩ := hr
      obtain rfl : vs = #[v] := Array.ext' h1
      simp only [RelV, RelC] at h2
      subst h2
      refine (Tryd.strconv_Atoi_ok ⟨s.toArray⟩ (by simp [ByteArray.size]; omega) v' hv' w).mono fun e w' ⟨he, hw⟩ => ?_
      refine ⟨_, _, he, rfl, rfl, ?_, ?_⟩
      · simp only [RelV]
        exact ⟨_, rfl, by simp only [RelVs]; exact ⟨_, _, rfl, by simp only [RelV, RelC], _, _, rfl, by simp only [RelV, RelC], rfl⟩⟩
      · rcases hw with rfl | ⟨t, rfl⟩
        · exact Below.refl _ _
        · exact Lib.bytesWorld_below _ _ _
    · cases h
  · cases h
theorem okAtoiB {s : List UInt8} {n : Int} (h : dAtoiB s = some n) : PCall Tryd.prog I0 77 [vS s] (· = .tup [vI n, .c .held]) := by
  unfold dAtoiB at h
  split at h
  · rename_i hs
    rcases h1' : Lib.atoiAll s with v | _ | _
    · rw [h1'] at h; cases h
    · rw [h1'] at h; injection h with h; subst h
      refine ⟨by kernel_rfl, fun w vs av hI hav hr => ?_⟩
      simp only [RelVs] at hr
      obtain ⟨v, r, h1, h2, rfl⟩ := hr
      obtain rfl : vs = #[v] := Array.ext' h1
      simp only [RelV, RelC] at h2
      subst h2
      obtain ⟨tp, p, hvar⟩ := hI.2.1
      refine (Any.strconv_Atoi_syntax_var Tryd.laysC172 ⟨s.toArray⟩ (by simp [ByteArray.size]; omega) h1' tp p w hvar).mono fun e w' ⟨N, he, _, _, hw⟩ => ?_
      refine ⟨_, _, he, rfl, rfl, ?_, hw⟩
      simp only [RelV]
      exact ⟨_, rfl, by simp only [RelVs]; exact ⟨_, _, rfl, by simp only [RelV, RelC], _, _, rfl, by simp only [RelV, RelC]; exact ⟨_, _, rfl⟩, rfl⟩⟩
    · rw [h1'] at h; injection h with h; subst h
      refine ⟨by kernel_rfl, fun w vs av hI hav hr => ?_⟩
      simp only [RelVs] at hr
      obtain ⟨v, r, h1, h2, rfl⟩ := hr
      obtain rfl : vs = #[v] := Array.ext' h1
      simp only [RelV, RelC] at h2
      subst h2
      obtain ⟨tp, p, hvar⟩ := hI.2.2
      refine (Any.strconv_Atoi_range_var Tryd.laysC172 ⟨s.toArray⟩ (by simp [ByteArray.size]; omega) h1' tp p w hvar).mono fun e w' ⟨N, he, _, _, hw⟩ => ?_
      refine ⟨_, _, he, rfl, rfl, ?_, hw⟩
      simp only [RelV]
      exact ⟨_, rfl, by simp only [RelVs]; exact ⟨_, _, rfl, by simp only [RelV, RelC], _, _, rfl, by simp only [RelV, RelC]; exact ⟨_, _, rfl⟩, rfl⟩⟩
  · cases h

theorem okIndexByteL {s : List UInt8} {c r : Int} (h : dIndexByte s c = some r) : PCall Tryd.prog I0 78 [vS s, .c (.int .u8 c)] (· = vI r) := by
    injection h with h; subst h
    refine ⟨by kernel_rfl, fun w vs av hI hav hr => ?_⟩
    simp only [RelVs] at hr
    obtain ⟨v, r, h1, h2, u, r2, rfl, h3, rfl⟩ := hr
    obtain rfl : vs = #[v, u] := Array.ext' h1
    simp only [RelV, RelC] at h2 h3
    subst h2 h3
    refine (Tryd.stringslite_IndexByte ⟨s.toArray⟩ c w).mono fun e w' ⟨he, hw⟩ => ?_
    subst hw
    exact ⟨_, _, he, rfl, rfl, by simp only [RelV, RelC], Below.refl _ _⟩
structure A5 (α : Type) where
  x0 : α
  x1 : α
  x2 : α
  x3 : α
  x4 : α
  deriving DecidableEq, Inhabited
def A5.l {α : Type} (a : A5 α) : List α := [a.x0, a.x1, a.x2, a.x3, a.x4]
def A5.set {α : Type} (a : A5 α) (i : Nat) (v : α) : A5 α := ⟨if i = 0 then v else a.x0, if i = 1 then v else a.x1, if i = 2 then v else a.x2, if i = 3 then v else a.x3, if i = 4 then v else a.x4⟩
structure A6 (α : Type) where
  x0 : α
  x1 : α
  x2 : α
  x3 : α
  x4 : α
  x5 : α
  deriving DecidableEq, Inhabited
def A6.l {α : Type} (a : A6 α) : List α := [a.x0, a.x1, a.x2, a.x3, a.x4, a.x5]
def A6.set {α : Type} (a : A6 α) (i : Nat) (v : α) : A6 α := ⟨if i = 0 then v else a.x0, if i = 1 then v else a.x1, if i = 2 then v else a.x2, if i = 3 then v else a.x3, if i = 4 then v else a.x4, if i = 5 then v else a.x5⟩
structure SDeck where
  Cards : List (Int)
  Counts : List (Int)
  deriving DecidableEq, Inhabited
def encSDeck (x : SDeck) : List C := [.sl ((x).Cards).length (((x).Cards).flatMap (eI .i64)), .sl ((x).Counts).length (((x).Counts).flatMap (eI .i64))]
structure SCost where
  Generic : Int
  X : Int
  Color : A5 (Int)
  deriving DecidableEq, Inhabited
structure SLine where
  Super : Int
  Types : Int
  Subs : List (List UInt8)
  deriving DecidableEq, Inhabited
structure SBound where
  Kind : Int
  N : Int
  deriving DecidableEq, Inhabited
structure SFilter where
  Zone : Int
  Who : Int
  Self : Int
  Types : Int
  NotTypes : Int
  Colors : Int
  NotColors : Int
  Sub : List UInt8
  Keys : Int
  Tap : Int
  Power : SBound
  Tough : SBound
  Value : SBound
  deriving DecidableEq, Inhabited
structure SMod where
  Kind : Int
  N : Int
  M : Int
  Sub : List UInt8
  Filter : SFilter
  deriving DecidableEq, Inhabited
def encSMod (x : SMod) : List C := [.int .i64 ((x).Kind), .int .i64 ((x).N), .int .i64 ((x).M), .str ((x).Sub), .int .i64 (((x).Filter).Zone), .int .i64 (((x).Filter).Who), .int .i64 (((x).Filter).Self), .int .i64 (((x).Filter).Types), .int .i64 (((x).Filter).NotTypes), .int .i64 (((x).Filter).Colors), .int .i64 (((x).Filter).NotColors), .str (((x).Filter).Sub), .int .i64 (((x).Filter).Keys), .int .i64 (((x).Filter).Tap), .int .i64 ((((x).Filter).Power).Kind), .int .i64 ((((x).Filter).Power).N), .int .i64 ((((x).Filter).Tough).Kind), .int .i64 ((((x).Filter).Tough).N), .int .i64 ((((x).Filter).Value).Kind), .int .i64 ((((x).Filter).Value).N)]
structure SPrice where
  Mana : SCost
  Tap : Bool
  Sacrifice : Bool
  Life : Int
  deriving DecidableEq, Inhabited
structure STrigger where
  When : Int
  Who : Int
  Filter : SFilter
  deriving DecidableEq, Inhabited
structure SSpec where
  Player : Bool
  Object : Bool
  Filter : SFilter
  deriving DecidableEq, Inhabited
def encSSpec (x : SSpec) : List C := [.bool ((x).Player), .bool ((x).Object), .int .i64 (((x).Filter).Zone), .int .i64 (((x).Filter).Who), .int .i64 (((x).Filter).Self), .int .i64 (((x).Filter).Types), .int .i64 (((x).Filter).NotTypes), .int .i64 (((x).Filter).Colors), .int .i64 (((x).Filter).NotColors), .str (((x).Filter).Sub), .int .i64 (((x).Filter).Keys), .int .i64 (((x).Filter).Tap), .int .i64 ((((x).Filter).Power).Kind), .int .i64 ((((x).Filter).Power).N), .int .i64 ((((x).Filter).Tough).Kind), .int .i64 ((((x).Filter).Tough).N), .int .i64 ((((x).Filter).Value).Kind), .int .i64 ((((x).Filter).Value).N)]
structure SRef where
  Kind : Int
  N : Int
  Filter : SFilter
  deriving DecidableEq, Inhabited
structure SAmount where
  Kind : Int
  N : Int
  Counter : Int
  Filter : SFilter
  deriving DecidableEq, Inhabited
structure SEffect where
  Op : Int
  Ref : SRef
  Amount : SAmount
  Counter : Int
  Zone : Int
  Card : List UInt8
  Filter : SFilter
  Pool : A6 (Int)
  Mods : List (SMod)
  deriving DecidableEq, Inhabited
def encSEffect (x : SEffect) : List C := [.int .i64 ((x).Op), .int .i64 (((x).Ref).Kind), .int .i64 (((x).Ref).N), .int .i64 ((((x).Ref).Filter).Zone), .int .i64 ((((x).Ref).Filter).Who), .int .i64 ((((x).Ref).Filter).Self), .int .i64 ((((x).Ref).Filter).Types), .int .i64 ((((x).Ref).Filter).NotTypes), .int .i64 ((((x).Ref).Filter).Colors), .int .i64 ((((x).Ref).Filter).NotColors), .str ((((x).Ref).Filter).Sub), .int .i64 ((((x).Ref).Filter).Keys), .int .i64 ((((x).Ref).Filter).Tap), .int .i64 (((((x).Ref).Filter).Power).Kind), .int .i64 (((((x).Ref).Filter).Power).N), .int .i64 (((((x).Ref).Filter).Tough).Kind), .int .i64 (((((x).Ref).Filter).Tough).N), .int .i64 (((((x).Ref).Filter).Value).Kind), .int .i64 (((((x).Ref).Filter).Value).N), .int .i64 (((x).Amount).Kind), .int .i64 (((x).Amount).N), .int .i64 (((x).Amount).Counter), .int .i64 ((((x).Amount).Filter).Zone), .int .i64 ((((x).Amount).Filter).Who), .int .i64 ((((x).Amount).Filter).Self), .int .i64 ((((x).Amount).Filter).Types), .int .i64 ((((x).Amount).Filter).NotTypes), .int .i64 ((((x).Amount).Filter).Colors), .int .i64 ((((x).Amount).Filter).NotColors), .str ((((x).Amount).Filter).Sub), .int .i64 ((((x).Amount).Filter).Keys), .int .i64 ((((x).Amount).Filter).Tap), .int .i64 (((((x).Amount).Filter).Power).Kind), .int .i64 (((((x).Amount).Filter).Power).N), .int .i64 (((((x).Amount).Filter).Tough).Kind), .int .i64 (((((x).Amount).Filter).Tough).N), .int .i64 (((((x).Amount).Filter).Value).Kind), .int .i64 (((((x).Amount).Filter).Value).N), .int .i64 ((x).Counter), .int .i64 ((x).Zone), .str ((x).Card), .int .i64 (((x).Filter).Zone), .int .i64 (((x).Filter).Who), .int .i64 (((x).Filter).Self), .int .i64 (((x).Filter).Types), .int .i64 (((x).Filter).NotTypes), .int .i64 (((x).Filter).Colors), .int .i64 (((x).Filter).NotColors), .str (((x).Filter).Sub), .int .i64 (((x).Filter).Keys), .int .i64 (((x).Filter).Tap), .int .i64 ((((x).Filter).Power).Kind), .int .i64 ((((x).Filter).Power).N), .int .i64 ((((x).Filter).Tough).Kind), .int .i64 ((((x).Filter).Tough).N), .int .i64 ((((x).Filter).Value).Kind), .int .i64 ((((x).Filter).Value).N), .int .i64 (((x).Pool).x0), .int .i64 (((x).Pool).x1), .int .i64 (((x).Pool).x2), .int .i64 (((x).Pool).x3), .int .i64 (((x).Pool).x4), .int .i64 (((x).Pool).x5), .sl ((x).Mods).length (((x).Mods).flatMap (encSMod))]
structure SReplace where
  On : Int
  Who : Int
  Filter : SFilter
  Do : Int
  N : Int
  Zone : Int
  Counter : Int
  deriving DecidableEq, Inhabited
structure SAbility where
  Kind : Int
  Filter : SFilter
  Mods : List (SMod)
  Price : SPrice
  Slow : Bool
  Trigger : STrigger
  May : Bool
  Specs : List (SSpec)
  Effects : List (SEffect)
  Replace : SReplace
  deriving DecidableEq, Inhabited
def encSAbility (x : SAbility) : List C := [.int .i64 ((x).Kind), .int .i64 (((x).Filter).Zone), .int .i64 (((x).Filter).Who), .int .i64 (((x).Filter).Self), .int .i64 (((x).Filter).Types), .int .i64 (((x).Filter).NotTypes), .int .i64 (((x).Filter).Colors), .int .i64 (((x).Filter).NotColors), .str (((x).Filter).Sub), .int .i64 (((x).Filter).Keys), .int .i64 (((x).Filter).Tap), .int .i64 ((((x).Filter).Power).Kind), .int .i64 ((((x).Filter).Power).N), .int .i64 ((((x).Filter).Tough).Kind), .int .i64 ((((x).Filter).Tough).N), .int .i64 ((((x).Filter).Value).Kind), .int .i64 ((((x).Filter).Value).N), .sl ((x).Mods).length (((x).Mods).flatMap (encSMod)), .int .i64 ((((x).Price).Mana).Generic), .int .i64 ((((x).Price).Mana).X), .int .i64 (((((x).Price).Mana).Color).x0), .int .i64 (((((x).Price).Mana).Color).x1), .int .i64 (((((x).Price).Mana).Color).x2), .int .i64 (((((x).Price).Mana).Color).x3), .int .i64 (((((x).Price).Mana).Color).x4), .bool (((x).Price).Tap), .bool (((x).Price).Sacrifice), .int .i64 (((x).Price).Life), .bool ((x).Slow), .int .i64 (((x).Trigger).When), .int .i64 (((x).Trigger).Who), .int .i64 ((((x).Trigger).Filter).Zone), .int .i64 ((((x).Trigger).Filter).Who), .int .i64 ((((x).Trigger).Filter).Self), .int .i64 ((((x).Trigger).Filter).Types), .int .i64 ((((x).Trigger).Filter).NotTypes), .int .i64 ((((x).Trigger).Filter).Colors), .int .i64 ((((x).Trigger).Filter).NotColors), .str ((((x).Trigger).Filter).Sub), .int .i64 ((((x).Trigger).Filter).Keys), .int .i64 ((((x).Trigger).Filter).Tap), .int .i64 (((((x).Trigger).Filter).Power).Kind), .int .i64 (((((x).Trigger).Filter).Power).N), .int .i64 (((((x).Trigger).Filter).Tough).Kind), .int .i64 (((((x).Trigger).Filter).Tough).N), .int .i64 (((((x).Trigger).Filter).Value).Kind), .int .i64 (((((x).Trigger).Filter).Value).N), .bool ((x).May), .sl ((x).Specs).length (((x).Specs).flatMap (encSSpec)), .sl ((x).Effects).length (((x).Effects).flatMap (encSEffect)), .int .i64 (((x).Replace).On), .int .i64 (((x).Replace).Who), .int .i64 ((((x).Replace).Filter).Zone), .int .i64 ((((x).Replace).Filter).Who), .int .i64 ((((x).Replace).Filter).Self), .int .i64 ((((x).Replace).Filter).Types), .int .i64 ((((x).Replace).Filter).NotTypes), .int .i64 ((((x).Replace).Filter).Colors), .int .i64 ((((x).Replace).Filter).NotColors), .str ((((x).Replace).Filter).Sub), .int .i64 ((((x).Replace).Filter).Keys), .int .i64 ((((x).Replace).Filter).Tap), .int .i64 (((((x).Replace).Filter).Power).Kind), .int .i64 (((((x).Replace).Filter).Power).N), .int .i64 (((((x).Replace).Filter).Tough).Kind), .int .i64 (((((x).Replace).Filter).Tough).N), .int .i64 (((((x).Replace).Filter).Value).Kind), .int .i64 (((((x).Replace).Filter).Value).N), .int .i64 (((x).Replace).Do), .int .i64 (((x).Replace).N), .int .i64 (((x).Replace).Zone), .int .i64 (((x).Replace).Counter)]
structure SCard where
  Name : List UInt8
  Token : Bool
  Cost : SCost
  Color : Int
  Line : SLine
  Power : Int
  Tough : Int
  Keys : Int
  Abilities : List (SAbility)
  deriving DecidableEq, Inhabited
def encSCard (x : SCard) : List C := [.str ((x).Name), .bool ((x).Token), .int .i64 (((x).Cost).Generic), .int .i64 (((x).Cost).X), .int .i64 ((((x).Cost).Color).x0), .int .i64 ((((x).Cost).Color).x1), .int .i64 ((((x).Cost).Color).x2), .int .i64 ((((x).Cost).Color).x3), .int .i64 ((((x).Cost).Color).x4), .int .i64 ((x).Color), .int .i64 (((x).Line).Super), .int .i64 (((x).Line).Types), .sl (((x).Line).Subs).length ((((x).Line).Subs).flatMap (eS)), .int .i64 ((x).Power), .int .i64 ((x).Tough), .int .i64 ((x).Keys), .sl ((x).Abilities).length (((x).Abilities).flatMap (encSAbility))]
theorem lenSCard (x : SCard) : (encSCard x).length = 17 := rfl
structure SFormat where
  Least : Int
  Most : Int
  Copies : Int
  Banned : List (List UInt8)
  deriving DecidableEq, Inhabited
def encSFormat (x : SFormat) : List C := [.int .i64 ((x).Least), .int .i64 ((x).Most), .int .i64 ((x).Copies), .sl ((x).Banned).length (((x).Banned).flatMap (eS))]
def str_spring : List UInt8 := [115, 112, 114, 105, 110, 103]
def str_imp : List UInt8 := [105, 109, 112]
def str_ember_fox : List UInt8 := [101, 109, 98, 101, 114, 45, 102, 111, 120]
def str_20_spring_4_ember_fox_ : List UInt8 := [50, 48, 32, 115, 112, 114, 105, 110, 103, 10, 52, 32, 101, 109, 98, 101, 114, 45, 102, 111, 120, 10]
def str_x20 : List UInt8 := [32]
def str_x0a : List UInt8 := [10]
theorem isif91 : isIface Tryd.prog 91 = true := by kernel_rfl
theorem okp24 : okPlc Tryd.prog 24 = true := by kernel_rfl
theorem okp59 : okPlc Tryd.prog 59 = true := by kernel_rfl
theorem okp83 : okPlc Tryd.prog 83 = true := by kernel_rfl
theorem okp86 : okPlc Tryd.prog 86 = true := by kernel_rfl
end Go.PL
