/- Functions of the program, as partial functions in Lean, with proofs. -/
import Derived.Test.YtedobbmpljbccaaGreatDoorPlPtoPlPn
import Derived.Test.YtedobbmpljbccaaGreatDoorRows
import Derived.Test.YtedobbmpljbccaaGreatDoorPlShelf
import Derived.Test.YtedobbmpljbccaaGreatDoorPlPotoPlPd
import Derived.Test.YtedobbmpljbccaaGreatDoorPlDkC
namespace Go.PL
open Go Go.RowKit Go.Proofs
set_option maxRecDepth 100000
set_option linter.all false
set_option maxHeartbeats 1000000
theorem followsP : Tryz.prog.follows .mixedOrders = true := by kernel_rfl
def I0 (w : World) : Prop := Lib.TabIs Tryz.prog w "internal/strconv.uint64pow10" .u64 Lib.pow10Tab ∧
  (∃ tp p, w.var? Tryz.prog "strconv.ErrSyntax" = some #[.iface tp p]) ∧ (∃ tp p, w.var? Tryz.prog "strconv.ErrRange" = some #[.iface tp p])
theorem var_stable {P : Program} {w w' : World} {n : String} {cs : Array Value} (h2 : ∀ b, b < w.heap.size → w'.heap[b]? = w.heap[b]?) (h : w.var? P n = some cs) : w'.var? P n = some cs := by
  unfold World.var? at h ⊢
  cases hg : P.globalNamed n with
  | none => rw [hg] at h; cases h
  | some g =>
    rw [hg] at h
    simp only [Option.bind_some] at h ⊢
    by_cases hlt : g < w.heap.size
    · rw [h2 g hlt]; exact h
    · rw [Array.getElem?_eq_none (by omega)] at h; cases h
theorem I0_stable : Stable I0 := fun w w' h _ h2 => by
  obtain ⟨a, ⟨tp, p, b⟩, ⟨tq, q, c⟩⟩ := h
  exact ⟨var_stable h2 a, ⟨tp, p, var_stable h2 b⟩, ⟨tq, q, var_stable h2 c⟩⟩
def dItoa (n : Int) : Option (List UInt8) := if -9223372036854775808 ≤ n ∧ n ≤ 9223372036854775807 then some (Lib.itoa n) else none
theorem okItoa {n : Int} {r : List UInt8} (h : dItoa n = some r) : PCall Tryz.prog I0 39 [vI n] (· = vS r) := by
  unfold dItoa at h
  split at h
  · rename_i hb
    injection h with h; subst h
    refine ⟨by kernel_rfl, fun w vs av hI hav hr => ?_⟩
    simp only [RelVs] at hr
    obtain ⟨v, r, h1, h2, rfl⟩ := hr
    obtain rfl : vs = #[v] := Array.ext' h1
    simp only [RelV, RelC] at h2
    subst h2
    refine (Tryz.strconv_Itoa n hb.1 hb.2 w hI.1).mono fun e w' ⟨he, k, os, hw⟩ => ?_
    subst hw
    refine ⟨_, _, he, rfl, rfl, ?_, ?_⟩
    · simp only [RelV, RelC]
    · refine ⟨rfl, rfl, rfl, by simp [Sort.grow], fun i hi => ?_⟩
      show ((w.drewN k).heap ++ os)[i]? = _
      rw [Array.getElem?_append_left (by show i < w.heap.size; omega)]
      rfl
  · cases h
def dIndexByte (s : List UInt8) (c : Int) : Option Int := some (Lib.indexByte s c.toNat.toUInt8)
theorem okIndexByteL {s : List UInt8} {c r : Int} (h : dIndexByte s c = some r) : PCall Tryz.prog I0 64 [vS s, .c (.int .u8 c)] (· = vI r) := by
    injection h with h; subst h
    refine ⟨by kernel_rfl, fun w vs av hI hav hr => ?_⟩
    simp only [RelVs] at hr
    obtain ⟨v, r, h1, h2, u, r2, rfl, h3, rfl⟩ := hr
    obtain rfl : vs = #[v, u] := Array.ext' h1
    simp only [RelV, RelC] at h2 h3
    subst h2 h3
    refine (Tryz.stringslite_IndexByte ⟨s.toArray⟩ c w).mono fun e w' ⟨he, hw⟩ => ?_
    subst hw
    exact ⟨_, _, he, rfl, rfl, by simp only [RelV, RelC], Below.refl _ _⟩
def dAtoiV (s : List UInt8) : Option Int := if s.length ≤ 281474976710656 then (match Lib.atoiAll s with
  | .ok v => some v
  | _ => none) else none
def dAtoiB (s : List UInt8) : Option Int := if s.length ≤ 281474976710656 then (match Lib.atoiAll s with
  | .ok _ => none
  | .range => some (Lib.atoiSat s)
  | _ => some 0) else none
theorem okAtoiV {s : List UInt8} {v : Int} (h : dAtoiV s = some v) : PCall Tryz.prog I0 42 [vS s] (· = .tup [vI v, .c .niface]) := by
  unfold dAtoiV at h
  split at h
  · rename_i hs
    split at h
    · rename_i v' hv'
      injection h with h; subst h
      refine ⟨by kernel_rfl, fun w vs av hI hav hr => ?_⟩
      simp only [RelVs] at hr
      obtain ⟨v, r, h1, h2, rfl⟩ := hr
      obtain rfl : vs = #[v] := Array.ext' h1
      simp only [RelV, RelC] at h2
      subst h2
      refine (Tryz.strconv_Atoi_ok ⟨s.toArray⟩ (by simp [ByteArray.size]; omega) v' hv' w).mono fun e w' ⟨he, hw⟩ => ?_
      refine ⟨_, _, he, rfl, rfl, ?_, ?_⟩
      · simp only [RelV]
        exact ⟨_, rfl, by simp only [RelVs]; exact ⟨_, _, rfl, by simp only [RelV, RelC], _, _, rfl, by simp only [RelV, RelC], rfl⟩⟩
      · rcases hw with rfl | ⟨t, rfl⟩
        · exact Below.refl _ _
        · exact Lib.bytesWorld_below _ _ _
    · cases h
  · cases h
theorem okAtoiB {s : List UInt8} {n : Int} (h : dAtoiB s = some n) : PCall Tryz.prog I0 42 [vS s] (· = .tup [vI n, .c .held]) := by
  unfold dAtoiB at h
  split at h
  · rename_i hs
    rcases h1' : Lib.atoiAll s with v | _ | _
    · rw [h1'] at h; cases h
    · rw [h1'] at h; injection h with h; subst h
      refine ⟨by kernel_rfl, fun w vs av hI hav hr => ?_⟩
      simp only [RelVs] at hr
      obtain ⟨v, r, h1, h2, rfl⟩ := hr
      obtain rfl : vs = #[v] := Array.ext' h1
      simp only [RelV, RelC] at h2
      subst h2
      obtain ⟨tp, p, hvar⟩ := hI.2.1
      refine (Any.strconv_Atoi_syntax_var Tryz.laysC172 ⟨s.toArray⟩ (by simp [ByteArray.size]; omega) h1' tp p w hvar).mono fun e w' ⟨N, he, _, _, hw⟩ => ?_
      refine ⟨_, _, he, rfl, rfl, ?_, hw⟩
      simp only [RelV]
      exact ⟨_, rfl, by simp only [RelVs]; exact ⟨_, _, rfl, by simp only [RelV, RelC], _, _, rfl, by simp only [RelV, RelC]; exact ⟨_, _, rfl⟩, rfl⟩⟩
    · rw [h1'] at h; injection h with h; subst h
      refine ⟨by kernel_rfl, fun w vs av hI hav hr => ?_⟩
      simp only [RelVs] at hr
      obtain ⟨v, r, h1, h2, rfl⟩ := hr
      obtain rfl : vs = #[v] := Array.ext' h1
      simp only [RelV, RelC] at h2
      subst h2
      obtain ⟨tp, p, hvar⟩ := hI.2.2
      refine (Any.strconv_Atoi_range_var Tryz.laysC172 ⟨s.toArray⟩ (by simp [ByteArray.size]; omega) h1' tp p w hvar).mono fun e w' ⟨N, he, _, _, hw⟩ => ?_
      refine ⟨_, _, he, rfl, rfl, ?_, hw⟩
      simp only [RelV]
      exact ⟨_, rfl, by simp only [RelVs]; exact ⟨_, _, rfl, by simp only [RelV, RelC], _, _, rfl, by simp only [RelV, RelC]; exact ⟨_, _, rfl⟩, rfl⟩⟩
  · cases h
structure A5 (α : Type) where
  x0 : α
  x1 : α
  x2 : α
  x3 : α
  x4 : α
  deriving DecidableEq, Inhabited
def A5.l {α : Type} (a : A5 α) : List α := [a.x0, a.x1, a.x2, a.x3, a.x4]
def eA5 {α : Type} (e : α → List C) (a : A5 α) : List C := a.l.flatMap e
def A5.set {α : Type} (a : A5 α) (i : Nat) (v : α) : A5 α := ⟨if i = 0 then v else a.x0, if i = 1 then v else a.x1, if i = 2 then v else a.x2, if i = 3 then v else a.x3, if i = 4 then v else a.x4⟩
theorem A5.l_set {α : Type} (a : A5 α) (i : Nat) (v : α) : (a.set i v).l = a.l.set i v := by
  rcases i with _ | _ | _ | _ | _ | i <;> simp [A5.set, A5.l]
structure A6 (α : Type) where
  x0 : α
  x1 : α
  x2 : α
  x3 : α
  x4 : α
  x5 : α
  deriving DecidableEq, Inhabited
def A6.l {α : Type} (a : A6 α) : List α := [a.x0, a.x1, a.x2, a.x3, a.x4, a.x5]
def eA6 {α : Type} (e : α → List C) (a : A6 α) : List C := a.l.flatMap e
def A6.set {α : Type} (a : A6 α) (i : Nat) (v : α) : A6 α := ⟨if i = 0 then v else a.x0, if i = 1 then v else a.x1, if i = 2 then v else a.x2, if i = 3 then v else a.x3, if i = 4 then v else a.x4, if i = 5 then v else a.x5⟩
theorem A6.l_set {α : Type} (a : A6 α) (i : Nat) (v : α) : (a.set i v).l = a.l.set i v := by
  rcases i with _ | _ | _ | _ | _ | _ | i <;> simp [A6.set, A6.l]
structure SCost where
  Generic : Int
  X : Int
  Color : A5 (Int)
  deriving DecidableEq, Inhabited
def encSCost (x : SCost) : List C := [.int .i64 ((x).Generic), .int .i64 ((x).X), .int .i64 (((x).Color).x0), .int .i64 (((x).Color).x1), .int .i64 (((x).Color).x2), .int .i64 (((x).Color).x3), .int .i64 (((x).Color).x4)]
structure SLine where
  Super : Int
  Types : Int
  Subs : List (List UInt8)
  deriving DecidableEq, Inhabited
def encSLine (x : SLine) : List C := [.int .i64 ((x).Super), .int .i64 ((x).Types), .sl ((x).Subs).length (((x).Subs).flatMap (eS))]
structure SBound where
  Kind : Int
  N : Int
  deriving DecidableEq, Inhabited
def encSBound (x : SBound) : List C := [.int .i64 ((x).Kind), .int .i64 ((x).N)]
structure SFilter where
  Zone : Int
  Who : Int
  Self : Int
  Types : Int
  NotTypes : Int
  Colors : Int
  NotColors : Int
  Sub : List UInt8
  Keys : Int
  Tap : Int
  Power : SBound
  Tough : SBound
  Value : SBound
  deriving DecidableEq, Inhabited
def encSFilter (x : SFilter) : List C := [.int .i64 ((x).Zone), .int .i64 ((x).Who), .int .i64 ((x).Self), .int .i64 ((x).Types), .int .i64 ((x).NotTypes), .int .i64 ((x).Colors), .int .i64 ((x).NotColors), .str ((x).Sub), .int .i64 ((x).Keys), .int .i64 ((x).Tap), .int .i64 (((x).Power).Kind), .int .i64 (((x).Power).N), .int .i64 (((x).Tough).Kind), .int .i64 (((x).Tough).N), .int .i64 (((x).Value).Kind), .int .i64 (((x).Value).N)]
structure SMod where
  Kind : Int
  N : Int
  M : Int
  Sub : List UInt8
  Filter : SFilter
  deriving DecidableEq, Inhabited
def encSMod (x : SMod) : List C := [.int .i64 ((x).Kind), .int .i64 ((x).N), .int .i64 ((x).M), .str ((x).Sub), .int .i64 (((x).Filter).Zone), .int .i64 (((x).Filter).Who), .int .i64 (((x).Filter).Self), .int .i64 (((x).Filter).Types), .int .i64 (((x).Filter).NotTypes), .int .i64 (((x).Filter).Colors), .int .i64 (((x).Filter).NotColors), .str (((x).Filter).Sub), .int .i64 (((x).Filter).Keys), .int .i64 (((x).Filter).Tap), .int .i64 ((((x).Filter).Power).Kind), .int .i64 ((((x).Filter).Power).N), .int .i64 ((((x).Filter).Tough).Kind), .int .i64 ((((x).Filter).Tough).N), .int .i64 ((((x).Filter).Value).Kind), .int .i64 ((((x).Filter).Value).N)]
theorem lenSMod (x : SMod) : (encSMod x).length = 20 := rfl
structure SPrice where
  Mana : SCost
  Tap : Bool
  Sacrifice : Bool
  Life : Int
  deriving DecidableEq, Inhabited
def encSPrice (x : SPrice) : List C := [.int .i64 (((x).Mana).Generic), .int .i64 (((x).Mana).X), .int .i64 ((((x).Mana).Color).x0), .int .i64 ((((x).Mana).Color).x1), .int .i64 ((((x).Mana).Color).x2), .int .i64 ((((x).Mana).Color).x3), .int .i64 ((((x).Mana).Color).x4), .bool ((x).Tap), .bool ((x).Sacrifice), .int .i64 ((x).Life)]
structure STrigger where
  When : Int
  Who : Int
  Filter : SFilter
  deriving DecidableEq, Inhabited
def encSTrigger (x : STrigger) : List C := [.int .i64 ((x).When), .int .i64 ((x).Who), .int .i64 (((x).Filter).Zone), .int .i64 (((x).Filter).Who), .int .i64 (((x).Filter).Self), .int .i64 (((x).Filter).Types), .int .i64 (((x).Filter).NotTypes), .int .i64 (((x).Filter).Colors), .int .i64 (((x).Filter).NotColors), .str (((x).Filter).Sub), .int .i64 (((x).Filter).Keys), .int .i64 (((x).Filter).Tap), .int .i64 ((((x).Filter).Power).Kind), .int .i64 ((((x).Filter).Power).N), .int .i64 ((((x).Filter).Tough).Kind), .int .i64 ((((x).Filter).Tough).N), .int .i64 ((((x).Filter).Value).Kind), .int .i64 ((((x).Filter).Value).N)]
structure SSpec where
  Player : Bool
  Object : Bool
  Filter : SFilter
  deriving DecidableEq, Inhabited
def encSSpec (x : SSpec) : List C := [.bool ((x).Player), .bool ((x).Object), .int .i64 (((x).Filter).Zone), .int .i64 (((x).Filter).Who), .int .i64 (((x).Filter).Self), .int .i64 (((x).Filter).Types), .int .i64 (((x).Filter).NotTypes), .int .i64 (((x).Filter).Colors), .int .i64 (((x).Filter).NotColors), .str (((x).Filter).Sub), .int .i64 (((x).Filter).Keys), .int .i64 (((x).Filter).Tap), .int .i64 ((((x).Filter).Power).Kind), .int .i64 ((((x).Filter).Power).N), .int .i64 ((((x).Filter).Tough).Kind), .int .i64 ((((x).Filter).Tough).N), .int .i64 ((((x).Filter).Value).Kind), .int .i64 ((((x).Filter).Value).N)]
theorem lenSSpec (x : SSpec) : (encSSpec x).length = 18 := rfl
structure SRef where
  Kind : Int
  N : Int
  Filter : SFilter
  deriving DecidableEq, Inhabited
def encSRef (x : SRef) : List C := [.int .i64 ((x).Kind), .int .i64 ((x).N), .int .i64 (((x).Filter).Zone), .int .i64 (((x).Filter).Who), .int .i64 (((x).Filter).Self), .int .i64 (((x).Filter).Types), .int .i64 (((x).Filter).NotTypes), .int .i64 (((x).Filter).Colors), .int .i64 (((x).Filter).NotColors), .str (((x).Filter).Sub), .int .i64 (((x).Filter).Keys), .int .i64 (((x).Filter).Tap), .int .i64 ((((x).Filter).Power).Kind), .int .i64 ((((x).Filter).Power).N), .int .i64 ((((x).Filter).Tough).Kind), .int .i64 ((((x).Filter).Tough).N), .int .i64 ((((x).Filter).Value).Kind), .int .i64 ((((x).Filter).Value).N)]
structure SAmount where
  Kind : Int
  N : Int
  Counter : Int
  Filter : SFilter
  deriving DecidableEq, Inhabited
def encSAmount (x : SAmount) : List C := [.int .i64 ((x).Kind), .int .i64 ((x).N), .int .i64 ((x).Counter), .int .i64 (((x).Filter).Zone), .int .i64 (((x).Filter).Who), .int .i64 (((x).Filter).Self), .int .i64 (((x).Filter).Types), .int .i64 (((x).Filter).NotTypes), .int .i64 (((x).Filter).Colors), .int .i64 (((x).Filter).NotColors), .str (((x).Filter).Sub), .int .i64 (((x).Filter).Keys), .int .i64 (((x).Filter).Tap), .int .i64 ((((x).Filter).Power).Kind), .int .i64 ((((x).Filter).Power).N), .int .i64 ((((x).Filter).Tough).Kind), .int .i64 ((((x).Filter).Tough).N), .int .i64 ((((x).Filter).Value).Kind), .int .i64 ((((x).Filter).Value).N)]
structure SEffect where
  Op : Int
  Ref : SRef
  Amount : SAmount
  Counter : Int
  Zone : Int
  Card : List UInt8
  Filter : SFilter
  Pool : A6 (Int)
  Mods : List (SMod)
  deriving DecidableEq, Inhabited
def encSEffect (x : SEffect) : List C := [.int .i64 ((x).Op), .int .i64 (((x).Ref).Kind), .int .i64 (((x).Ref).N), .int .i64 ((((x).Ref).Filter).Zone), .int .i64 ((((x).Ref).Filter).Who), .int .i64 ((((x).Ref).Filter).Self), .int .i64 ((((x).Ref).Filter).Types), .int .i64 ((((x).Ref).Filter).NotTypes), .int .i64 ((((x).Ref).Filter).Colors), .int .i64 ((((x).Ref).Filter).NotColors), .str ((((x).Ref).Filter).Sub), .int .i64 ((((x).Ref).Filter).Keys), .int .i64 ((((x).Ref).Filter).Tap), .int .i64 (((((x).Ref).Filter).Power).Kind), .int .i64 (((((x).Ref).Filter).Power).N), .int .i64 (((((x).Ref).Filter).Tough).Kind), .int .i64 (((((x).Ref).Filter).Tough).N), .int .i64 (((((x).Ref).Filter).Value).Kind), .int .i64 (((((x).Ref).Filter).Value).N), .int .i64 (((x).Amount).Kind), .int .i64 (((x).Amount).N), .int .i64 (((x).Amount).Counter), .int .i64 ((((x).Amount).Filter).Zone), .int .i64 ((((x).Amount).Filter).Who), .int .i64 ((((x).Amount).Filter).Self), .int .i64 ((((x).Amount).Filter).Types), .int .i64 ((((x).Amount).Filter).NotTypes), .int .i64 ((((x).Amount).Filter).Colors), .int .i64 ((((x).Amount).Filter).NotColors), .str ((((x).Amount).Filter).Sub), .int .i64 ((((x).Amount).Filter).Keys), .int .i64 ((((x).Amount).Filter).Tap), .int .i64 (((((x).Amount).Filter).Power).Kind), .int .i64 (((((x).Amount).Filter).Power).N), .int .i64 (((((x).Amount).Filter).Tough).Kind), .int .i64 (((((x).Amount).Filter).Tough).N), .int .i64 (((((x).Amount).Filter).Value).Kind), .int .i64 (((((x).Amount).Filter).Value).N), .int .i64 ((x).Counter), .int .i64 ((x).Zone), .str ((x).Card), .int .i64 (((x).Filter).Zone), .int .i64 (((x).Filter).Who), .int .i64 (((x).Filter).Self), .int .i64 (((x).Filter).Types), .int .i64 (((x).Filter).NotTypes), .int .i64 (((x).Filter).Colors), .int .i64 (((x).Filter).NotColors), .str (((x).Filter).Sub), .int .i64 (((x).Filter).Keys), .int .i64 (((x).Filter).Tap), .int .i64 ((((x).Filter).Power).Kind), .int .i64 ((((x).Filter).Power).N), .int .i64 ((((x).Filter).Tough).Kind), .int .i64 ((((x).Filter).Tough).N), .int .i64 ((((x).Filter).Value).Kind), .int .i64 ((((x).Filter).Value).N), .int .i64 (((x).Pool).x0), .int .i64 (((x).Pool).x1), .int .i64 (((x).Pool).x2), .int .i64 (((x).Pool).x3), .int .i64 (((x).Pool).x4), .int .i64 (((x).Pool).x5), .sl ((x).Mods).length (((x).Mods).flatMap (encSMod))]
theorem lenSEffect (x : SEffect) : (encSEffect x).length = 64 := rfl
structure SReplace where
  On : Int
  Who : Int
  Filter : SFilter
  Do : Int
  N : Int
  Zone : Int
  Counter : Int
  deriving DecidableEq, Inhabited
def encSReplace (x : SReplace) : List C := [.int .i64 ((x).On), .int .i64 ((x).Who), .int .i64 (((x).Filter).Zone), .int .i64 (((x).Filter).Who), .int .i64 (((x).Filter).Self), .int .i64 (((x).Filter).Types), .int .i64 (((x).Filter).NotTypes), .int .i64 (((x).Filter).Colors), .int .i64 (((x).Filter).NotColors), .str (((x).Filter).Sub), .int .i64 (((x).Filter).Keys), .int .i64 (((x).Filter).Tap), .int .i64 ((((x).Filter).Power).Kind), .int .i64 ((((x).Filter).Power).N), .int .i64 ((((x).Filter).Tough).Kind), .int .i64 ((((x).Filter).Tough).N), .int .i64 ((((x).Filter).Value).Kind), .int .i64 ((((x).Filter).Value).N), .int .i64 ((x).Do), .int .i64 ((x).N), .int .i64 ((x).Zone), .int .i64 ((x).Counter)]
structure SAbility where
  Kind : Int
  Filter : SFilter
  Mods : List (SMod)
  Price : SPrice
  Slow : Bool
  Trigger : STrigger
  May : Bool
  Specs : List (SSpec)
  Effects : List (SEffect)
  Replace : SReplace
  deriving DecidableEq, Inhabited
def encSAbility (x : SAbility) : List C := [.int .i64 ((x).Kind), .int .i64 (((x).Filter).Zone), .int .i64 (((x).Filter).Who), .int .i64 (((x).Filter).Self), .int .i64 (((x).Filter).Types), .int .i64 (((x).Filter).NotTypes), .int .i64 (((x).Filter).Colors), .int .i64 (((x).Filter).NotColors), .str (((x).Filter).Sub), .int .i64 (((x).Filter).Keys), .int .i64 (((x).Filter).Tap), .int .i64 ((((x).Filter).Power).Kind), .int .i64 ((((x).Filter).Power).N), .int .i64 ((((x).Filter).Tough).Kind), .int .i64 ((((x).Filter).Tough).N), .int .i64 ((((x).Filter).Value).Kind), .int .i64 ((((x).Filter).Value).N), .sl ((x).Mods).length (((x).Mods).flatMap (encSMod)), .int .i64 ((((x).Price).Mana).Generic), .int .i64 ((((x).Price).Mana).X), .int .i64 (((((x).Price).Mana).Color).x0), .int .i64 (((((x).Price).Mana).Color).x1), .int .i64 (((((x).Price).Mana).Color).x2), .int .i64 (((((x).Price).Mana).Color).x3), .int .i64 (((((x).Price).Mana).Color).x4), .bool (((x).Price).Tap), .bool (((x).Price).Sacrifice), .int .i64 (((x).Price).Life), .bool ((x).Slow), .int .i64 (((x).Trigger).When), .int .i64 (((x).Trigger).Who), .int .i64 ((((x).Trigger).Filter).Zone), .int .i64 ((((x).Trigger).Filter).Who), .int .i64 ((((x).Trigger).Filter).Self), .int .i64 ((((x).Trigger).Filter).Types), .int .i64 ((((x).Trigger).Filter).NotTypes), .int .i64 ((((x).Trigger).Filter).Colors), .int .i64 ((((x).Trigger).Filter).NotColors), .str ((((x).Trigger).Filter).Sub), .int .i64 ((((x).Trigger).Filter).Keys), .int .i64 ((((x).Trigger).Filter).Tap), .int .i64 (((((x).Trigger).Filter).Power).Kind), .int .i64 (((((x).Trigger).Filter).Power).N), .int .i64 (((((x).Trigger).Filter).Tough).Kind), .int .i64 (((((x).Trigger).Filter).Tough).N), .int .i64 (((((x).Trigger).Filter).Value).Kind), .int .i64 (((((x).Trigger).Filter).Value).N), .bool ((x).May), .sl ((x).Specs).length (((x).Specs).flatMap (encSSpec)), .sl ((x).Effects).length (((x).Effects).flatMap (encSEffect)), .int .i64 (((x).Replace).On), .int .i64 (((x).Replace).Who), .int .i64 ((((x).Replace).Filter).Zone), .int .i64 ((((x).Replace).Filter).Who), .int .i64 ((((x).Replace).Filter).Self), .int .i64 ((((x).Replace).Filter).Types), .int .i64 ((((x).Replace).Filter).NotTypes), .int .i64 ((((x).Replace).Filter).Colors), .int .i64 ((((x).Replace).Filter).NotColors), .str ((((x).Replace).Filter).Sub), .int .i64 ((((x).Replace).Filter).Keys), .int .i64 ((((x).Replace).Filter).Tap), .int .i64 (((((x).Replace).Filter).Power).Kind), .int .i64 (((((x).Replace).Filter).Power).N), .int .i64 (((((x).Replace).Filter).Tough).Kind), .int .i64 (((((x).Replace).Filter).Tough).N), .int .i64 (((((x).Replace).Filter).Value).Kind), .int .i64 (((((x).Replace).Filter).Value).N), .int .i64 (((x).Replace).Do), .int .i64 (((x).Replace).N), .int .i64 (((x).Replace).Zone), .int .i64 (((x).Replace).Counter)]
theorem lenSAbility (x : SAbility) : (encSAbility x).length = 72 := rfl
structure SCard where
  Name : List UInt8
  Token : Bool
  Cost : SCost
  Color : Int
  Line : SLine
  Power : Int
  Tough : Int
  Keys : Int
  Abilities : List (SAbility)
  deriving DecidableEq, Inhabited
def encSCard (x : SCard) : List C := [.str ((x).Name), .bool ((x).Token), .int .i64 (((x).Cost).Generic), .int .i64 (((x).Cost).X), .int .i64 ((((x).Cost).Color).x0), .int .i64 ((((x).Cost).Color).x1), .int .i64 ((((x).Cost).Color).x2), .int .i64 ((((x).Cost).Color).x3), .int .i64 ((((x).Cost).Color).x4), .int .i64 ((x).Color), .int .i64 (((x).Line).Super), .int .i64 (((x).Line).Types), .sl (((x).Line).Subs).length ((((x).Line).Subs).flatMap (eS)), .int .i64 ((x).Power), .int .i64 ((x).Tough), .int .i64 ((x).Keys), .sl ((x).Abilities).length (((x).Abilities).flatMap (encSAbility))]
theorem lenSCard (x : SCard) : (encSCard x).length = 17 := rfl
structure SDeck where
  Cards : List (Int)
  Counts : List (Int)
  deriving DecidableEq, Inhabited
def encSDeck (x : SDeck) : List C := [.sl ((x).Cards).length (((x).Cards).flatMap (eI .i64)), .sl ((x).Counts).length (((x).Counts).flatMap (eI .i64))]
structure SFormat where
  Least : Int
  Most : Int
  Copies : Int
  Banned : List (List UInt8)
  deriving DecidableEq, Inhabited
def encSFormat (x : SFormat) : List C := [.int .i64 ((x).Least), .int .i64 ((x).Most), .int .i64 ((x).Copies), .sl ((x).Banned).length (((x).Banned).flatMap (eS))]
structure SAsk where
  Cards : List (SCard)
  Deck : SDeck
  Format : SFormat
  deriving DecidableEq, Inhabited
def encSAsk (x : SAsk) : List C := [.sl ((x).Cards).length (((x).Cards).flatMap (encSCard)), .sl (((x).Deck).Cards).length ((((x).Deck).Cards).flatMap (eI .i64)), .sl (((x).Deck).Counts).length ((((x).Deck).Counts).flatMap (eI .i64)), .int .i64 (((x).Format).Least), .int .i64 (((x).Format).Most), .int .i64 (((x).Format).Copies), .sl (((x).Format).Banned).length ((((x).Format).Banned).flatMap (eS))]
def dcT152 (cs : List C) : SMod := (⟨getI (cs.getD 0 .any), getI (cs.getD 1 .any), getI (cs.getD 2 .any), getS (cs.getD 3 .any), (⟨getI (cs.getD 4 .any), getI (cs.getD 5 .any), getI (cs.getD 6 .any), getI (cs.getD 7 .any), getI (cs.getD 8 .any), getI (cs.getD 9 .any), getI (cs.getD 10 .any), getS (cs.getD 11 .any), getI (cs.getD 12 .any), getI (cs.getD 13 .any), (⟨getI (cs.getD 14 .any), getI (cs.getD 15 .any)⟩ : SBound), (⟨getI (cs.getD 16 .any), getI (cs.getD 17 .any)⟩ : SBound), (⟨getI (cs.getD 18 .any), getI (cs.getD 19 .any)⟩ : SBound)⟩ : SFilter)⟩ : SMod)
theorem eqT152 (a b : SMod) : ceqL (encSMod a) (encSMod b) = (a == b) := ceqL_dec (encSMod) dcT152 (fun _ => rfl) (fun _ => rfl) (fun _ _ => rfl) a b
def dcT94 (cs : List C) : SFilter := (⟨getI (cs.getD 0 .any), getI (cs.getD 1 .any), getI (cs.getD 2 .any), getI (cs.getD 3 .any), getI (cs.getD 4 .any), getI (cs.getD 5 .any), getI (cs.getD 6 .any), getS (cs.getD 7 .any), getI (cs.getD 8 .any), getI (cs.getD 9 .any), (⟨getI (cs.getD 10 .any), getI (cs.getD 11 .any)⟩ : SBound), (⟨getI (cs.getD 12 .any), getI (cs.getD 13 .any)⟩ : SBound), (⟨getI (cs.getD 14 .any), getI (cs.getD 15 .any)⟩ : SBound)⟩ : SFilter)
theorem eqT94 (a b : SFilter) : ceqL (encSFilter a) (encSFilter b) = (a == b) := ceqL_dec (encSFilter) dcT94 (fun _ => rfl) (fun _ => rfl) (fun _ _ => rfl) a b
def dcT97 (cs : List C) : SPrice := (⟨(⟨getI (cs.getD 0 .any), getI (cs.getD 1 .any), (⟨getI (cs.getD 2 .any), getI (cs.getD 3 .any), getI (cs.getD 4 .any), getI (cs.getD 5 .any), getI (cs.getD 6 .any)⟩ : A5 (Int))⟩ : SCost), getB (cs.getD 7 .any), getB (cs.getD 8 .any), getI (cs.getD 9 .any)⟩ : SPrice)
theorem eqT97 (a b : SPrice) : ceqL (encSPrice a) (encSPrice b) = (a == b) := ceqL_dec (encSPrice) dcT97 (fun _ => rfl) (fun _ => rfl) (fun _ _ => rfl) a b
def dcT99 (cs : List C) : STrigger := (⟨getI (cs.getD 0 .any), getI (cs.getD 1 .any), (⟨getI (cs.getD 2 .any), getI (cs.getD 3 .any), getI (cs.getD 4 .any), getI (cs.getD 5 .any), getI (cs.getD 6 .any), getI (cs.getD 7 .any), getI (cs.getD 8 .any), getS (cs.getD 9 .any), getI (cs.getD 10 .any), getI (cs.getD 11 .any), (⟨getI (cs.getD 12 .any), getI (cs.getD 13 .any)⟩ : SBound), (⟨getI (cs.getD 14 .any), getI (cs.getD 15 .any)⟩ : SBound), (⟨getI (cs.getD 16 .any), getI (cs.getD 17 .any)⟩ : SBound)⟩ : SFilter)⟩ : STrigger)
theorem eqT99 (a b : STrigger) : ceqL (encSTrigger a) (encSTrigger b) = (a == b) := ceqL_dec (encSTrigger) dcT99 (fun _ => rfl) (fun _ => rfl) (fun _ _ => rfl) a b
def dcT103 (cs : List C) : SReplace := (⟨getI (cs.getD 0 .any), getI (cs.getD 1 .any), (⟨getI (cs.getD 2 .any), getI (cs.getD 3 .any), getI (cs.getD 4 .any), getI (cs.getD 5 .any), getI (cs.getD 6 .any), getI (cs.getD 7 .any), getI (cs.getD 8 .any), getS (cs.getD 9 .any), getI (cs.getD 10 .any), getI (cs.getD 11 .any), (⟨getI (cs.getD 12 .any), getI (cs.getD 13 .any)⟩ : SBound), (⟨getI (cs.getD 14 .any), getI (cs.getD 15 .any)⟩ : SBound), (⟨getI (cs.getD 16 .any), getI (cs.getD 17 .any)⟩ : SBound)⟩ : SFilter), getI (cs.getD 18 .any), getI (cs.getD 19 .any), getI (cs.getD 20 .any), getI (cs.getD 21 .any)⟩ : SReplace)
theorem eqT103 (a b : SReplace) : ceqL (encSReplace a) (encSReplace b) = (a == b) := ceqL_dec (encSReplace) dcT103 (fun _ => rfl) (fun _ => rfl) (fun _ _ => rfl) a b
def dcT107 (cs : List C) : SRef := (⟨getI (cs.getD 0 .any), getI (cs.getD 1 .any), (⟨getI (cs.getD 2 .any), getI (cs.getD 3 .any), getI (cs.getD 4 .any), getI (cs.getD 5 .any), getI (cs.getD 6 .any), getI (cs.getD 7 .any), getI (cs.getD 8 .any), getS (cs.getD 9 .any), getI (cs.getD 10 .any), getI (cs.getD 11 .any), (⟨getI (cs.getD 12 .any), getI (cs.getD 13 .any)⟩ : SBound), (⟨getI (cs.getD 14 .any), getI (cs.getD 15 .any)⟩ : SBound), (⟨getI (cs.getD 16 .any), getI (cs.getD 17 .any)⟩ : SBound)⟩ : SFilter)⟩ : SRef)
theorem eqT107 (a b : SRef) : ceqL (encSRef a) (encSRef b) = (a == b) := ceqL_dec (encSRef) dcT107 (fun _ => rfl) (fun _ => rfl) (fun _ _ => rfl) a b
def dcT109 (cs : List C) : SAmount := (⟨getI (cs.getD 0 .any), getI (cs.getD 1 .any), getI (cs.getD 2 .any), (⟨getI (cs.getD 3 .any), getI (cs.getD 4 .any), getI (cs.getD 5 .any), getI (cs.getD 6 .any), getI (cs.getD 7 .any), getI (cs.getD 8 .any), getI (cs.getD 9 .any), getS (cs.getD 10 .any), getI (cs.getD 11 .any), getI (cs.getD 12 .any), (⟨getI (cs.getD 13 .any), getI (cs.getD 14 .any)⟩ : SBound), (⟨getI (cs.getD 15 .any), getI (cs.getD 16 .any)⟩ : SBound), (⟨getI (cs.getD 17 .any), getI (cs.getD 18 .any)⟩ : SBound)⟩ : SFilter)⟩ : SAmount)
theorem eqT109 (a b : SAmount) : ceqL (encSAmount a) (encSAmount b) = (a == b) := ceqL_dec (encSAmount) dcT109 (fun _ => rfl) (fun _ => rfl) (fun _ _ => rfl) a b
def dcT111 (cs : List C) : A6 (Int) := (⟨getI (cs.getD 0 .any), getI (cs.getD 1 .any), getI (cs.getD 2 .any), getI (cs.getD 3 .any), getI (cs.getD 4 .any), getI (cs.getD 5 .any)⟩ : A6 (Int))
theorem eqT111 (a b : A6 (Int)) : ceqL (eA6 (eI .i64) a) (eA6 (eI .i64) b) = (a == b) := ceqL_dec (eA6 (eI .i64)) dcT111 (fun _ => rfl) (fun _ => rfl) (fun _ _ => rfl) a b
def dcT46 (cs : List C) : SCost := (⟨getI (cs.getD 0 .any), getI (cs.getD 1 .any), (⟨getI (cs.getD 2 .any), getI (cs.getD 3 .any), getI (cs.getD 4 .any), getI (cs.getD 5 .any), getI (cs.getD 6 .any)⟩ : A5 (Int))⟩ : SCost)
theorem eqT46 (a b : SCost) : ceqL (encSCost a) (encSCost b) = (a == b) := ceqL_dec (encSCost) dcT46 (fun _ => rfl) (fun _ => rfl) (fun _ _ => rfl) a b
def str_basic : List UInt8 := [98, 97, 115, 105, 99]
def str_unique : List UInt8 := [117, 110, 105, 113, 117, 101]
def str_creature : List UInt8 := [99, 114, 101, 97, 116, 117, 114, 101]
def str_instant : List UInt8 := [105, 110, 115, 116, 97, 110, 116]
def str_ritual : List UInt8 := [114, 105, 116, 117, 97, 108]
def str_relic : List UInt8 := [114, 101, 108, 105, 99]
def str_charm : List UInt8 := [99, 104, 97, 114, 109]
def str_land : List UInt8 := [108, 97, 110, 100]
def str_x2c20 : List UInt8 := [44, 32]
def str_control : List UInt8 := [99, 111, 110, 116, 114, 111, 108]
def str_x2b : List UInt8 := [43]
def str_types_ : List UInt8 := [116, 121, 112, 101, 115, 61]
def str_types__ : List UInt8 := [116, 121, 112, 101, 115, 43, 61]
def str_sub_ : List UInt8 := [115, 117, 98, 61]
def str_sub__ : List UInt8 := [115, 117, 98, 43, 61]
def str_none : List UInt8 := [110, 111, 110, 101]
def str_amber : List UInt8 := [97, 109, 98, 101, 114]
def str_cobalt : List UInt8 := [99, 111, 98, 97, 108, 116]
def str_jet : List UInt8 := [106, 101, 116]
def str_ruby : List UInt8 := [114, 117, 98, 121]
def str_emerald : List UInt8 := [101, 109, 101, 114, 97, 108, 100]
def str_colors_ : List UInt8 := [99, 111, 108, 111, 114, 115, 61]
def str_colors__ : List UInt8 := [99, 111, 108, 111, 114, 115, 43, 61]
def str_flying : List UInt8 := [102, 108, 121, 105, 110, 103]
def str_reach : List UInt8 := [114, 101, 97, 99, 104]
def str_haste : List UInt8 := [104, 97, 115, 116, 101]
def str_vigilant : List UInt8 := [118, 105, 103, 105, 108, 97, 110, 116]
def str_trample : List UInt8 := [116, 114, 97, 109, 112, 108, 101]
def str_first_strike : List UInt8 := [102, 105, 114, 115, 116, 45, 115, 116, 114, 105, 107, 101]
def str_double_strike : List UInt8 := [100, 111, 117, 98, 108, 101, 45, 115, 116, 114, 105, 107, 101]
def str_deadly : List UInt8 := [100, 101, 97, 100, 108, 121]
def str_lifelink : List UInt8 := [108, 105, 102, 101, 108, 105, 110, 107]
def str_menace : List UInt8 := [109, 101, 110, 97, 99, 101]
def str_defender : List UInt8 := [100, 101, 102, 101, 110, 100, 101, 114]
def str_warded : List UInt8 := [119, 97, 114, 100, 101, 100]
def str_sturdy : List UInt8 := [115, 116, 117, 114, 100, 121]
def str_elusive : List UInt8 := [101, 108, 117, 115, 105, 118, 101]
def str_no_attack : List UInt8 := [110, 111, 45, 97, 116, 116, 97, 99, 107]
def str_no_block : List UInt8 := [110, 111, 45, 98, 108, 111, 99, 107]
def str_must_attack : List UInt8 := [109, 117, 115, 116, 45, 97, 116, 116, 97, 99, 107]
def str_keys__ : List UInt8 := [107, 101, 121, 115, 43, 61]
def str_x6b6579732d3d : List UInt8 := [107, 101, 121, 115, 45, 61]
def str_blank : List UInt8 := [98, 108, 97, 110, 107]
def str_in_hand : List UInt8 := [105, 110, 45, 104, 97, 110, 100]
def str_in_library : List UInt8 := [105, 110, 45, 108, 105, 98, 114, 97, 114, 121]
def str_in_graveyard : List UInt8 := [105, 110, 45, 103, 114, 97, 118, 101, 121, 97, 114, 100]
def str_in_exile : List UInt8 := [105, 110, 45, 101, 120, 105, 108, 101]
def str_on_stack : List UInt8 := [111, 110, 45, 115, 116, 97, 99, 107]
def str_yours : List UInt8 := [121, 111, 117, 114, 115]
def str_theirs : List UInt8 := [116, 104, 101, 105, 114, 115]
def str_self : List UInt8 := [115, 101, 108, 102]
def str_other : List UInt8 := [111, 116, 104, 101, 114]
def str_tapped : List UInt8 := [116, 97, 112, 112, 101, 100]
def str_untapped : List UInt8 := [117, 110, 116, 97, 112, 112, 101, 100]
def str_non_ : List UInt8 := [110, 111, 110, 45]
def str_x7375623a : List UInt8 := [115, 117, 98, 58]
def str_with_ : List UInt8 := [119, 105, 116, 104, 58]
def str_power : List UInt8 := [112, 111, 119, 101, 114]
def str_x3e3d : List UInt8 := [62, 61]
def str_x3c3d : List UInt8 := [60, 61]
def str_x3d : List UInt8 := [61]
def str_x2d : List UInt8 := [45]
def str_tough : List UInt8 := [116, 111, 117, 103, 104]
def str_value : List UInt8 := [118, 97, 108, 117, 101]
def str_any : List UInt8 := [97, 110, 121]
def str_x20 : List UInt8 := [32]
def str_pt_count_ : List UInt8 := [112, 116, 61, 99, 111, 117, 110, 116, 40]
def str_x29 : List UInt8 := [41]
def str_pt_ : List UInt8 := [112, 116, 61]
def str_x2f : List UInt8 := [47]
def str_pt__ : List UInt8 := [112, 116, 43, 61]
def str_pt_switch : List UInt8 := [112, 116, 45, 115, 119, 105, 116, 99, 104]
def str_enters : List UInt8 := [101, 110, 116, 101, 114, 115]
def str_leaves : List UInt8 := [108, 101, 97, 118, 101, 115]
def str_dies : List UInt8 := [100, 105, 101, 115]
def str_attacks : List UInt8 := [97, 116, 116, 97, 99, 107, 115]
def str_blocks : List UInt8 := [98, 108, 111, 99, 107, 115]
def str_deals : List UInt8 := [100, 101, 97, 108, 115]
def str_dealt : List UInt8 := [100, 101, 97, 108, 116]
def str_draws : List UInt8 := [100, 114, 97, 119, 115]
def str_casts : List UInt8 := [99, 97, 115, 116, 115]
def str_upkeep : List UInt8 := [117, 112, 107, 101, 101, 112]
def str_end : List UInt8 := [101, 110, 100]
def str_gains : List UInt8 := [103, 97, 105, 110, 115]
def str_loses : List UInt8 := [108, 111, 115, 101, 115]
def str_placed : List UInt8 := [112, 108, 97, 99, 101, 100]
def str_damage : List UInt8 := [100, 97, 109, 97, 103, 101]
def str_destroy : List UInt8 := [100, 101, 115, 116, 114, 111, 121]
def str_move : List UInt8 := [109, 111, 118, 101]
def str_draw : List UInt8 := [100, 114, 97, 119]
def str_discard : List UInt8 := [100, 105, 115, 99, 97, 114, 100]
def str_gain : List UInt8 := [103, 97, 105, 110]
def str_lose : List UInt8 := [108, 111, 115, 101]
def str_tap : List UInt8 := [116, 97, 112]
def str_untap : List UInt8 := [117, 110, 116, 97, 112]
def str_put : List UInt8 := [112, 117, 116]
def str_take : List UInt8 := [116, 97, 107, 101]
def str_create : List UInt8 := [99, 114, 101, 97, 116, 101]
def str_mod : List UInt8 := [109, 111, 100]
def str_mana : List UInt8 := [109, 97, 110, 97]
def str_counter : List UInt8 := [99, 111, 117, 110, 116, 101, 114]
def str_copy : List UInt8 := [99, 111, 112, 121]
def str_become : List UInt8 := [98, 101, 99, 111, 109, 101]
def str_sacrifice : List UInt8 := [115, 97, 99, 114, 105, 102, 105, 99, 101]
def str_mill : List UInt8 := [109, 105, 108, 108]
def str_scry : List UInt8 := [115, 99, 114, 121]
def str_search : List UInt8 := [115, 101, 97, 114, 99, 104]
def str_shield : List UInt8 := [115, 104, 105, 101, 108, 100]
def str_turn : List UInt8 := [116, 117, 114, 110]
def str_win : List UInt8 := [119, 105, 110]
def str_defeat : List UInt8 := [100, 101, 102, 101, 97, 116]
def str_venom : List UInt8 := [118, 101, 110, 111, 109]
def str_r : List UInt8 := [114]
def str_rz : List UInt8 := [114, 122]
def str_rka : List UInt8 := [114, 107, 97]
def str_rca : List UInt8 := [114, 99, 97]
def str_rm : List UInt8 := [114, 109]
def str_p : List UInt8 := [112]
def str_raf : List UInt8 := [114, 97, 102]
def str_a : List UInt8 := [97]
def str_f : List UInt8 := [102]
def str_ra : List UInt8 := [114, 97]
def str_plus : List UInt8 := [112, 108, 117, 115]
def str_minus : List UInt8 := [109, 105, 110, 117, 115]
def str_charge : List UInt8 := [99, 104, 97, 114, 103, 101]
def str_X : List UInt8 := [88]
def str_ACJRE : List UInt8 := [65, 67, 74, 82, 69]
def str_0 : List UInt8 := [48]
def str_spring : List UInt8 := [115, 112, 114, 105, 110, 103]
def str_imp : List UInt8 := [105, 109, 112]
def str_ember_fox : List UInt8 := [101, 109, 98, 101, 114, 45, 102, 111, 120]
def str_20_spring_4_ember_fox_ : List UInt8 := [50, 48, 32, 115, 112, 114, 105, 110, 103, 10, 52, 32, 101, 109, 98, 101, 114, 45, 102, 111, 120, 10]
def str_x0a : List UInt8 := [10]
theorem isif58 : isIface Tryz.prog 58 = true := by kernel_rfl
theorem okp103 : okPlc Tryz.prog 103 = true := by kernel_rfl
theorem okp107 : okPlc Tryz.prog 107 = true := by kernel_rfl
theorem okp109 : okPlc Tryz.prog 109 = true := by kernel_rfl
theorem okp111 : okPlc Tryz.prog 111 = true := by kernel_rfl
theorem okp152 : okPlc Tryz.prog 152 = true := by kernel_rfl
theorem okp25 : okPlc Tryz.prog 25 = true := by kernel_rfl
theorem okp28 : okPlc Tryz.prog 28 = true := by kernel_rfl
theorem okp43 : okPlc Tryz.prog 43 = true := by kernel_rfl
theorem okp46 : okPlc Tryz.prog 46 = true := by kernel_rfl
theorem okp49 : okPlc Tryz.prog 49 = true := by kernel_rfl
theorem okp94 : okPlc Tryz.prog 94 = true := by kernel_rfl
theorem okp97 : okPlc Tryz.prog 97 = true := by kernel_rfl
theorem okp99 : okPlc Tryz.prog 99 = true := by kernel_rfl
end Go.PL
