/- Functions of the program, as partial functions in Lean, with proofs. -/
import Derived.Test.YtlinpadogiggaaaGreatDoorPlWtoPlPd
import Derived.Test.YtlinpadogiggaaaGreatDoorRows
import Derived.Test.YtlinpadogiggaaaGreatDoorPlShelf
namespace Go.PL
open Go Go.RowKit Go.Proofs
set_option maxRecDepth 100000
set_option linter.all false
set_option maxHeartbeats 1000000
theorem followsP : Tryz.prog.follows .mixedOrders = true := by kernel_rfl
def I0 (w : World) : Prop := Lib.TabIs Tryz.prog w "internal/strconv.uint64pow10" .u64 Lib.pow10Tab
theorem var_stable {P : Program} {w w' : World} {n : String} {cs : Array Value} (h2 : ∀ b, b < w.heap.size → w'.heap[b]? = w.heap[b]?) (h : w.var? P n = some cs) : w'.var? P n = some cs := by
  unfold World.var? at h ⊢
  cases hg : P.globalNamed n with
  | none => rw [hg] at h; cases h
  | some g =>
    rw [hg] at h
    simp only [Option.bind_some] at h ⊢
    by_cases hlt : g < w.heap.size
    · rw [h2 g hlt]; exact h
    · rw [Array.getElem?_eq_none (by omega)] at h; cases h
theorem I0_stable : Stable I0 := fun _ _ h _ h2 => var_stable h2 h
def dItoa (n : Int) : Option (List UInt8) := if -9223372036854775808 ≤ n ∧ n ≤ 9223372036854775807 then some (Lib.itoa n) else none
theorem okItoa {n : Int} {r : List UInt8} (h : dItoa n = some r) : PCall Tryz.prog I0 68 [vI n] (· = vS r) := by
  unfold dItoa at h
  split at h
  · rename_i hb
    injection h with h; subst h
    refine ⟨by kernel_rfl, fun w vs av hI hav hr => ?_⟩
    simp only [RelVs] at hr
    obtain ⟨v, r, h1, h2, rfl⟩ := hr
    obtain rfl : vs = #[v] := Array.ext' h1
    simp only [RelV, RelC] at h2
    subst h2
    refine (Tryz.strconv_Itoa n hb.1 hb.2 w hI).mono fun e w' ⟨he, k, os, hw⟩ => ?_
    subst hw
    refine ⟨_, _, he, rfl, rfl, ?_, ?_⟩
    · simp only [RelV, RelC]
    · refine ⟨rfl, rfl, rfl, by simp [Sort.grow], fun i hi => ?_⟩
      show ((w.drewN k).heap ++ os)[i]? = _
      rw [Array.getElem?_append_left (by show i < w.heap.size; omega)]
      rfl
  · cases h
def dJoin (l : List (List UInt8)) (sep : List UInt8) : Option (List UInt8) := if l.length ≤ 140737488355328 ∧ (Lib.join l sep).length ≤ 140737488355328 then some (Lib.join l sep) else none
theorem rows_str {w : World} {G : Ctx} {b : Nat} : ∀ {l : List (List UInt8)} {o : Nat}, RelRow w G (l.flatMap eS) b o → ∀ (j : Nat) x, (l.map fun s => (⟨s.toArray⟩ : ByteArray))[j]? = some x → w.cell? ⟨b, o + j, none⟩ = some (.string x)
  | [], _, _, j, x, h => by simp at h
  | s :: l, o, h, j, x, hx => by
    rw [List.flatMap_cons] at h
    simp only [eS, List.cons_append, List.nil_append, RelRow, RelC] at h
    obtain ⟨⟨v, h1, h2⟩, h3⟩ := h
    subst h2
    cases j with
    | zero => simp at hx; subst hx; simpa using h1
    | succ j => simpa [Nat.add_assoc, Nat.add_comm 1 j] using rows_str h3 j x (by simpa using hx)
theorem okJoin {l : List (List UInt8)} {sep r : List UInt8} (h : dJoin l sep = some r) : PCall Tryz.prog I0 43 [vL eS l, vS sep] (· = vS r) := by
  unfold dJoin at h
  split at h
  · rename_i hb
    injection h with h; subst h
    refine ⟨by kernel_rfl, fun w vs av hI hav hr => ?_⟩
    simp only [RelVs] at hr
    obtain ⟨v, r, h1, h2, u, r2, rfl, h3, rfl⟩ := hr
    obtain rfl : vs = #[v, u] := Array.ext' h1
    simp only [RelV, RelC] at h2 h3
    subst h3
    obtain ⟨_, a, cap, rfl, hc1, hc2, hc3, hc4⟩ := h2
    have e : (l.map fun s => (⟨s.toArray⟩ : ByteArray)).map (·.data.toList) = l := by rw [List.map_map]; exact (List.map_congr_left (fun _ _ => rfl)).trans (List.map_id _)
    rcases hc4 with hc4 | ⟨b, o, rfl, _, hb2, hrow⟩
    · have hl : l = [] := List.length_eq_zero_iff.1 hc4
      subst hl
      refine (Tryz.strings_Join_none a cap ⟨sep.toArray⟩ w).mono fun e w' ⟨he, hw⟩ => ?_
      subst hw
      exact ⟨_, _, he, rfl, rfl, by simp only [RelV, RelC]; rfl, Below.refl _ _⟩
    · have := Tryz.strings_Join b o cap (l.map fun s => (⟨s.toArray⟩ : ByteArray)) ⟨sep.toArray⟩ w (rows_str hrow) hb2 (by simpa using hb.1) (by simpa using hc1) (by rw [e]; exact hb.2)
      rw [List.length_map] at this
      refine this.mono fun e' w' ⟨he, hw⟩ => ?_
      rw [e] at he
      exact ⟨_, _, he, rfl, rfl, by simp only [RelV, RelC], hw⟩
  · cases h
structure A3 (α : Type) where
  x0 : α
  x1 : α
  x2 : α
  deriving DecidableEq, Inhabited
def A3.l {α : Type} (a : A3 α) : List α := [a.x0, a.x1, a.x2]
def eA3 {α : Type} (e : α → List C) (a : A3 α) : List C := a.l.flatMap e
def A3.set {α : Type} (a : A3 α) (i : Nat) (v : α) : A3 α := ⟨if i = 0 then v else a.x0, if i = 1 then v else a.x1, if i = 2 then v else a.x2⟩
theorem A3.l_set {α : Type} (a : A3 α) (i : Nat) (v : α) : (a.set i v).l = a.l.set i v := by
  rcases i with _ | _ | _ | i <;> simp [A3.set, A3.l]
structure A5 (α : Type) where
  x0 : α
  x1 : α
  x2 : α
  x3 : α
  x4 : α
  deriving DecidableEq, Inhabited
def A5.l {α : Type} (a : A5 α) : List α := [a.x0, a.x1, a.x2, a.x3, a.x4]
def eA5 {α : Type} (e : α → List C) (a : A5 α) : List C := a.l.flatMap e
def A5.set {α : Type} (a : A5 α) (i : Nat) (v : α) : A5 α := ⟨if i = 0 then v else a.x0, if i = 1 then v else a.x1, if i = 2 then v else a.x2, if i = 3 then v else a.x3, if i = 4 then v else a.x4⟩
theorem A5.l_set {α : Type} (a : A5 α) (i : Nat) (v : α) : (a.set i v).l = a.l.set i v := by
  rcases i with _ | _ | _ | _ | _ | i <;> simp [A5.set, A5.l]
structure A6 (α : Type) where
  x0 : α
  x1 : α
  x2 : α
  x3 : α
  x4 : α
  x5 : α
  deriving DecidableEq, Inhabited
def A6.l {α : Type} (a : A6 α) : List α := [a.x0, a.x1, a.x2, a.x3, a.x4, a.x5]
def eA6 {α : Type} (e : α → List C) (a : A6 α) : List C := a.l.flatMap e
def A6.set {α : Type} (a : A6 α) (i : Nat) (v : α) : A6 α := ⟨if i = 0 then v else a.x0, if i = 1 then v else a.x1, if i = 2 then v else a.x2, if i = 3 then v else a.x3, if i = 4 then v else a.x4, if i = 5 then v else a.x5⟩
theorem A6.l_set {α : Type} (a : A6 α) (i : Nat) (v : α) : (a.set i v).l = a.l.set i v := by
  rcases i with _ | _ | _ | _ | _ | _ | i <;> simp [A6.set, A6.l]
structure A9 (α : Type) where
  x0 : α
  x1 : α
  x2 : α
  x3 : α
  x4 : α
  x5 : α
  x6 : α
  x7 : α
  x8 : α
  deriving DecidableEq, Inhabited
def A9.l {α : Type} (a : A9 α) : List α := [a.x0, a.x1, a.x2, a.x3, a.x4, a.x5, a.x6, a.x7, a.x8]
def eA9 {α : Type} (e : α → List C) (a : A9 α) : List C := a.l.flatMap e
def A9.set {α : Type} (a : A9 α) (i : Nat) (v : α) : A9 α := ⟨if i = 0 then v else a.x0, if i = 1 then v else a.x1, if i = 2 then v else a.x2, if i = 3 then v else a.x3, if i = 4 then v else a.x4, if i = 5 then v else a.x5, if i = 6 then v else a.x6, if i = 7 then v else a.x7, if i = 8 then v else a.x8⟩
theorem A9.l_set {α : Type} (a : A9 α) (i : Nat) (v : α) : (a.set i v).l = a.l.set i v := by
  rcases i with _ | _ | _ | _ | _ | _ | _ | _ | _ | i <;> simp [A9.set, A9.l]
structure A17 (α : Type) where
  x0 : α
  x1 : α
  x2 : α
  x3 : α
  x4 : α
  x5 : α
  x6 : α
  x7 : α
  x8 : α
  x9 : α
  x10 : α
  x11 : α
  x12 : α
  x13 : α
  x14 : α
  x15 : α
  x16 : α
  deriving DecidableEq, Inhabited
def A17.l {α : Type} (a : A17 α) : List α := [a.x0, a.x1, a.x2, a.x3, a.x4, a.x5, a.x6, a.x7, a.x8, a.x9, a.x10, a.x11, a.x12, a.x13, a.x14, a.x15, a.x16]
def eA17 {α : Type} (e : α → List C) (a : A17 α) : List C := a.l.flatMap e
def A17.set {α : Type} (a : A17 α) (i : Nat) (v : α) : A17 α := ⟨if i = 0 then v else a.x0, if i = 1 then v else a.x1, if i = 2 then v else a.x2, if i = 3 then v else a.x3, if i = 4 then v else a.x4, if i = 5 then v else a.x5, if i = 6 then v else a.x6, if i = 7 then v else a.x7, if i = 8 then v else a.x8, if i = 9 then v else a.x9, if i = 10 then v else a.x10, if i = 11 then v else a.x11, if i = 12 then v else a.x12, if i = 13 then v else a.x13, if i = 14 then v else a.x14, if i = 15 then v else a.x15, if i = 16 then v else a.x16⟩
theorem A17.l_set {α : Type} (a : A17 α) (i : Nat) (v : α) : (a.set i v).l = a.l.set i v := by
  rcases i with _ | _ | _ | _ | _ | _ | _ | _ | _ | _ | _ | _ | _ | _ | _ | _ | _ | i <;> simp [A17.set, A17.l]
structure SCost where
  Generic : Int
  X : Int
  Color : A5 (Int)
  deriving DecidableEq, Inhabited
def encSCost (x : SCost) : List C := [.int .i64 ((x).Generic), .int .i64 ((x).X), .int .i64 (((x).Color).x0), .int .i64 (((x).Color).x1), .int .i64 (((x).Color).x2), .int .i64 (((x).Color).x3), .int .i64 (((x).Color).x4)]
structure SLine where
  Super : Int
  Types : Int
  Subs : List (List UInt8)
  deriving DecidableEq, Inhabited
def encSLine (x : SLine) : List C := [.int .i64 ((x).Super), .int .i64 ((x).Types), .sl ((x).Subs).length (((x).Subs).flatMap (eS))]
structure SBound where
  Kind : Int
  N : Int
  deriving DecidableEq, Inhabited
def encSBound (x : SBound) : List C := [.int .i64 ((x).Kind), .int .i64 ((x).N)]
structure SFilter where
  Zone : Int
  Who : Int
  Self : Int
  Types : Int
  NotTypes : Int
  Colors : Int
  NotColors : Int
  Sub : List UInt8
  Keys : Int
  Tap : Int
  Power : SBound
  Tough : SBound
  Value : SBound
  deriving DecidableEq, Inhabited
def encSFilter (x : SFilter) : List C := [.int .i64 ((x).Zone), .int .i64 ((x).Who), .int .i64 ((x).Self), .int .i64 ((x).Types), .int .i64 ((x).NotTypes), .int .i64 ((x).Colors), .int .i64 ((x).NotColors), .str ((x).Sub), .int .i64 ((x).Keys), .int .i64 ((x).Tap), .int .i64 (((x).Power).Kind), .int .i64 (((x).Power).N), .int .i64 (((x).Tough).Kind), .int .i64 (((x).Tough).N), .int .i64 (((x).Value).Kind), .int .i64 (((x).Value).N)]
structure SMod where
  Kind : Int
  N : Int
  M : Int
  Sub : List UInt8
  Filter : SFilter
  deriving DecidableEq, Inhabited
def encSMod (x : SMod) : List C := [.int .i64 ((x).Kind), .int .i64 ((x).N), .int .i64 ((x).M), .str ((x).Sub), .int .i64 (((x).Filter).Zone), .int .i64 (((x).Filter).Who), .int .i64 (((x).Filter).Self), .int .i64 (((x).Filter).Types), .int .i64 (((x).Filter).NotTypes), .int .i64 (((x).Filter).Colors), .int .i64 (((x).Filter).NotColors), .str (((x).Filter).Sub), .int .i64 (((x).Filter).Keys), .int .i64 (((x).Filter).Tap), .int .i64 ((((x).Filter).Power).Kind), .int .i64 ((((x).Filter).Power).N), .int .i64 ((((x).Filter).Tough).Kind), .int .i64 ((((x).Filter).Tough).N), .int .i64 ((((x).Filter).Value).Kind), .int .i64 ((((x).Filter).Value).N)]
theorem lenSMod (x : SMod) : (encSMod x).length = 20 := rfl
structure SPrice where
  Mana : SCost
  Tap : Bool
  Sacrifice : Bool
  Life : Int
  deriving DecidableEq, Inhabited
def encSPrice (x : SPrice) : List C := [.int .i64 (((x).Mana).Generic), .int .i64 (((x).Mana).X), .int .i64 ((((x).Mana).Color).x0), .int .i64 ((((x).Mana).Color).x1), .int .i64 ((((x).Mana).Color).x2), .int .i64 ((((x).Mana).Color).x3), .int .i64 ((((x).Mana).Color).x4), .bool ((x).Tap), .bool ((x).Sacrifice), .int .i64 ((x).Life)]
structure STrigger where
  When : Int
  Who : Int
  Filter : SFilter
  deriving DecidableEq, Inhabited
def encSTrigger (x : STrigger) : List C := [.int .i64 ((x).When), .int .i64 ((x).Who), .int .i64 (((x).Filter).Zone), .int .i64 (((x).Filter).Who), .int .i64 (((x).Filter).Self), .int .i64 (((x).Filter).Types), .int .i64 (((x).Filter).NotTypes), .int .i64 (((x).Filter).Colors), .int .i64 (((x).Filter).NotColors), .str (((x).Filter).Sub), .int .i64 (((x).Filter).Keys), .int .i64 (((x).Filter).Tap), .int .i64 ((((x).Filter).Power).Kind), .int .i64 ((((x).Filter).Power).N), .int .i64 ((((x).Filter).Tough).Kind), .int .i64 ((((x).Filter).Tough).N), .int .i64 ((((x).Filter).Value).Kind), .int .i64 ((((x).Filter).Value).N)]
structure SSpec where
  Player : Bool
  Object : Bool
  Filter : SFilter
  deriving DecidableEq, Inhabited
def encSSpec (x : SSpec) : List C := [.bool ((x).Player), .bool ((x).Object), .int .i64 (((x).Filter).Zone), .int .i64 (((x).Filter).Who), .int .i64 (((x).Filter).Self), .int .i64 (((x).Filter).Types), .int .i64 (((x).Filter).NotTypes), .int .i64 (((x).Filter).Colors), .int .i64 (((x).Filter).NotColors), .str (((x).Filter).Sub), .int .i64 (((x).Filter).Keys), .int .i64 (((x).Filter).Tap), .int .i64 ((((x).Filter).Power).Kind), .int .i64 ((((x).Filter).Power).N), .int .i64 ((((x).Filter).Tough).Kind), .int .i64 ((((x).Filter).Tough).N), .int .i64 ((((x).Filter).Value).Kind), .int .i64 ((((x).Filter).Value).N)]
theorem lenSSpec (x : SSpec) : (encSSpec x).length = 18 := rfl
structure SRef where
  Kind : Int
  N : Int
  Filter : SFilter
  deriving DecidableEq, Inhabited
def encSRef (x : SRef) : List C := [.int .i64 ((x).Kind), .int .i64 ((x).N), .int .i64 (((x).Filter).Zone), .int .i64 (((x).Filter).Who), .int .i64 (((x).Filter).Self), .int .i64 (((x).Filter).Types), .int .i64 (((x).Filter).NotTypes), .int .i64 (((x).Filter).Colors), .int .i64 (((x).Filter).NotColors), .str (((x).Filter).Sub), .int .i64 (((x).Filter).Keys), .int .i64 (((x).Filter).Tap), .int .i64 ((((x).Filter).Power).Kind), .int .i64 ((((x).Filter).Power).N), .int .i64 ((((x).Filter).Tough).Kind), .int .i64 ((((x).Filter).Tough).N), .int .i64 ((((x).Filter).Value).Kind), .int .i64 ((((x).Filter).Value).N)]
structure SAmount where
  Kind : Int
  N : Int
  Counter : Int
  Filter : SFilter
  deriving DecidableEq, Inhabited
def encSAmount (x : SAmount) : List C := [.int .i64 ((x).Kind), .int .i64 ((x).N), .int .i64 ((x).Counter), .int .i64 (((x).Filter).Zone), .int .i64 (((x).Filter).Who), .int .i64 (((x).Filter).Self), .int .i64 (((x).Filter).Types), .int .i64 (((x).Filter).NotTypes), .int .i64 (((x).Filter).Colors), .int .i64 (((x).Filter).NotColors), .str (((x).Filter).Sub), .int .i64 (((x).Filter).Keys), .int .i64 (((x).Filter).Tap), .int .i64 ((((x).Filter).Power).Kind), .int .i64 ((((x).Filter).Power).N), .int .i64 ((((x).Filter).Tough).Kind), .int .i64 ((((x).Filter).Tough).N), .int .i64 ((((x).Filter).Value).Kind), .int .i64 ((((x).Filter).Value).N)]
structure SEffect where
  Op : Int
  Ref : SRef
  Amount : SAmount
  Counter : Int
  Zone : Int
  Card : List UInt8
  Filter : SFilter
  Pool : A6 (Int)
  Mods : List (SMod)
  deriving DecidableEq, Inhabited
def encSEffect (x : SEffect) : List C := [.int .i64 ((x).Op), .int .i64 (((x).Ref).Kind), .int .i64 (((x).Ref).N), .int .i64 ((((x).Ref).Filter).Zone), .int .i64 ((((x).Ref).Filter).Who), .int .i64 ((((x).Ref).Filter).Self), .int .i64 ((((x).Ref).Filter).Types), .int .i64 ((((x).Ref).Filter).NotTypes), .int .i64 ((((x).Ref).Filter).Colors), .int .i64 ((((x).Ref).Filter).NotColors), .str ((((x).Ref).Filter).Sub), .int .i64 ((((x).Ref).Filter).Keys), .int .i64 ((((x).Ref).Filter).Tap), .int .i64 (((((x).Ref).Filter).Power).Kind), .int .i64 (((((x).Ref).Filter).Power).N), .int .i64 (((((x).Ref).Filter).Tough).Kind), .int .i64 (((((x).Ref).Filter).Tough).N), .int .i64 (((((x).Ref).Filter).Value).Kind), .int .i64 (((((x).Ref).Filter).Value).N), .int .i64 (((x).Amount).Kind), .int .i64 (((x).Amount).N), .int .i64 (((x).Amount).Counter), .int .i64 ((((x).Amount).Filter).Zone), .int .i64 ((((x).Amount).Filter).Who), .int .i64 ((((x).Amount).Filter).Self), .int .i64 ((((x).Amount).Filter).Types), .int .i64 ((((x).Amount).Filter).NotTypes), .int .i64 ((((x).Amount).Filter).Colors), .int .i64 ((((x).Amount).Filter).NotColors), .str ((((x).Amount).Filter).Sub), .int .i64 ((((x).Amount).Filter).Keys), .int .i64 ((((x).Amount).Filter).Tap), .int .i64 (((((x).Amount).Filter).Power).Kind), .int .i64 (((((x).Amount).Filter).Power).N), .int .i64 (((((x).Amount).Filter).Tough).Kind), .int .i64 (((((x).Amount).Filter).Tough).N), .int .i64 (((((x).Amount).Filter).Value).Kind), .int .i64 (((((x).Amount).Filter).Value).N), .int .i64 ((x).Counter), .int .i64 ((x).Zone), .str ((x).Card), .int .i64 (((x).Filter).Zone), .int .i64 (((x).Filter).Who), .int .i64 (((x).Filter).Self), .int .i64 (((x).Filter).Types), .int .i64 (((x).Filter).NotTypes), .int .i64 (((x).Filter).Colors), .int .i64 (((x).Filter).NotColors), .str (((x).Filter).Sub), .int .i64 (((x).Filter).Keys), .int .i64 (((x).Filter).Tap), .int .i64 ((((x).Filter).Power).Kind), .int .i64 ((((x).Filter).Power).N), .int .i64 ((((x).Filter).Tough).Kind), .int .i64 ((((x).Filter).Tough).N), .int .i64 ((((x).Filter).Value).Kind), .int .i64 ((((x).Filter).Value).N), .int .i64 (((x).Pool).x0), .int .i64 (((x).Pool).x1), .int .i64 (((x).Pool).x2), .int .i64 (((x).Pool).x3), .int .i64 (((x).Pool).x4), .int .i64 (((x).Pool).x5), .sl ((x).Mods).length (((x).Mods).flatMap (encSMod))]
theorem lenSEffect (x : SEffect) : (encSEffect x).length = 64 := rfl
structure SReplace where
  On : Int
  Who : Int
  Filter : SFilter
  Do : Int
  N : Int
  Zone : Int
  Counter : Int
  deriving DecidableEq, Inhabited
def encSReplace (x : SReplace) : List C := [.int .i64 ((x).On), .int .i64 ((x).Who), .int .i64 (((x).Filter).Zone), .int .i64 (((x).Filter).Who), .int .i64 (((x).Filter).Self), .int .i64 (((x).Filter).Types), .int .i64 (((x).Filter).NotTypes), .int .i64 (((x).Filter).Colors), .int .i64 (((x).Filter).NotColors), .str (((x).Filter).Sub), .int .i64 (((x).Filter).Keys), .int .i64 (((x).Filter).Tap), .int .i64 ((((x).Filter).Power).Kind), .int .i64 ((((x).Filter).Power).N), .int .i64 ((((x).Filter).Tough).Kind), .int .i64 ((((x).Filter).Tough).N), .int .i64 ((((x).Filter).Value).Kind), .int .i64 ((((x).Filter).Value).N), .int .i64 ((x).Do), .int .i64 ((x).N), .int .i64 ((x).Zone), .int .i64 ((x).Counter)]
structure SAbility where
  Kind : Int
  Filter : SFilter
  Mods : List (SMod)
  Price : SPrice
  Slow : Bool
  Trigger : STrigger
  May : Bool
  Specs : List (SSpec)
  Effects : List (SEffect)
  Replace : SReplace
  deriving DecidableEq, Inhabited
def encSAbility (x : SAbility) : List C := [.int .i64 ((x).Kind), .int .i64 (((x).Filter).Zone), .int .i64 (((x).Filter).Who), .int .i64 (((x).Filter).Self), .int .i64 (((x).Filter).Types), .int .i64 (((x).Filter).NotTypes), .int .i64 (((x).Filter).Colors), .int .i64 (((x).Filter).NotColors), .str (((x).Filter).Sub), .int .i64 (((x).Filter).Keys), .int .i64 (((x).Filter).Tap), .int .i64 ((((x).Filter).Power).Kind), .int .i64 ((((x).Filter).Power).N), .int .i64 ((((x).Filter).Tough).Kind), .int .i64 ((((x).Filter).Tough).N), .int .i64 ((((x).Filter).Value).Kind), .int .i64 ((((x).Filter).Value).N), .sl ((x).Mods).length (((x).Mods).flatMap (encSMod)), .int .i64 ((((x).Price).Mana).Generic), .int .i64 ((((x).Price).Mana).X), .int .i64 (((((x).Price).Mana).Color).x0), .int .i64 (((((x).Price).Mana).Color).x1), .int .i64 (((((x).Price).Mana).Color).x2), .int .i64 (((((x).Price).Mana).Color).x3), .int .i64 (((((x).Price).Mana).Color).x4), .bool (((x).Price).Tap), .bool (((x).Price).Sacrifice), .int .i64 (((x).Price).Life), .bool ((x).Slow), .int .i64 (((x).Trigger).When), .int .i64 (((x).Trigger).Who), .int .i64 ((((x).Trigger).Filter).Zone), .int .i64 ((((x).Trigger).Filter).Who), .int .i64 ((((x).Trigger).Filter).Self), .int .i64 ((((x).Trigger).Filter).Types), .int .i64 ((((x).Trigger).Filter).NotTypes), .int .i64 ((((x).Trigger).Filter).Colors), .int .i64 ((((x).Trigger).Filter).NotColors), .str ((((x).Trigger).Filter).Sub), .int .i64 ((((x).Trigger).Filter).Keys), .int .i64 ((((x).Trigger).Filter).Tap), .int .i64 (((((x).Trigger).Filter).Power).Kind), .int .i64 (((((x).Trigger).Filter).Power).N), .int .i64 (((((x).Trigger).Filter).Tough).Kind), .int .i64 (((((x).Trigger).Filter).Tough).N), .int .i64 (((((x).Trigger).Filter).Value).Kind), .int .i64 (((((x).Trigger).Filter).Value).N), .bool ((x).May), .sl ((x).Specs).length (((x).Specs).flatMap (encSSpec)), .sl ((x).Effects).length (((x).Effects).flatMap (encSEffect)), .int .i64 (((x).Replace).On), .int .i64 (((x).Replace).Who), .int .i64 ((((x).Replace).Filter).Zone), .int .i64 ((((x).Replace).Filter).Who), .int .i64 ((((x).Replace).Filter).Self), .int .i64 ((((x).Replace).Filter).Types), .int .i64 ((((x).Replace).Filter).NotTypes), .int .i64 ((((x).Replace).Filter).Colors), .int .i64 ((((x).Replace).Filter).NotColors), .str ((((x).Replace).Filter).Sub), .int .i64 ((((x).Replace).Filter).Keys), .int .i64 ((((x).Replace).Filter).Tap), .int .i64 (((((x).Replace).Filter).Power).Kind), .int .i64 (((((x).Replace).Filter).Power).N), .int .i64 (((((x).Replace).Filter).Tough).Kind), .int .i64 (((((x).Replace).Filter).Tough).N), .int .i64 (((((x).Replace).Filter).Value).Kind), .int .i64 (((((x).Replace).Filter).Value).N), .int .i64 (((x).Replace).Do), .int .i64 (((x).Replace).N), .int .i64 (((x).Replace).Zone), .int .i64 (((x).Replace).Counter)]
theorem lenSAbility (x : SAbility) : (encSAbility x).length = 72 := rfl
structure SCard where
  Name : List UInt8
  Token : Bool
  Cost : SCost
  Color : Int
  Line : SLine
  Power : Int
  Tough : Int
  Keys : Int
  Abilities : List (SAbility)
  deriving DecidableEq, Inhabited
def encSCard (x : SCard) : List C := [.str ((x).Name), .bool ((x).Token), .int .i64 (((x).Cost).Generic), .int .i64 (((x).Cost).X), .int .i64 ((((x).Cost).Color).x0), .int .i64 ((((x).Cost).Color).x1), .int .i64 ((((x).Cost).Color).x2), .int .i64 ((((x).Cost).Color).x3), .int .i64 ((((x).Cost).Color).x4), .int .i64 ((x).Color), .int .i64 (((x).Line).Super), .int .i64 (((x).Line).Types), .sl (((x).Line).Subs).length ((((x).Line).Subs).flatMap (eS)), .int .i64 ((x).Power), .int .i64 ((x).Tough), .int .i64 ((x).Keys), .sl ((x).Abilities).length (((x).Abilities).flatMap (encSAbility))]
theorem lenSCard (x : SCard) : (encSCard x).length = 17 := rfl
structure SPlayer where
  Life : Int
  Venom : Int
  Lands : Int
  Pool : A6 (Int)
  Failed : Bool
  Lost : Bool
  Library : List (Int)
  Hand : List (Int)
  Graveyard : List (Int)
  deriving DecidableEq, Inhabited
def encSPlayer (x : SPlayer) : List C := [.int .i64 ((x).Life), .int .i64 ((x).Venom), .int .i64 ((x).Lands), .int .i64 (((x).Pool).x0), .int .i64 (((x).Pool).x1), .int .i64 (((x).Pool).x2), .int .i64 (((x).Pool).x3), .int .i64 (((x).Pool).x4), .int .i64 (((x).Pool).x5), .bool ((x).Failed), .bool ((x).Lost), .sl ((x).Library).length (((x).Library).flatMap (eI .i64)), .sl ((x).Hand).length (((x).Hand).flatMap (eI .i64)), .sl ((x).Graveyard).length (((x).Graveyard).flatMap (eI .i64))]
theorem lenSPlayer (x : SPlayer) : (encSPlayer x).length = 14 := rfl
structure SObject where
  Id : Int
  Card : Int
  Owner : Int
  Control : Int
  Zone : Int
  Token : Bool
  Tapped : Bool
  Sick : Bool
  Deadly : Bool
  Damage : Int
  Counters : A3 (Int)
  Stamp : Int
  Copy : Int
  Attack : Int
  Blocked : Bool
  Blocks : Int
  Shield : Int
  deriving DecidableEq, Inhabited
def encSObject (x : SObject) : List C := [.int .i64 ((x).Id), .int .i64 ((x).Card), .int .i64 ((x).Owner), .int .i64 ((x).Control), .int .i64 ((x).Zone), .bool ((x).Token), .bool ((x).Tapped), .bool ((x).Sick), .bool ((x).Deadly), .int .i64 ((x).Damage), .int .i64 (((x).Counters).x0), .int .i64 (((x).Counters).x1), .int .i64 (((x).Counters).x2), .int .i64 ((x).Stamp), .int .i64 ((x).Copy), .int .i64 ((x).Attack), .bool ((x).Blocked), .int .i64 ((x).Blocks), .int .i64 ((x).Shield)]
theorem lenSObject (x : SObject) : (encSObject x).length = 19 := rfl
structure STarget where
  Object : Int
  Player : Int
  deriving DecidableEq, Inhabited
def encSTarget (x : STarget) : List C := [.int .i64 ((x).Object), .int .i64 ((x).Player)]
structure SEvent where
  Kind : Int
  Source : Int
  Object : Int
  Player : Int
  Amount : Int
  From : Int
  To : Int
  Cause : Int
  Counter : Int
  Card : Int
  Combat : Bool
  Tapped : Bool
  Extra : A3 (Int)
  deriving DecidableEq, Inhabited
def encSEvent (x : SEvent) : List C := [.int .i64 ((x).Kind), .int .i64 ((x).Source), .int .i64 ((x).Object), .int .i64 ((x).Player), .int .i64 ((x).Amount), .int .i64 ((x).From), .int .i64 ((x).To), .int .i64 ((x).Cause), .int .i64 ((x).Counter), .int .i64 ((x).Card), .bool ((x).Combat), .bool ((x).Tapped), .int .i64 (((x).Extra).x0), .int .i64 (((x).Extra).x1), .int .i64 (((x).Extra).x2)]
structure SItem where
  Id : Int
  Kind : Int
  Source : Int
  Control : Int
  X : Int
  Copy : Bool
  Ability : SAbility
  Targets : List (STarget)
  Event : SEvent
  deriving DecidableEq, Inhabited
def encSItem (x : SItem) : List C := [.int .i64 ((x).Id), .int .i64 ((x).Kind), .int .i64 ((x).Source), .int .i64 ((x).Control), .int .i64 ((x).X), .bool ((x).Copy), .int .i64 (((x).Ability).Kind), .int .i64 ((((x).Ability).Filter).Zone), .int .i64 ((((x).Ability).Filter).Who), .int .i64 ((((x).Ability).Filter).Self), .int .i64 ((((x).Ability).Filter).Types), .int .i64 ((((x).Ability).Filter).NotTypes), .int .i64 ((((x).Ability).Filter).Colors), .int .i64 ((((x).Ability).Filter).NotColors), .str ((((x).Ability).Filter).Sub), .int .i64 ((((x).Ability).Filter).Keys), .int .i64 ((((x).Ability).Filter).Tap), .int .i64 (((((x).Ability).Filter).Power).Kind), .int .i64 (((((x).Ability).Filter).Power).N), .int .i64 (((((x).Ability).Filter).Tough).Kind), .int .i64 (((((x).Ability).Filter).Tough).N), .int .i64 (((((x).Ability).Filter).Value).Kind), .int .i64 (((((x).Ability).Filter).Value).N), .sl (((x).Ability).Mods).length ((((x).Ability).Mods).flatMap (encSMod)), .int .i64 (((((x).Ability).Price).Mana).Generic), .int .i64 (((((x).Ability).Price).Mana).X), .int .i64 ((((((x).Ability).Price).Mana).Color).x0), .int .i64 ((((((x).Ability).Price).Mana).Color).x1), .int .i64 ((((((x).Ability).Price).Mana).Color).x2), .int .i64 ((((((x).Ability).Price).Mana).Color).x3), .int .i64 ((((((x).Ability).Price).Mana).Color).x4), .bool ((((x).Ability).Price).Tap), .bool ((((x).Ability).Price).Sacrifice), .int .i64 ((((x).Ability).Price).Life), .bool (((x).Ability).Slow), .int .i64 ((((x).Ability).Trigger).When), .int .i64 ((((x).Ability).Trigger).Who), .int .i64 (((((x).Ability).Trigger).Filter).Zone), .int .i64 (((((x).Ability).Trigger).Filter).Who), .int .i64 (((((x).Ability).Trigger).Filter).Self), .int .i64 (((((x).Ability).Trigger).Filter).Types), .int .i64 (((((x).Ability).Trigger).Filter).NotTypes), .int .i64 (((((x).Ability).Trigger).Filter).Colors), .int .i64 (((((x).Ability).Trigger).Filter).NotColors), .str (((((x).Ability).Trigger).Filter).Sub), .int .i64 (((((x).Ability).Trigger).Filter).Keys), .int .i64 (((((x).Ability).Trigger).Filter).Tap), .int .i64 ((((((x).Ability).Trigger).Filter).Power).Kind), .int .i64 ((((((x).Ability).Trigger).Filter).Power).N), .int .i64 ((((((x).Ability).Trigger).Filter).Tough).Kind), .int .i64 ((((((x).Ability).Trigger).Filter).Tough).N), .int .i64 ((((((x).Ability).Trigger).Filter).Value).Kind), .int .i64 ((((((x).Ability).Trigger).Filter).Value).N), .bool (((x).Ability).May), .sl (((x).Ability).Specs).length ((((x).Ability).Specs).flatMap (encSSpec)), .sl (((x).Ability).Effects).length ((((x).Ability).Effects).flatMap (encSEffect)), .int .i64 ((((x).Ability).Replace).On), .int .i64 ((((x).Ability).Replace).Who), .int .i64 (((((x).Ability).Replace).Filter).Zone), .int .i64 (((((x).Ability).Replace).Filter).Who), .int .i64 (((((x).Ability).Replace).Filter).Self), .int .i64 (((((x).Ability).Replace).Filter).Types), .int .i64 (((((x).Ability).Replace).Filter).NotTypes), .int .i64 (((((x).Ability).Replace).Filter).Colors), .int .i64 (((((x).Ability).Replace).Filter).NotColors), .str (((((x).Ability).Replace).Filter).Sub), .int .i64 (((((x).Ability).Replace).Filter).Keys), .int .i64 (((((x).Ability).Replace).Filter).Tap), .int .i64 ((((((x).Ability).Replace).Filter).Power).Kind), .int .i64 ((((((x).Ability).Replace).Filter).Power).N), .int .i64 ((((((x).Ability).Replace).Filter).Tough).Kind), .int .i64 ((((((x).Ability).Replace).Filter).Tough).N), .int .i64 ((((((x).Ability).Replace).Filter).Value).Kind), .int .i64 ((((((x).Ability).Replace).Filter).Value).N), .int .i64 ((((x).Ability).Replace).Do), .int .i64 ((((x).Ability).Replace).N), .int .i64 ((((x).Ability).Replace).Zone), .int .i64 ((((x).Ability).Replace).Counter), .sl ((x).Targets).length (((x).Targets).flatMap (encSTarget)), .int .i64 (((x).Event).Kind), .int .i64 (((x).Event).Source), .int .i64 (((x).Event).Object), .int .i64 (((x).Event).Player), .int .i64 (((x).Event).Amount), .int .i64 (((x).Event).From), .int .i64 (((x).Event).To), .int .i64 (((x).Event).Cause), .int .i64 (((x).Event).Counter), .int .i64 (((x).Event).Card), .bool (((x).Event).Combat), .bool (((x).Event).Tapped), .int .i64 ((((x).Event).Extra).x0), .int .i64 ((((x).Event).Extra).x1), .int .i64 ((((x).Event).Extra).x2)]
theorem lenSItem (x : SItem) : (encSItem x).length = 94 := rfl
structure SWaiting where
  Source : Int
  Control : Int
  Ability : SAbility
  Event : SEvent
  deriving DecidableEq, Inhabited
def encSWaiting (x : SWaiting) : List C := [.int .i64 ((x).Source), .int .i64 ((x).Control), .int .i64 (((x).Ability).Kind), .int .i64 ((((x).Ability).Filter).Zone), .int .i64 ((((x).Ability).Filter).Who), .int .i64 ((((x).Ability).Filter).Self), .int .i64 ((((x).Ability).Filter).Types), .int .i64 ((((x).Ability).Filter).NotTypes), .int .i64 ((((x).Ability).Filter).Colors), .int .i64 ((((x).Ability).Filter).NotColors), .str ((((x).Ability).Filter).Sub), .int .i64 ((((x).Ability).Filter).Keys), .int .i64 ((((x).Ability).Filter).Tap), .int .i64 (((((x).Ability).Filter).Power).Kind), .int .i64 (((((x).Ability).Filter).Power).N), .int .i64 (((((x).Ability).Filter).Tough).Kind), .int .i64 (((((x).Ability).Filter).Tough).N), .int .i64 (((((x).Ability).Filter).Value).Kind), .int .i64 (((((x).Ability).Filter).Value).N), .sl (((x).Ability).Mods).length ((((x).Ability).Mods).flatMap (encSMod)), .int .i64 (((((x).Ability).Price).Mana).Generic), .int .i64 (((((x).Ability).Price).Mana).X), .int .i64 ((((((x).Ability).Price).Mana).Color).x0), .int .i64 ((((((x).Ability).Price).Mana).Color).x1), .int .i64 ((((((x).Ability).Price).Mana).Color).x2), .int .i64 ((((((x).Ability).Price).Mana).Color).x3), .int .i64 ((((((x).Ability).Price).Mana).Color).x4), .bool ((((x).Ability).Price).Tap), .bool ((((x).Ability).Price).Sacrifice), .int .i64 ((((x).Ability).Price).Life), .bool (((x).Ability).Slow), .int .i64 ((((x).Ability).Trigger).When), .int .i64 ((((x).Ability).Trigger).Who), .int .i64 (((((x).Ability).Trigger).Filter).Zone), .int .i64 (((((x).Ability).Trigger).Filter).Who), .int .i64 (((((x).Ability).Trigger).Filter).Self), .int .i64 (((((x).Ability).Trigger).Filter).Types), .int .i64 (((((x).Ability).Trigger).Filter).NotTypes), .int .i64 (((((x).Ability).Trigger).Filter).Colors), .int .i64 (((((x).Ability).Trigger).Filter).NotColors), .str (((((x).Ability).Trigger).Filter).Sub), .int .i64 (((((x).Ability).Trigger).Filter).Keys), .int .i64 (((((x).Ability).Trigger).Filter).Tap), .int .i64 ((((((x).Ability).Trigger).Filter).Power).Kind), .int .i64 ((((((x).Ability).Trigger).Filter).Power).N), .int .i64 ((((((x).Ability).Trigger).Filter).Tough).Kind), .int .i64 ((((((x).Ability).Trigger).Filter).Tough).N), .int .i64 ((((((x).Ability).Trigger).Filter).Value).Kind), .int .i64 ((((((x).Ability).Trigger).Filter).Value).N), .bool (((x).Ability).May), .sl (((x).Ability).Specs).length ((((x).Ability).Specs).flatMap (encSSpec)), .sl (((x).Ability).Effects).length ((((x).Ability).Effects).flatMap (encSEffect)), .int .i64 ((((x).Ability).Replace).On), .int .i64 ((((x).Ability).Replace).Who), .int .i64 (((((x).Ability).Replace).Filter).Zone), .int .i64 (((((x).Ability).Replace).Filter).Who), .int .i64 (((((x).Ability).Replace).Filter).Self), .int .i64 (((((x).Ability).Replace).Filter).Types), .int .i64 (((((x).Ability).Replace).Filter).NotTypes), .int .i64 (((((x).Ability).Replace).Filter).Colors), .int .i64 (((((x).Ability).Replace).Filter).NotColors), .str (((((x).Ability).Replace).Filter).Sub), .int .i64 (((((x).Ability).Replace).Filter).Keys), .int .i64 (((((x).Ability).Replace).Filter).Tap), .int .i64 ((((((x).Ability).Replace).Filter).Power).Kind), .int .i64 ((((((x).Ability).Replace).Filter).Power).N), .int .i64 ((((((x).Ability).Replace).Filter).Tough).Kind), .int .i64 ((((((x).Ability).Replace).Filter).Tough).N), .int .i64 ((((((x).Ability).Replace).Filter).Value).Kind), .int .i64 ((((((x).Ability).Replace).Filter).Value).N), .int .i64 ((((x).Ability).Replace).Do), .int .i64 ((((x).Ability).Replace).N), .int .i64 ((((x).Ability).Replace).Zone), .int .i64 ((((x).Ability).Replace).Counter), .int .i64 (((x).Event).Kind), .int .i64 (((x).Event).Source), .int .i64 (((x).Event).Object), .int .i64 (((x).Event).Player), .int .i64 (((x).Event).Amount), .int .i64 (((x).Event).From), .int .i64 (((x).Event).To), .int .i64 (((x).Event).Cause), .int .i64 (((x).Event).Counter), .int .i64 (((x).Event).Card), .bool (((x).Event).Combat), .bool (((x).Event).Tapped), .int .i64 ((((x).Event).Extra).x0), .int .i64 ((((x).Event).Extra).x1), .int .i64 ((((x).Event).Extra).x2)]
theorem lenSWaiting (x : SWaiting) : (encSWaiting x).length = 89 := rfl
structure SCont where
  Stamp : Int
  Control : Int
  Source : Int
  Until : Int
  Objects : List (Int)
  Mods : List (SMod)
  deriving DecidableEq, Inhabited
def encSCont (x : SCont) : List C := [.int .i64 ((x).Stamp), .int .i64 ((x).Control), .int .i64 ((x).Source), .int .i64 ((x).Until), .sl ((x).Objects).length (((x).Objects).flatMap (eI .i64)), .sl ((x).Mods).length (((x).Mods).flatMap (encSMod))]
theorem lenSCont (x : SCont) : (encSCont x).length = 6 := rfl
structure SState where
  Players : List (SPlayer)
  Objects : List (SObject)
  Battlefield : List (Int)
  Exile : List (Int)
  Stack : List (SItem)
  Waiting : List (SWaiting)
  Conts : List (SCont)
  Turn : Int
  Active : Int
  Step : Int
  Begun : Bool
  Priority : Int
  Passes : Int
  NextId : Int
  NextStamp : Int
  Seed : Int
  Extra : List (Int)
  Over : Int
  Winner : Int
  deriving DecidableEq, Inhabited
def encSState (x : SState) : List C := [.sl ((x).Players).length (((x).Players).flatMap (encSPlayer)), .sl ((x).Objects).length (((x).Objects).flatMap (encSObject)), .sl ((x).Battlefield).length (((x).Battlefield).flatMap (eI .i64)), .sl ((x).Exile).length (((x).Exile).flatMap (eI .i64)), .sl ((x).Stack).length (((x).Stack).flatMap (encSItem)), .sl ((x).Waiting).length (((x).Waiting).flatMap (encSWaiting)), .sl ((x).Conts).length (((x).Conts).flatMap (encSCont)), .int .i64 ((x).Turn), .int .i64 ((x).Active), .int .i64 ((x).Step), .bool ((x).Begun), .int .i64 ((x).Priority), .int .i64 ((x).Passes), .int .i64 ((x).NextId), .int .i64 ((x).NextStamp), .int .u64 ((x).Seed), .sl ((x).Extra).length (((x).Extra).flatMap (eI .i64)), .int .i64 ((x).Over), .int .i64 ((x).Winner)]
structure STraits where
  Name : List UInt8
  Cost : SCost
  Colors : Int
  Line : SLine
  Power : Int
  Tough : Int
  Keys : Int
  Abilities : List (SAbility)
  Control : Int
  deriving DecidableEq, Inhabited
def encSTraits (x : STraits) : List C := [.str ((x).Name), .int .i64 (((x).Cost).Generic), .int .i64 (((x).Cost).X), .int .i64 ((((x).Cost).Color).x0), .int .i64 ((((x).Cost).Color).x1), .int .i64 ((((x).Cost).Color).x2), .int .i64 ((((x).Cost).Color).x3), .int .i64 ((((x).Cost).Color).x4), .int .i64 ((x).Colors), .int .i64 (((x).Line).Super), .int .i64 (((x).Line).Types), .sl (((x).Line).Subs).length ((((x).Line).Subs).flatMap (eS)), .int .i64 ((x).Power), .int .i64 ((x).Tough), .int .i64 ((x).Keys), .sl ((x).Abilities).length (((x).Abilities).flatMap (encSAbility)), .int .i64 ((x).Control)]
theorem lenSTraits (x : STraits) : (encSTraits x).length = 17 := rfl
def dcT154 (cs : List C) : SMod := (⟨getI (cs.getD 0 .any), getI (cs.getD 1 .any), getI (cs.getD 2 .any), getS (cs.getD 3 .any), (⟨getI (cs.getD 4 .any), getI (cs.getD 5 .any), getI (cs.getD 6 .any), getI (cs.getD 7 .any), getI (cs.getD 8 .any), getI (cs.getD 9 .any), getI (cs.getD 10 .any), getS (cs.getD 11 .any), getI (cs.getD 12 .any), getI (cs.getD 13 .any), (⟨getI (cs.getD 14 .any), getI (cs.getD 15 .any)⟩ : SBound), (⟨getI (cs.getD 16 .any), getI (cs.getD 17 .any)⟩ : SBound), (⟨getI (cs.getD 18 .any), getI (cs.getD 19 .any)⟩ : SBound)⟩ : SFilter)⟩ : SMod)
theorem eqT154 (a b : SMod) : ceqL (encSMod a) (encSMod b) = (a == b) := ceqL_dec (encSMod) dcT154 (fun _ => rfl) (fun _ => rfl) (fun _ _ => rfl) a b
def dcT95 (cs : List C) : SFilter := (⟨getI (cs.getD 0 .any), getI (cs.getD 1 .any), getI (cs.getD 2 .any), getI (cs.getD 3 .any), getI (cs.getD 4 .any), getI (cs.getD 5 .any), getI (cs.getD 6 .any), getS (cs.getD 7 .any), getI (cs.getD 8 .any), getI (cs.getD 9 .any), (⟨getI (cs.getD 10 .any), getI (cs.getD 11 .any)⟩ : SBound), (⟨getI (cs.getD 12 .any), getI (cs.getD 13 .any)⟩ : SBound), (⟨getI (cs.getD 14 .any), getI (cs.getD 15 .any)⟩ : SBound)⟩ : SFilter)
theorem eqT95 (a b : SFilter) : ceqL (encSFilter a) (encSFilter b) = (a == b) := ceqL_dec (encSFilter) dcT95 (fun _ => rfl) (fun _ => rfl) (fun _ _ => rfl) a b
def dcT107 (cs : List C) : SPrice := (⟨(⟨getI (cs.getD 0 .any), getI (cs.getD 1 .any), (⟨getI (cs.getD 2 .any), getI (cs.getD 3 .any), getI (cs.getD 4 .any), getI (cs.getD 5 .any), getI (cs.getD 6 .any)⟩ : A5 (Int))⟩ : SCost), getB (cs.getD 7 .any), getB (cs.getD 8 .any), getI (cs.getD 9 .any)⟩ : SPrice)
theorem eqT107 (a b : SPrice) : ceqL (encSPrice a) (encSPrice b) = (a == b) := ceqL_dec (encSPrice) dcT107 (fun _ => rfl) (fun _ => rfl) (fun _ _ => rfl) a b
def dcT109 (cs : List C) : STrigger := (⟨getI (cs.getD 0 .any), getI (cs.getD 1 .any), (⟨getI (cs.getD 2 .any), getI (cs.getD 3 .any), getI (cs.getD 4 .any), getI (cs.getD 5 .any), getI (cs.getD 6 .any), getI (cs.getD 7 .any), getI (cs.getD 8 .any), getS (cs.getD 9 .any), getI (cs.getD 10 .any), getI (cs.getD 11 .any), (⟨getI (cs.getD 12 .any), getI (cs.getD 13 .any)⟩ : SBound), (⟨getI (cs.getD 14 .any), getI (cs.getD 15 .any)⟩ : SBound), (⟨getI (cs.getD 16 .any), getI (cs.getD 17 .any)⟩ : SBound)⟩ : SFilter)⟩ : STrigger)
theorem eqT109 (a b : STrigger) : ceqL (encSTrigger a) (encSTrigger b) = (a == b) := ceqL_dec (encSTrigger) dcT109 (fun _ => rfl) (fun _ => rfl) (fun _ _ => rfl) a b
def dcT113 (cs : List C) : SReplace := (⟨getI (cs.getD 0 .any), getI (cs.getD 1 .any), (⟨getI (cs.getD 2 .any), getI (cs.getD 3 .any), getI (cs.getD 4 .any), getI (cs.getD 5 .any), getI (cs.getD 6 .any), getI (cs.getD 7 .any), getI (cs.getD 8 .any), getS (cs.getD 9 .any), getI (cs.getD 10 .any), getI (cs.getD 11 .any), (⟨getI (cs.getD 12 .any), getI (cs.getD 13 .any)⟩ : SBound), (⟨getI (cs.getD 14 .any), getI (cs.getD 15 .any)⟩ : SBound), (⟨getI (cs.getD 16 .any), getI (cs.getD 17 .any)⟩ : SBound)⟩ : SFilter), getI (cs.getD 18 .any), getI (cs.getD 19 .any), getI (cs.getD 20 .any), getI (cs.getD 21 .any)⟩ : SReplace)
theorem eqT113 (a b : SReplace) : ceqL (encSReplace a) (encSReplace b) = (a == b) := ceqL_dec (encSReplace) dcT113 (fun _ => rfl) (fun _ => rfl) (fun _ _ => rfl) a b
def dcT117 (cs : List C) : SRef := (⟨getI (cs.getD 0 .any), getI (cs.getD 1 .any), (⟨getI (cs.getD 2 .any), getI (cs.getD 3 .any), getI (cs.getD 4 .any), getI (cs.getD 5 .any), getI (cs.getD 6 .any), getI (cs.getD 7 .any), getI (cs.getD 8 .any), getS (cs.getD 9 .any), getI (cs.getD 10 .any), getI (cs.getD 11 .any), (⟨getI (cs.getD 12 .any), getI (cs.getD 13 .any)⟩ : SBound), (⟨getI (cs.getD 14 .any), getI (cs.getD 15 .any)⟩ : SBound), (⟨getI (cs.getD 16 .any), getI (cs.getD 17 .any)⟩ : SBound)⟩ : SFilter)⟩ : SRef)
theorem eqT117 (a b : SRef) : ceqL (encSRef a) (encSRef b) = (a == b) := ceqL_dec (encSRef) dcT117 (fun _ => rfl) (fun _ => rfl) (fun _ _ => rfl) a b
def dcT119 (cs : List C) : SAmount := (⟨getI (cs.getD 0 .any), getI (cs.getD 1 .any), getI (cs.getD 2 .any), (⟨getI (cs.getD 3 .any), getI (cs.getD 4 .any), getI (cs.getD 5 .any), getI (cs.getD 6 .any), getI (cs.getD 7 .any), getI (cs.getD 8 .any), getI (cs.getD 9 .any), getS (cs.getD 10 .any), getI (cs.getD 11 .any), getI (cs.getD 12 .any), (⟨getI (cs.getD 13 .any), getI (cs.getD 14 .any)⟩ : SBound), (⟨getI (cs.getD 15 .any), getI (cs.getD 16 .any)⟩ : SBound), (⟨getI (cs.getD 17 .any), getI (cs.getD 18 .any)⟩ : SBound)⟩ : SFilter)⟩ : SAmount)
theorem eqT119 (a b : SAmount) : ceqL (encSAmount a) (encSAmount b) = (a == b) := ceqL_dec (encSAmount) dcT119 (fun _ => rfl) (fun _ => rfl) (fun _ _ => rfl) a b
def dcT49 (cs : List C) : A6 (Int) := (⟨getI (cs.getD 0 .any), getI (cs.getD 1 .any), getI (cs.getD 2 .any), getI (cs.getD 3 .any), getI (cs.getD 4 .any), getI (cs.getD 5 .any)⟩ : A6 (Int))
theorem eqT49 (a b : A6 (Int)) : ceqL (eA6 (eI .i64) a) (eA6 (eI .i64) b) = (a == b) := ceqL_dec (eA6 (eI .i64)) dcT49 (fun _ => rfl) (fun _ => rfl) (fun _ _ => rfl) a b
def dcT61 (cs : List C) : SCost := (⟨getI (cs.getD 0 .any), getI (cs.getD 1 .any), (⟨getI (cs.getD 2 .any), getI (cs.getD 3 .any), getI (cs.getD 4 .any), getI (cs.getD 5 .any), getI (cs.getD 6 .any)⟩ : A5 (Int))⟩ : SCost)
theorem eqT61 (a b : SCost) : ceqL (encSCost a) (encSCost b) = (a == b) := ceqL_dec (encSCost) dcT61 (fun _ => rfl) (fun _ => rfl) (fun _ _ => rfl) a b
def dcT42 (cs : List C) : SObject := (⟨getI (cs.getD 0 .any), getI (cs.getD 1 .any), getI (cs.getD 2 .any), getI (cs.getD 3 .any), getI (cs.getD 4 .any), getB (cs.getD 5 .any), getB (cs.getD 6 .any), getB (cs.getD 7 .any), getB (cs.getD 8 .any), getI (cs.getD 9 .any), (⟨getI (cs.getD 10 .any), getI (cs.getD 11 .any), getI (cs.getD 12 .any)⟩ : A3 (Int)), getI (cs.getD 13 .any), getI (cs.getD 14 .any), getI (cs.getD 15 .any), getB (cs.getD 16 .any), getI (cs.getD 17 .any), getI (cs.getD 18 .any)⟩ : SObject)
theorem eqT42 (a b : SObject) : ceqL (encSObject a) (encSObject b) = (a == b) := ceqL_dec (encSObject) dcT42 (fun _ => rfl) (fun _ => rfl) (fun _ _ => rfl) a b
def dcT32 (cs : List C) : A3 (Int) := (⟨getI (cs.getD 0 .any), getI (cs.getD 1 .any), getI (cs.getD 2 .any)⟩ : A3 (Int))
theorem eqT32 (a b : A3 (Int)) : ceqL (eA3 (eI .i64) a) (eA3 (eI .i64) b) = (a == b) := ceqL_dec (eA3 (eI .i64)) dcT32 (fun _ => rfl) (fun _ => rfl) (fun _ _ => rfl) a b
def dcT192 (cs : List C) : SSpec := (⟨getB (cs.getD 0 .any), getB (cs.getD 1 .any), (⟨getI (cs.getD 2 .any), getI (cs.getD 3 .any), getI (cs.getD 4 .any), getI (cs.getD 5 .any), getI (cs.getD 6 .any), getI (cs.getD 7 .any), getI (cs.getD 8 .any), getS (cs.getD 9 .any), getI (cs.getD 10 .any), getI (cs.getD 11 .any), (⟨getI (cs.getD 12 .any), getI (cs.getD 13 .any)⟩ : SBound), (⟨getI (cs.getD 14 .any), getI (cs.getD 15 .any)⟩ : SBound), (⟨getI (cs.getD 16 .any), getI (cs.getD 17 .any)⟩ : SBound)⟩ : SFilter)⟩ : SSpec)
theorem eqT192 (a b : SSpec) : ceqL (encSSpec a) (encSSpec b) = (a == b) := ceqL_dec (encSSpec) dcT192 (fun _ => rfl) (fun _ => rfl) (fun _ _ => rfl) a b
def str_basic : List UInt8 := [98, 97, 115, 105, 99]
def str_unique : List UInt8 := [117, 110, 105, 113, 117, 101]
def str_creature : List UInt8 := [99, 114, 101, 97, 116, 117, 114, 101]
def str_instant : List UInt8 := [105, 110, 115, 116, 97, 110, 116]
def str_ritual : List UInt8 := [114, 105, 116, 117, 97, 108]
def str_relic : List UInt8 := [114, 101, 108, 105, 99]
def str_charm : List UInt8 := [99, 104, 97, 114, 109]
def str_land : List UInt8 := [108, 97, 110, 100]
def str_x2c20 : List UInt8 := [44, 32]
def str_control : List UInt8 := [99, 111, 110, 116, 114, 111, 108]
def str_x2b : List UInt8 := [43]
def str_types_ : List UInt8 := [116, 121, 112, 101, 115, 61]
def str_types__ : List UInt8 := [116, 121, 112, 101, 115, 43, 61]
def str_sub_ : List UInt8 := [115, 117, 98, 61]
def str_sub__ : List UInt8 := [115, 117, 98, 43, 61]
def str_none : List UInt8 := [110, 111, 110, 101]
def str_amber : List UInt8 := [97, 109, 98, 101, 114]
def str_cobalt : List UInt8 := [99, 111, 98, 97, 108, 116]
def str_jet : List UInt8 := [106, 101, 116]
def str_ruby : List UInt8 := [114, 117, 98, 121]
def str_emerald : List UInt8 := [101, 109, 101, 114, 97, 108, 100]
def str_colors_ : List UInt8 := [99, 111, 108, 111, 114, 115, 61]
def str_colors__ : List UInt8 := [99, 111, 108, 111, 114, 115, 43, 61]
def str_flying : List UInt8 := [102, 108, 121, 105, 110, 103]
def str_reach : List UInt8 := [114, 101, 97, 99, 104]
def str_haste : List UInt8 := [104, 97, 115, 116, 101]
def str_vigilant : List UInt8 := [118, 105, 103, 105, 108, 97, 110, 116]
def str_trample : List UInt8 := [116, 114, 97, 109, 112, 108, 101]
def str_first_strike : List UInt8 := [102, 105, 114, 115, 116, 45, 115, 116, 114, 105, 107, 101]
def str_double_strike : List UInt8 := [100, 111, 117, 98, 108, 101, 45, 115, 116, 114, 105, 107, 101]
def str_deadly : List UInt8 := [100, 101, 97, 100, 108, 121]
def str_lifelink : List UInt8 := [108, 105, 102, 101, 108, 105, 110, 107]
def str_menace : List UInt8 := [109, 101, 110, 97, 99, 101]
def str_defender : List UInt8 := [100, 101, 102, 101, 110, 100, 101, 114]
def str_warded : List UInt8 := [119, 97, 114, 100, 101, 100]
def str_sturdy : List UInt8 := [115, 116, 117, 114, 100, 121]
def str_elusive : List UInt8 := [101, 108, 117, 115, 105, 118, 101]
def str_no_attack : List UInt8 := [110, 111, 45, 97, 116, 116, 97, 99, 107]
def str_no_block : List UInt8 := [110, 111, 45, 98, 108, 111, 99, 107]
def str_must_attack : List UInt8 := [109, 117, 115, 116, 45, 97, 116, 116, 97, 99, 107]
def str_keys__ : List UInt8 := [107, 101, 121, 115, 43, 61]
def str_x6b6579732d3d : List UInt8 := [107, 101, 121, 115, 45, 61]
def str_blank : List UInt8 := [98, 108, 97, 110, 107]
def str_in_hand : List UInt8 := [105, 110, 45, 104, 97, 110, 100]
def str_in_library : List UInt8 := [105, 110, 45, 108, 105, 98, 114, 97, 114, 121]
def str_in_graveyard : List UInt8 := [105, 110, 45, 103, 114, 97, 118, 101, 121, 97, 114, 100]
def str_in_exile : List UInt8 := [105, 110, 45, 101, 120, 105, 108, 101]
def str_on_stack : List UInt8 := [111, 110, 45, 115, 116, 97, 99, 107]
def str_yours : List UInt8 := [121, 111, 117, 114, 115]
def str_theirs : List UInt8 := [116, 104, 101, 105, 114, 115]
def str_self : List UInt8 := [115, 101, 108, 102]
def str_other : List UInt8 := [111, 116, 104, 101, 114]
def str_tapped : List UInt8 := [116, 97, 112, 112, 101, 100]
def str_untapped : List UInt8 := [117, 110, 116, 97, 112, 112, 101, 100]
def str_damage : List UInt8 := [100, 97, 109, 97, 103, 101]
def str_move : List UInt8 := [109, 111, 118, 101]
def str_draw : List UInt8 := [100, 114, 97, 119]
def str_gain : List UInt8 := [103, 97, 105, 110]
def str_lose : List UInt8 := [108, 111, 115, 101]
def str_tap : List UInt8 := [116, 97, 112]
def str_untap : List UInt8 := [117, 110, 116, 97, 112]
def str_put : List UInt8 := [112, 117, 116]
def str_take : List UInt8 := [116, 97, 107, 101]
def str_create : List UInt8 := [99, 114, 101, 97, 116, 101]
def str_cast : List UInt8 := [99, 97, 115, 116]
def str_attack : List UInt8 := [97, 116, 116, 97, 99, 107]
def str_block : List UInt8 := [98, 108, 111, 99, 107]
def str_upkeep : List UInt8 := [117, 112, 107, 101, 101, 112]
def str_end : List UInt8 := [101, 110, 100]
def str_venom : List UInt8 := [118, 101, 110, 111, 109]
def str_shuffle : List UInt8 := [115, 104, 117, 102, 102, 108, 101]
def str_x3f : List UInt8 := [63]
def str_x20 : List UInt8 := [32]
def str_gain_0_0_1_3_0_0_0_0_0 : List UInt8 := [103, 97, 105, 110, 32, 48, 32, 48, 32, 49, 32, 51, 32, 48, 32, 48, 32, 48, 32, 48, 32, 48]
def str____2_0_0_0_0_0_0_0_0 : List UInt8 := [63, 32, 45, 50, 32, 48, 32, 48, 32, 48, 32, 48, 32, 48, 32, 48, 32, 48, 32, 48]
def str_non_ : List UInt8 := [110, 111, 110, 45]
def str_x7375623a : List UInt8 := [115, 117, 98, 58]
def str_with_ : List UInt8 := [119, 105, 116, 104, 58]
def str_x3e3d : List UInt8 := [62, 61]
def str_x3c3d : List UInt8 := [60, 61]
def str_x3d : List UInt8 := [61]
def str_x2d : List UInt8 := [45]
def str_power : List UInt8 := [112, 111, 119, 101, 114]
def str_tough : List UInt8 := [116, 111, 117, 103, 104]
def str_value : List UInt8 := [118, 97, 108, 117, 101]
def str_any : List UInt8 := [97, 110, 121]
def str_pt_count_ : List UInt8 := [112, 116, 61, 99, 111, 117, 110, 116, 40]
def str_x29 : List UInt8 := [41]
def str_pt_ : List UInt8 := [112, 116, 61]
def str_x2f : List UInt8 := [47]
def str_pt__ : List UInt8 := [112, 116, 43, 61]
def str_pt_switch : List UInt8 := [112, 116, 45, 115, 119, 105, 116, 99, 104]
def str_enters : List UInt8 := [101, 110, 116, 101, 114, 115]
def str_leaves : List UInt8 := [108, 101, 97, 118, 101, 115]
def str_dies : List UInt8 := [100, 105, 101, 115]
def str_attacks : List UInt8 := [97, 116, 116, 97, 99, 107, 115]
def str_blocks : List UInt8 := [98, 108, 111, 99, 107, 115]
def str_deals : List UInt8 := [100, 101, 97, 108, 115]
def str_dealt : List UInt8 := [100, 101, 97, 108, 116]
def str_draws : List UInt8 := [100, 114, 97, 119, 115]
def str_casts : List UInt8 := [99, 97, 115, 116, 115]
def str_gains : List UInt8 := [103, 97, 105, 110, 115]
def str_loses : List UInt8 := [108, 111, 115, 101, 115]
def str_placed : List UInt8 := [112, 108, 97, 99, 101, 100]
def str_destroy : List UInt8 := [100, 101, 115, 116, 114, 111, 121]
def str_discard : List UInt8 := [100, 105, 115, 99, 97, 114, 100]
def str_mod : List UInt8 := [109, 111, 100]
def str_mana : List UInt8 := [109, 97, 110, 97]
def str_counter : List UInt8 := [99, 111, 117, 110, 116, 101, 114]
def str_copy : List UInt8 := [99, 111, 112, 121]
def str_become : List UInt8 := [98, 101, 99, 111, 109, 101]
def str_sacrifice : List UInt8 := [115, 97, 99, 114, 105, 102, 105, 99, 101]
def str_mill : List UInt8 := [109, 105, 108, 108]
def str_scry : List UInt8 := [115, 99, 114, 121]
def str_search : List UInt8 := [115, 101, 97, 114, 99, 104]
def str_shield : List UInt8 := [115, 104, 105, 101, 108, 100]
def str_turn : List UInt8 := [116, 117, 114, 110]
def str_win : List UInt8 := [119, 105, 110]
def str_defeat : List UInt8 := [100, 101, 102, 101, 97, 116]
def str_r : List UInt8 := [114]
def str_rz : List UInt8 := [114, 122]
def str_rka : List UInt8 := [114, 107, 97]
def str_rca : List UInt8 := [114, 99, 97]
def str_rm : List UInt8 := [114, 109]
def str_p : List UInt8 := [112]
def str_raf : List UInt8 := [114, 97, 102]
def str_a : List UInt8 := [97]
def str_f : List UInt8 := [102]
def str_ra : List UInt8 := [114, 97]
def str_plus : List UInt8 := [112, 108, 117, 115]
def str_minus : List UInt8 := [109, 105, 110, 117, 115]
def str_charge : List UInt8 := [99, 104, 97, 114, 103, 101]
def str_X : List UInt8 := [88]
def str_ACJRE : List UInt8 := [65, 67, 74, 82, 69]
def str_0 : List UInt8 := [48]
theorem isb4 : isBool Tryz.prog 4 = true := by kernel_rfl
theorem okp107 : okPlc Tryz.prog 107 = true := by kernel_rfl
theorem okp109 : okPlc Tryz.prog 109 = true := by kernel_rfl
theorem okp113 : okPlc Tryz.prog 113 = true := by kernel_rfl
theorem okp115 : okPlc Tryz.prog 115 = true := by kernel_rfl
theorem okp117 : okPlc Tryz.prog 117 = true := by kernel_rfl
theorem okp119 : okPlc Tryz.prog 119 = true := by kernel_rfl
theorem okp154 : okPlc Tryz.prog 154 = true := by kernel_rfl
theorem okp31 : okPlc Tryz.prog 31 = true := by kernel_rfl
theorem okp32 : okPlc Tryz.prog 32 = true := by kernel_rfl
theorem okp34 : okPlc Tryz.prog 34 = true := by kernel_rfl
theorem okp42 : okPlc Tryz.prog 42 = true := by kernel_rfl
theorem okp49 : okPlc Tryz.prog 49 = true := by kernel_rfl
theorem okp51 : okPlc Tryz.prog 51 = true := by kernel_rfl
theorem okp61 : okPlc Tryz.prog 61 = true := by kernel_rfl
theorem okp79 : okPlc Tryz.prog 79 = true := by kernel_rfl
theorem okp85 : okPlc Tryz.prog 85 = true := by kernel_rfl
theorem okp95 : okPlc Tryz.prog 95 = true := by kernel_rfl
end Go.PL
