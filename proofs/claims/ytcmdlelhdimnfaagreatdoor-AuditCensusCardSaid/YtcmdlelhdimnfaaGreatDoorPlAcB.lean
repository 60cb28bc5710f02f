/- Functions of the program, as partial functions in Lean, with proofs. -/
import Derived.Test.YtcmdlelhdimnfaaGreatDoorPlPvtoPlPd
import Derived.Test.YtcmdlelhdimnfaaGreatDoorPlPvtoPlPd
import Derived.Test.YtcmdlelhdimnfaaGreatDoorRows
import Derived.Test.YtcmdlelhdimnfaaGreatDoorPlShelf
import Derived.Test.YtcmdlelhdimnfaaGreatDoorPlPvtoPlPd
import Derived.Test.YtcmdlelhdimnfaaGreatDoorPlPvtoPlPd
namespace Go.PL
open Go Go.RowKit Go.Proofs
set_option maxRecDepth 100000
set_option linter.all false
set_option maxHeartbeats 4000000
theorem followsP : Tryz.prog.follows .mixedOrders = true := by kernel_rfl
def I0 (_ : World) : Prop := True
theorem I0_stable : Stable I0 := fun _ _ _ _ _ => trivial
theorem sortSome : ∀ (blk off cap : Nat) (zs : List Int) (w : World), Sort.Holds (Value.int .i64) w blk off zs.toArray → blk < w.heap.size → zs.length < 4611686018427387904 → Calls Tryz.prog 12 #[.slice (some ⟨blk, off, none⟩) zs.length cap] w fun e w' => e = .returned (.tuple #[]) ∧ ∃ n os, w' = Sort.grow (Sort.putRow (Value.int .i64) (Sort.ahead w n) blk off (srtI zs).toArray) os := fun blk off cap zs w h1 h2 h3 => by
  have := Tryz.slices_Sort_int blk off cap zs w h1 h2 h3
  rw [merge_srtI] at this
  exact this
theorem sortNone : ∀ (p : Option Addr) (cap : Nat) (w : World), Calls Tryz.prog 12 #[.slice p 0 cap] w fun e w' => e = .returned (.tuple #[]) ∧ w' = w := fun p cap w => Tryz.slices_Sort_int_none p cap w
structure A3 (α : Type) where
  x0 : α
  x1 : α
  x2 : α
  deriving DecidableEq, Inhabited
def A3.l {α : Type} (a : A3 α) : List α := [a.x0, a.x1, a.x2]
def eA3 {α : Type} (e : α → List C) (a : A3 α) : List C := a.l.flatMap e
def A3.set {α : Type} (a : A3 α) (i : Nat) (v : α) : A3 α := ⟨if i = 0 then v else a.x0, if i = 1 then v else a.x1, if i = 2 then v else a.x2⟩
structure A5 (α : Type) where
  x0 : α
  x1 : α
  x2 : α
  x3 : α
  x4 : α
  deriving DecidableEq, Inhabited
def A5.l {α : Type} (a : A5 α) : List α := [a.x0, a.x1, a.x2, a.x3, a.x4]
def eA5 {α : Type} (e : α → List C) (a : A5 α) : List C := a.l.flatMap e
def A5.set {α : Type} (a : A5 α) (i : Nat) (v : α) : A5 α := ⟨if i = 0 then v else a.x0, if i = 1 then v else a.x1, if i = 2 then v else a.x2, if i = 3 then v else a.x3, if i = 4 then v else a.x4⟩
structure A6 (α : Type) where
  x0 : α
  x1 : α
  x2 : α
  x3 : α
  x4 : α
  x5 : α
  deriving DecidableEq, Inhabited
def A6.l {α : Type} (a : A6 α) : List α := [a.x0, a.x1, a.x2, a.x3, a.x4, a.x5]
def eA6 {α : Type} (e : α → List C) (a : A6 α) : List C := a.l.flatMap e
def A6.set {α : Type} (a : A6 α) (i : Nat) (v : α) : A6 α := ⟨if i = 0 then v else a.x0, if i = 1 then v else a.x1, if i = 2 then v else a.x2, if i = 3 then v else a.x3, if i = 4 then v else a.x4, if i = 5 then v else a.x5⟩
structure SPlayer where
  Life : Int
  Venom : Int
  Lands : Int
  Pool : A6 (Int)
  Failed : Bool
  Lost : Bool
  Library : List (Int)
  Hand : List (Int)
  Graveyard : List (Int)
  deriving DecidableEq, Inhabited
def encSPlayer (x : SPlayer) : List C := [.int .i64 ((x).Life), .int .i64 ((x).Venom), .int .i64 ((x).Lands), .int .i64 (((x).Pool).x0), .int .i64 (((x).Pool).x1), .int .i64 (((x).Pool).x2), .int .i64 (((x).Pool).x3), .int .i64 (((x).Pool).x4), .int .i64 (((x).Pool).x5), .bool ((x).Failed), .bool ((x).Lost), .sl ((x).Library).length (((x).Library).flatMap (eI .i64)), .sl ((x).Hand).length (((x).Hand).flatMap (eI .i64)), .sl ((x).Graveyard).length (((x).Graveyard).flatMap (eI .i64))]
theorem lenSPlayer (x : SPlayer) : (encSPlayer x).length = 14 := rfl
structure SObject where
  Id : Int
  Card : Int
  Owner : Int
  Control : Int
  Zone : Int
  Token : Bool
  Tapped : Bool
  Sick : Bool
  Deadly : Bool
  Damage : Int
  Counters : A3 (Int)
  Stamp : Int
  Copy : Int
  Attack : Int
  Blocked : Bool
  Blocks : Int
  Shield : Int
  deriving DecidableEq, Inhabited
def encSObject (x : SObject) : List C := [.int .i64 ((x).Id), .int .i64 ((x).Card), .int .i64 ((x).Owner), .int .i64 ((x).Control), .int .i64 ((x).Zone), .bool ((x).Token), .bool ((x).Tapped), .bool ((x).Sick), .bool ((x).Deadly), .int .i64 ((x).Damage), .int .i64 (((x).Counters).x0), .int .i64 (((x).Counters).x1), .int .i64 (((x).Counters).x2), .int .i64 ((x).Stamp), .int .i64 ((x).Copy), .int .i64 ((x).Attack), .bool ((x).Blocked), .int .i64 ((x).Blocks), .int .i64 ((x).Shield)]
theorem lenSObject (x : SObject) : (encSObject x).length = 19 := rfl
structure SBound where
  Kind : Int
  N : Int
  deriving DecidableEq, Inhabited
def encSBound (x : SBound) : List C := [.int .i64 ((x).Kind), .int .i64 ((x).N)]
structure SFilter where
  Zone : Int
  Who : Int
  Self : Int
  Types : Int
  NotTypes : Int
  Colors : Int
  NotColors : Int
  Sub : List UInt8
  Keys : Int
  Tap : Int
  Power : SBound
  Tough : SBound
  Value : SBound
  deriving DecidableEq, Inhabited
def encSFilter (x : SFilter) : List C := [.int .i64 ((x).Zone), .int .i64 ((x).Who), .int .i64 ((x).Self), .int .i64 ((x).Types), .int .i64 ((x).NotTypes), .int .i64 ((x).Colors), .int .i64 ((x).NotColors), .str ((x).Sub), .int .i64 ((x).Keys), .int .i64 ((x).Tap), .int .i64 (((x).Power).Kind), .int .i64 (((x).Power).N), .int .i64 (((x).Tough).Kind), .int .i64 (((x).Tough).N), .int .i64 (((x).Value).Kind), .int .i64 (((x).Value).N)]
structure SMod where
  Kind : Int
  N : Int
  M : Int
  Sub : List UInt8
  Filter : SFilter
  deriving DecidableEq, Inhabited
def encSMod (x : SMod) : List C := [.int .i64 ((x).Kind), .int .i64 ((x).N), .int .i64 ((x).M), .str ((x).Sub), .int .i64 (((x).Filter).Zone), .int .i64 (((x).Filter).Who), .int .i64 (((x).Filter).Self), .int .i64 (((x).Filter).Types), .int .i64 (((x).Filter).NotTypes), .int .i64 (((x).Filter).Colors), .int .i64 (((x).Filter).NotColors), .str (((x).Filter).Sub), .int .i64 (((x).Filter).Keys), .int .i64 (((x).Filter).Tap), .int .i64 ((((x).Filter).Power).Kind), .int .i64 ((((x).Filter).Power).N), .int .i64 ((((x).Filter).Tough).Kind), .int .i64 ((((x).Filter).Tough).N), .int .i64 ((((x).Filter).Value).Kind), .int .i64 ((((x).Filter).Value).N)]
theorem lenSMod (x : SMod) : (encSMod x).length = 20 := rfl
structure SCost where
  Generic : Int
  X : Int
  Color : A5 (Int)
  deriving DecidableEq, Inhabited
def encSCost (x : SCost) : List C := [.int .i64 ((x).Generic), .int .i64 ((x).X), .int .i64 (((x).Color).x0), .int .i64 (((x).Color).x1), .int .i64 (((x).Color).x2), .int .i64 (((x).Color).x3), .int .i64 (((x).Color).x4)]
structure SPrice where
  Mana : SCost
  Tap : Bool
  Sacrifice : Bool
  Life : Int
  deriving DecidableEq, Inhabited
def encSPrice (x : SPrice) : List C := [.int .i64 (((x).Mana).Generic), .int .i64 (((x).Mana).X), .int .i64 ((((x).Mana).Color).x0), .int .i64 ((((x).Mana).Color).x1), .int .i64 ((((x).Mana).Color).x2), .int .i64 ((((x).Mana).Color).x3), .int .i64 ((((x).Mana).Color).x4), .bool ((x).Tap), .bool ((x).Sacrifice), .int .i64 ((x).Life)]
structure STrigger where
  When : Int
  Who : Int
  Filter : SFilter
  deriving DecidableEq, Inhabited
def encSTrigger (x : STrigger) : List C := [.int .i64 ((x).When), .int .i64 ((x).Who), .int .i64 (((x).Filter).Zone), .int .i64 (((x).Filter).Who), .int .i64 (((x).Filter).Self), .int .i64 (((x).Filter).Types), .int .i64 (((x).Filter).NotTypes), .int .i64 (((x).Filter).Colors), .int .i64 (((x).Filter).NotColors), .str (((x).Filter).Sub), .int .i64 (((x).Filter).Keys), .int .i64 (((x).Filter).Tap), .int .i64 ((((x).Filter).Power).Kind), .int .i64 ((((x).Filter).Power).N), .int .i64 ((((x).Filter).Tough).Kind), .int .i64 ((((x).Filter).Tough).N), .int .i64 ((((x).Filter).Value).Kind), .int .i64 ((((x).Filter).Value).N)]
structure SSpec where
  Player : Bool
  Object : Bool
  Filter : SFilter
  deriving DecidableEq, Inhabited
def encSSpec (x : SSpec) : List C := [.bool ((x).Player), .bool ((x).Object), .int .i64 (((x).Filter).Zone), .int .i64 (((x).Filter).Who), .int .i64 (((x).Filter).Self), .int .i64 (((x).Filter).Types), .int .i64 (((x).Filter).NotTypes), .int .i64 (((x).Filter).Colors), .int .i64 (((x).Filter).NotColors), .str (((x).Filter).Sub), .int .i64 (((x).Filter).Keys), .int .i64 (((x).Filter).Tap), .int .i64 ((((x).Filter).Power).Kind), .int .i64 ((((x).Filter).Power).N), .int .i64 ((((x).Filter).Tough).Kind), .int .i64 ((((x).Filter).Tough).N), .int .i64 ((((x).Filter).Value).Kind), .int .i64 ((((x).Filter).Value).N)]
structure SRef where
  Kind : Int
  N : Int
  Filter : SFilter
  deriving DecidableEq, Inhabited
def encSRef (x : SRef) : List C := [.int .i64 ((x).Kind), .int .i64 ((x).N), .int .i64 (((x).Filter).Zone), .int .i64 (((x).Filter).Who), .int .i64 (((x).Filter).Self), .int .i64 (((x).Filter).Types), .int .i64 (((x).Filter).NotTypes), .int .i64 (((x).Filter).Colors), .int .i64 (((x).Filter).NotColors), .str (((x).Filter).Sub), .int .i64 (((x).Filter).Keys), .int .i64 (((x).Filter).Tap), .int .i64 ((((x).Filter).Power).Kind), .int .i64 ((((x).Filter).Power).N), .int .i64 ((((x).Filter).Tough).Kind), .int .i64 ((((x).Filter).Tough).N), .int .i64 ((((x).Filter).Value).Kind), .int .i64 ((((x).Filter).Value).N)]
structure SAmount where
  Kind : Int
  N : Int
  Counter : Int
  Filter : SFilter
  deriving DecidableEq, Inhabited
def encSAmount (x : SAmount) : List C := [.int .i64 ((x).Kind), .int .i64 ((x).N), .int .i64 ((x).Counter), .int .i64 (((x).Filter).Zone), .int .i64 (((x).Filter).Who), .int .i64 (((x).Filter).Self), .int .i64 (((x).Filter).Types), .int .i64 (((x).Filter).NotTypes), .int .i64 (((x).Filter).Colors), .int .i64 (((x).Filter).NotColors), .str (((x).Filter).Sub), .int .i64 (((x).Filter).Keys), .int .i64 (((x).Filter).Tap), .int .i64 ((((x).Filter).Power).Kind), .int .i64 ((((x).Filter).Power).N), .int .i64 ((((x).Filter).Tough).Kind), .int .i64 ((((x).Filter).Tough).N), .int .i64 ((((x).Filter).Value).Kind), .int .i64 ((((x).Filter).Value).N)]
structure SEffect where
  Op : Int
  Ref : SRef
  Amount : SAmount
  Counter : Int
  Zone : Int
  Card : List UInt8
  Filter : SFilter
  Pool : A6 (Int)
  Mods : List (SMod)
  deriving DecidableEq, Inhabited
def encSEffect (x : SEffect) : List C := [.int .i64 ((x).Op), .int .i64 (((x).Ref).Kind), .int .i64 (((x).Ref).N), .int .i64 ((((x).Ref).Filter).Zone), .int .i64 ((((x).Ref).Filter).Who), .int .i64 ((((x).Ref).Filter).Self), .int .i64 ((((x).Ref).Filter).Types), .int .i64 ((((x).Ref).Filter).NotTypes), .int .i64 ((((x).Ref).Filter).Colors), .int .i64 ((((x).Ref).Filter).NotColors), .str ((((x).Ref).Filter).Sub), .int .i64 ((((x).Ref).Filter).Keys), .int .i64 ((((x).Ref).Filter).Tap), .int .i64 (((((x).Ref).Filter).Power).Kind), .int .i64 (((((x).Ref).Filter).Power).N), .int .i64 (((((x).Ref).Filter).Tough).Kind), .int .i64 (((((x).Ref).Filter).Tough).N), .int .i64 (((((x).Ref).Filter).Value).Kind), .int .i64 (((((x).Ref).Filter).Value).N), .int .i64 (((x).Amount).Kind), .int .i64 (((x).Amount).N), .int .i64 (((x).Amount).Counter), .int .i64 ((((x).Amount).Filter).Zone), .int .i64 ((((x).Amount).Filter).Who), .int .i64 ((((x).Amount).Filter).Self), .int .i64 ((((x).Amount).Filter).Types), .int .i64 ((((x).Amount).Filter).NotTypes), .int .i64 ((((x).Amount).Filter).Colors), .int .i64 ((((x).Amount).Filter).NotColors), .str ((((x).Amount).Filter).Sub), .int .i64 ((((x).Amount).Filter).Keys), .int .i64 ((((x).Amount).Filter).Tap), .int .i64 (((((x).Amount).Filter).Power).Kind), .int .i64 (((((x).Amount).Filter).Power).N), .int .i64 (((((x).Amount).Filter).Tough).Kind), .int .i64 (((((x).Amount).Filter).Tough).N), .int .i64 (((((x).Amount).Filter).Value).Kind), .int .i64 (((((x).Amount).Filter).Value).N), .int .i64 ((x).Counter), .int .i64 ((x).Zone), .str ((x).Card), .int .i64 (((x).Filter).Zone), .int .i64 (((x).Filter).Who), .int .i64 (((x).Filter).Self), .int .i64 (((x).Filter).Types), .int .i64 (((x).Filter).NotTypes), .int .i64 (((x).Filter).Colors), .int .i64 (((x).Filter).NotColors), .str (((x).Filter).Sub), .int .i64 (((x).Filter).Keys), .int .i64 (((x).Filter).Tap), .int .i64 ((((x).Filter).Power).Kind), .int .i64 ((((x).Filter).Power).N), .int .i64 ((((x).Filter).Tough).Kind), .int .i64 ((((x).Filter).Tough).N), .int .i64 ((((x).Filter).Value).Kind), .int .i64 ((((x).Filter).Value).N), .int .i64 (((x).Pool).x0), .int .i64 (((x).Pool).x1), .int .i64 (((x).Pool).x2), .int .i64 (((x).Pool).x3), .int .i64 (((x).Pool).x4), .int .i64 (((x).Pool).x5), .sl ((x).Mods).length (((x).Mods).flatMap (encSMod))]
structure SReplace where
  On : Int
  Who : Int
  Filter : SFilter
  Do : Int
  N : Int
  Zone : Int
  Counter : Int
  deriving DecidableEq, Inhabited
def encSReplace (x : SReplace) : List C := [.int .i64 ((x).On), .int .i64 ((x).Who), .int .i64 (((x).Filter).Zone), .int .i64 (((x).Filter).Who), .int .i64 (((x).Filter).Self), .int .i64 (((x).Filter).Types), .int .i64 (((x).Filter).NotTypes), .int .i64 (((x).Filter).Colors), .int .i64 (((x).Filter).NotColors), .str (((x).Filter).Sub), .int .i64 (((x).Filter).Keys), .int .i64 (((x).Filter).Tap), .int .i64 ((((x).Filter).Power).Kind), .int .i64 ((((x).Filter).Power).N), .int .i64 ((((x).Filter).Tough).Kind), .int .i64 ((((x).Filter).Tough).N), .int .i64 ((((x).Filter).Value).Kind), .int .i64 ((((x).Filter).Value).N), .int .i64 ((x).Do), .int .i64 ((x).N), .int .i64 ((x).Zone), .int .i64 ((x).Counter)]
structure SAbility where
  Kind : Int
  Filter : SFilter
  Mods : List (SMod)
  Price : SPrice
  Slow : Bool
  Trigger : STrigger
  May : Bool
  Specs : List (SSpec)
  Effects : List (SEffect)
  Replace : SReplace
  deriving DecidableEq, Inhabited
def encSAbility (x : SAbility) : List C := [.int .i64 ((x).Kind), .int .i64 (((x).Filter).Zone), .int .i64 (((x).Filter).Who), .int .i64 (((x).Filter).Self), .int .i64 (((x).Filter).Types), .int .i64 (((x).Filter).NotTypes), .int .i64 (((x).Filter).Colors), .int .i64 (((x).Filter).NotColors), .str (((x).Filter).Sub), .int .i64 (((x).Filter).Keys), .int .i64 (((x).Filter).Tap), .int .i64 ((((x).Filter).Power).Kind), .int .i64 ((((x).Filter).Power).N), .int .i64 ((((x).Filter).Tough).Kind), .int .i64 ((((x).Filter).Tough).N), .int .i64 ((((x).Filter).Value).Kind), .int .i64 ((((x).Filter).Value).N), .sl ((x).Mods).length (((x).Mods).flatMap (encSMod)), .int .i64 ((((x).Price).Mana).Generic), .int .i64 ((((x).Price).Mana).X), .int .i64 (((((x).Price).Mana).Color).x0), .int .i64 (((((x).Price).Mana).Color).x1), .int .i64 (((((x).Price).Mana).Color).x2), .int .i64 (((((x).Price).Mana).Color).x3), .int .i64 (((((x).Price).Mana).Color).x4), .bool (((x).Price).Tap), .bool (((x).Price).Sacrifice), .int .i64 (((x).Price).Life), .bool ((x).Slow), .int .i64 (((x).Trigger).When), .int .i64 (((x).Trigger).Who), .int .i64 ((((x).Trigger).Filter).Zone), .int .i64 ((((x).Trigger).Filter).Who), .int .i64 ((((x).Trigger).Filter).Self), .int .i64 ((((x).Trigger).Filter).Types), .int .i64 ((((x).Trigger).Filter).NotTypes), .int .i64 ((((x).Trigger).Filter).Colors), .int .i64 ((((x).Trigger).Filter).NotColors), .str ((((x).Trigger).Filter).Sub), .int .i64 ((((x).Trigger).Filter).Keys), .int .i64 ((((x).Trigger).Filter).Tap), .int .i64 (((((x).Trigger).Filter).Power).Kind), .int .i64 (((((x).Trigger).Filter).Power).N), .int .i64 (((((x).Trigger).Filter).Tough).Kind), .int .i64 (((((x).Trigger).Filter).Tough).N), .int .i64 (((((x).Trigger).Filter).Value).Kind), .int .i64 (((((x).Trigger).Filter).Value).N), .bool ((x).May), .sl ((x).Specs).length (((x).Specs).flatMap (encSSpec)), .sl ((x).Effects).length (((x).Effects).flatMap (encSEffect)), .int .i64 (((x).Replace).On), .int .i64 (((x).Replace).Who), .int .i64 ((((x).Replace).Filter).Zone), .int .i64 ((((x).Replace).Filter).Who), .int .i64 ((((x).Replace).Filter).Self), .int .i64 ((((x).Replace).Filter).Types), .int .i64 ((((x).Replace).Filter).NotTypes), .int .i64 ((((x).Replace).Filter).Colors), .int .i64 ((((x).Replace).Filter).NotColors), .str ((((x).Replace).Filter).Sub), .int .i64 ((((x).Replace).Filter).Keys), .int .i64 ((((x).Replace).Filter).Tap), .int .i64 (((((x).Replace).Filter).Power).Kind), .int .i64 (((((x).Replace).Filter).Power).N), .int .i64 (((((x).Replace).Filter).Tough).Kind), .int .i64 (((((x).Replace).Filter).Tough).N), .int .i64 (((((x).Replace).Filter).Value).Kind), .int .i64 (((((x).Replace).Filter).Value).N), .int .i64 (((x).Replace).Do), .int .i64 (((x).Replace).N), .int .i64 (((x).Replace).Zone), .int .i64 (((x).Replace).Counter)]
theorem lenSAbility (x : SAbility) : (encSAbility x).length = 72 := rfl
structure STarget where
  Object : Int
  Player : Int
  deriving DecidableEq, Inhabited
def encSTarget (x : STarget) : List C := [.int .i64 ((x).Object), .int .i64 ((x).Player)]
structure SEvent where
  Kind : Int
  Source : Int
  Object : Int
  Player : Int
  Amount : Int
  From : Int
  To : Int
  Cause : Int
  Counter : Int
  Card : Int
  Combat : Bool
  Tapped : Bool
  Extra : A3 (Int)
  deriving DecidableEq, Inhabited
def encSEvent (x : SEvent) : List C := [.int .i64 ((x).Kind), .int .i64 ((x).Source), .int .i64 ((x).Object), .int .i64 ((x).Player), .int .i64 ((x).Amount), .int .i64 ((x).From), .int .i64 ((x).To), .int .i64 ((x).Cause), .int .i64 ((x).Counter), .int .i64 ((x).Card), .bool ((x).Combat), .bool ((x).Tapped), .int .i64 (((x).Extra).x0), .int .i64 (((x).Extra).x1), .int .i64 (((x).Extra).x2)]
structure SItem where
  Id : Int
  Kind : Int
  Source : Int
  Control : Int
  X : Int
  Copy : Bool
  Ability : SAbility
  Targets : List (STarget)
  Event : SEvent
  deriving DecidableEq, Inhabited
def encSItem (x : SItem) : List C := [.int .i64 ((x).Id), .int .i64 ((x).Kind), .int .i64 ((x).Source), .int .i64 ((x).Control), .int .i64 ((x).X), .bool ((x).Copy), .int .i64 (((x).Ability).Kind), .int .i64 ((((x).Ability).Filter).Zone), .int .i64 ((((x).Ability).Filter).Who), .int .i64 ((((x).Ability).Filter).Self), .int .i64 ((((x).Ability).Filter).Types), .int .i64 ((((x).Ability).Filter).NotTypes), .int .i64 ((((x).Ability).Filter).Colors), .int .i64 ((((x).Ability).Filter).NotColors), .str ((((x).Ability).Filter).Sub), .int .i64 ((((x).Ability).Filter).Keys), .int .i64 ((((x).Ability).Filter).Tap), .int .i64 (((((x).Ability).Filter).Power).Kind), .int .i64 (((((x).Ability).Filter).Power).N), .int .i64 (((((x).Ability).Filter).Tough).Kind), .int .i64 (((((x).Ability).Filter).Tough).N), .int .i64 (((((x).Ability).Filter).Value).Kind), .int .i64 (((((x).Ability).Filter).Value).N), .sl (((x).Ability).Mods).length ((((x).Ability).Mods).flatMap (encSMod)), .int .i64 (((((x).Ability).Price).Mana).Generic), .int .i64 (((((x).Ability).Price).Mana).X), .int .i64 ((((((x).Ability).Price).Mana).Color).x0), .int .i64 ((((((x).Ability).Price).Mana).Color).x1), .int .i64 ((((((x).Ability).Price).Mana).Color).x2), .int .i64 ((((((x).Ability).Price).Mana).Color).x3), .int .i64 ((((((x).Ability).Price).Mana).Color).x4), .bool ((((x).Ability).Price).Tap), .bool ((((x).Ability).Price).Sacrifice), .int .i64 ((((x).Ability).Price).Life), .bool (((x).Ability).Slow), .int .i64 ((((x).Ability).Trigger).When), .int .i64 ((((x).Ability).Trigger).Who), .int .i64 (((((x).Ability).Trigger).Filter).Zone), .int .i64 (((((x).Ability).Trigger).Filter).Who), .int .i64 (((((x).Ability).Trigger).Filter).Self), .int .i64 (((((x).Ability).Trigger).Filter).Types), .int .i64 (((((x).Ability).Trigger).Filter).NotTypes), .int .i64 (((((x).Ability).Trigger).Filter).Colors), .int .i64 (((((x).Ability).Trigger).Filter).NotColors), .str (((((x).Ability).Trigger).Filter).Sub), .int .i64 (((((x).Ability).Trigger).Filter).Keys), .int .i64 (((((x).Ability).Trigger).Filter).Tap), .int .i64 ((((((x).Ability).Trigger).Filter).Power).Kind), .int .i64 ((((((x).Ability).Trigger).Filter).Power).N), .int .i64 ((((((x).Ability).Trigger).Filter).Tough).Kind), .int .i64 ((((((x).Ability).Trigger).Filter).Tough).N), .int .i64 ((((((x).Ability).Trigger).Filter).Value).Kind), .int .i64 ((((((x).Ability).Trigger).Filter).Value).N), .bool (((x).Ability).May), .sl (((x).Ability).Specs).length ((((x).Ability).Specs).flatMap (encSSpec)), .sl (((x).Ability).Effects).length ((((x).Ability).Effects).flatMap (encSEffect)), .int .i64 ((((x).Ability).Replace).On), .int .i64 ((((x).Ability).Replace).Who), .int .i64 (((((x).Ability).Replace).Filter).Zone), .int .i64 (((((x).Ability).Replace).Filter).Who), .int .i64 (((((x).Ability).Replace).Filter).Self), .int .i64 (((((x).Ability).Replace).Filter).Types), .int .i64 (((((x).Ability).Replace).Filter).NotTypes), .int .i64 (((((x).Ability).Replace).Filter).Colors), .int .i64 (((((x).Ability).Replace).Filter).NotColors), .str (((((x).Ability).Replace).Filter).Sub), .int .i64 (((((x).Ability).Replace).Filter).Keys), .int .i64 (((((x).Ability).Replace).Filter).Tap), .int .i64 ((((((x).Ability).Replace).Filter).Power).Kind), .int .i64 ((((((x).Ability).Replace).Filter).Power).N), .int .i64 ((((((x).Ability).Replace).Filter).Tough).Kind), .int .i64 ((((((x).Ability).Replace).Filter).Tough).N), .int .i64 ((((((x).Ability).Replace).Filter).Value).Kind), .int .i64 ((((((x).Ability).Replace).Filter).Value).N), .int .i64 ((((x).Ability).Replace).Do), .int .i64 ((((x).Ability).Replace).N), .int .i64 ((((x).Ability).Replace).Zone), .int .i64 ((((x).Ability).Replace).Counter), .sl ((x).Targets).length (((x).Targets).flatMap (encSTarget)), .int .i64 (((x).Event).Kind), .int .i64 (((x).Event).Source), .int .i64 (((x).Event).Object), .int .i64 (((x).Event).Player), .int .i64 (((x).Event).Amount), .int .i64 (((x).Event).From), .int .i64 (((x).Event).To), .int .i64 (((x).Event).Cause), .int .i64 (((x).Event).Counter), .int .i64 (((x).Event).Card), .bool (((x).Event).Combat), .bool (((x).Event).Tapped), .int .i64 ((((x).Event).Extra).x0), .int .i64 ((((x).Event).Extra).x1), .int .i64 ((((x).Event).Extra).x2)]
theorem lenSItem (x : SItem) : (encSItem x).length = 94 := rfl
structure SWaiting where
  Source : Int
  Control : Int
  Ability : SAbility
  Event : SEvent
  deriving DecidableEq, Inhabited
def encSWaiting (x : SWaiting) : List C := [.int .i64 ((x).Source), .int .i64 ((x).Control), .int .i64 (((x).Ability).Kind), .int .i64 ((((x).Ability).Filter).Zone), .int .i64 ((((x).Ability).Filter).Who), .int .i64 ((((x).Ability).Filter).Self), .int .i64 ((((x).Ability).Filter).Types), .int .i64 ((((x).Ability).Filter).NotTypes), .int .i64 ((((x).Ability).Filter).Colors), .int .i64 ((((x).Ability).Filter).NotColors), .str ((((x).Ability).Filter).Sub), .int .i64 ((((x).Ability).Filter).Keys), .int .i64 ((((x).Ability).Filter).Tap), .int .i64 (((((x).Ability).Filter).Power).Kind), .int .i64 (((((x).Ability).Filter).Power).N), .int .i64 (((((x).Ability).Filter).Tough).Kind), .int .i64 (((((x).Ability).Filter).Tough).N), .int .i64 (((((x).Ability).Filter).Value).Kind), .int .i64 (((((x).Ability).Filter).Value).N), .sl (((x).Ability).Mods).length ((((x).Ability).Mods).flatMap (encSMod)), .int .i64 (((((x).Ability).Price).Mana).Generic), .int .i64 (((((x).Ability).Price).Mana).X), .int .i64 ((((((x).Ability).Price).Mana).Color).x0), .int .i64 ((((((x).Ability).Price).Mana).Color).x1), .int .i64 ((((((x).Ability).Price).Mana).Color).x2), .int .i64 ((((((x).Ability).Price).Mana).Color).x3), .int .i64 ((((((x).Ability).Price).Mana).Color).x4), .bool ((((x).Ability).Price).Tap), .bool ((((x).Ability).Price).Sacrifice), .int .i64 ((((x).Ability).Price).Life), .bool (((x).Ability).Slow), .int .i64 ((((x).Ability).Trigger).When), .int .i64 ((((x).Ability).Trigger).Who), .int .i64 (((((x).Ability).Trigger).Filter).Zone), .int .i64 (((((x).Ability).Trigger).Filter).Who), .int .i64 (((((x).Ability).Trigger).Filter).Self), .int .i64 (((((x).Ability).Trigger).Filter).Types), .int .i64 (((((x).Ability).Trigger).Filter).NotTypes), .int .i64 (((((x).Ability).Trigger).Filter).Colors), .int .i64 (((((x).Ability).Trigger).Filter).NotColors), .str (((((x).Ability).Trigger).Filter).Sub), .int .i64 (((((x).Ability).Trigger).Filter).Keys), .int .i64 (((((x).Ability).Trigger).Filter).Tap), .int .i64 ((((((x).Ability).Trigger).Filter).Power).Kind), .int .i64 ((((((x).Ability).Trigger).Filter).Power).N), .int .i64 ((((((x).Ability).Trigger).Filter).Tough).Kind), .int .i64 ((((((x).Ability).Trigger).Filter).Tough).N), .int .i64 ((((((x).Ability).Trigger).Filter).Value).Kind), .int .i64 ((((((x).Ability).Trigger).Filter).Value).N), .bool (((x).Ability).May), .sl (((x).Ability).Specs).length ((((x).Ability).Specs).flatMap (encSSpec)), .sl (((x).Ability).Effects).length ((((x).Ability).Effects).flatMap (encSEffect)), .int .i64 ((((x).Ability).Replace).On), .int .i64 ((((x).Ability).Replace).Who), .int .i64 (((((x).Ability).Replace).Filter).Zone), .int .i64 (((((x).Ability).Replace).Filter).Who), .int .i64 (((((x).Ability).Replace).Filter).Self), .int .i64 (((((x).Ability).Replace).Filter).Types), .int .i64 (((((x).Ability).Replace).Filter).NotTypes), .int .i64 (((((x).Ability).Replace).Filter).Colors), .int .i64 (((((x).Ability).Replace).Filter).NotColors), .str (((((x).Ability).Replace).Filter).Sub), .int .i64 (((((x).Ability).Replace).Filter).Keys), .int .i64 (((((x).Ability).Replace).Filter).Tap), .int .i64 ((((((x).Ability).Replace).Filter).Power).Kind), .int .i64 ((((((x).Ability).Replace).Filter).Power).N), .int .i64 ((((((x).Ability).Replace).Filter).Tough).Kind), .int .i64 ((((((x).Ability).Replace).Filter).Tough).N), .int .i64 ((((((x).Ability).Replace).Filter).Value).Kind), .int .i64 ((((((x).Ability).Replace).Filter).Value).N), .int .i64 ((((x).Ability).Replace).Do), .int .i64 ((((x).Ability).Replace).N), .int .i64 ((((x).Ability).Replace).Zone), .int .i64 ((((x).Ability).Replace).Counter), .int .i64 (((x).Event).Kind), .int .i64 (((x).Event).Source), .int .i64 (((x).Event).Object), .int .i64 (((x).Event).Player), .int .i64 (((x).Event).Amount), .int .i64 (((x).Event).From), .int .i64 (((x).Event).To), .int .i64 (((x).Event).Cause), .int .i64 (((x).Event).Counter), .int .i64 (((x).Event).Card), .bool (((x).Event).Combat), .bool (((x).Event).Tapped), .int .i64 ((((x).Event).Extra).x0), .int .i64 ((((x).Event).Extra).x1), .int .i64 ((((x).Event).Extra).x2)]
theorem lenSWaiting (x : SWaiting) : (encSWaiting x).length = 89 := rfl
structure SCont where
  Stamp : Int
  Control : Int
  Source : Int
  Until : Int
  Objects : List (Int)
  Mods : List (SMod)
  deriving DecidableEq, Inhabited
def encSCont (x : SCont) : List C := [.int .i64 ((x).Stamp), .int .i64 ((x).Control), .int .i64 ((x).Source), .int .i64 ((x).Until), .sl ((x).Objects).length (((x).Objects).flatMap (eI .i64)), .sl ((x).Mods).length (((x).Mods).flatMap (encSMod))]
theorem lenSCont (x : SCont) : (encSCont x).length = 6 := rfl
structure SState where
  Players : List (SPlayer)
  Objects : List (SObject)
  Battlefield : List (Int)
  Exile : List (Int)
  Stack : List (SItem)
  Waiting : List (SWaiting)
  Conts : List (SCont)
  Turn : Int
  Active : Int
  Step : Int
  Begun : Bool
  Priority : Int
  Passes : Int
  NextId : Int
  NextStamp : Int
  Seed : Int
  Extra : List (Int)
  Over : Int
  Winner : Int
  deriving DecidableEq, Inhabited
def encSState (x : SState) : List C := [.sl ((x).Players).length (((x).Players).flatMap (encSPlayer)), .sl ((x).Objects).length (((x).Objects).flatMap (encSObject)), .sl ((x).Battlefield).length (((x).Battlefield).flatMap (eI .i64)), .sl ((x).Exile).length (((x).Exile).flatMap (eI .i64)), .sl ((x).Stack).length (((x).Stack).flatMap (encSItem)), .sl ((x).Waiting).length (((x).Waiting).flatMap (encSWaiting)), .sl ((x).Conts).length (((x).Conts).flatMap (encSCont)), .int .i64 ((x).Turn), .int .i64 ((x).Active), .int .i64 ((x).Step), .bool ((x).Begun), .int .i64 ((x).Priority), .int .i64 ((x).Passes), .int .i64 ((x).NextId), .int .i64 ((x).NextStamp), .int .u64 ((x).Seed), .sl ((x).Extra).length (((x).Extra).flatMap (eI .i64)), .int .i64 ((x).Over), .int .i64 ((x).Winner)]
structure SLine where
  Super : Int
  Types : Int
  Subs : List (List UInt8)
  deriving DecidableEq, Inhabited
def encSLine (x : SLine) : List C := [.int .i64 ((x).Super), .int .i64 ((x).Types), .sl ((x).Subs).length (((x).Subs).flatMap (eS))]
structure SCard where
  Name : List UInt8
  Token : Bool
  Cost : SCost
  Color : Int
  Line : SLine
  Power : Int
  Tough : Int
  Keys : Int
  Abilities : List (SAbility)
  deriving DecidableEq, Inhabited
def encSCard (x : SCard) : List C := [.str ((x).Name), .bool ((x).Token), .int .i64 (((x).Cost).Generic), .int .i64 (((x).Cost).X), .int .i64 ((((x).Cost).Color).x0), .int .i64 ((((x).Cost).Color).x1), .int .i64 ((((x).Cost).Color).x2), .int .i64 ((((x).Cost).Color).x3), .int .i64 ((((x).Cost).Color).x4), .int .i64 ((x).Color), .int .i64 (((x).Line).Super), .int .i64 (((x).Line).Types), .sl (((x).Line).Subs).length ((((x).Line).Subs).flatMap (eS)), .int .i64 ((x).Power), .int .i64 ((x).Tough), .int .i64 ((x).Keys), .sl ((x).Abilities).length (((x).Abilities).flatMap (encSAbility))]
theorem lenSCard (x : SCard) : (encSCard x).length = 17 := rfl
structure SFlaw where
  Kind : Int
  At : Int
  deriving DecidableEq, Inhabited
def encSFlaw (x : SFlaw) : List C := [.int .i64 ((x).Kind), .int .i64 ((x).At)]
theorem lenSFlaw (x : SFlaw) : (encSFlaw x).length = 2 := rfl
structure STraits where
  Name : List UInt8
  Cost : SCost
  Colors : Int
  Line : SLine
  Power : Int
  Tough : Int
  Keys : Int
  Abilities : List (SAbility)
  Control : Int
  deriving DecidableEq, Inhabited
def encSTraits (x : STraits) : List C := [.str ((x).Name), .int .i64 (((x).Cost).Generic), .int .i64 (((x).Cost).X), .int .i64 ((((x).Cost).Color).x0), .int .i64 ((((x).Cost).Color).x1), .int .i64 ((((x).Cost).Color).x2), .int .i64 ((((x).Cost).Color).x3), .int .i64 ((((x).Cost).Color).x4), .int .i64 ((x).Colors), .int .i64 (((x).Line).Super), .int .i64 (((x).Line).Types), .sl (((x).Line).Subs).length ((((x).Line).Subs).flatMap (eS)), .int .i64 ((x).Power), .int .i64 ((x).Tough), .int .i64 ((x).Keys), .sl ((x).Abilities).length (((x).Abilities).flatMap (encSAbility)), .int .i64 ((x).Control)]
theorem lenSTraits (x : STraits) : (encSTraits x).length = 17 := rfl
structure SForce where
  Source : Int
  Ability : Int
  Control : Int
  Stamp : Int
  Fixed : Bool
  Objects : List (Int)
  Filter : SFilter
  Mods : List (SMod)
  deriving DecidableEq, Inhabited
def encSForce (x : SForce) : List C := [.int .i64 ((x).Source), .int .i64 ((x).Ability), .int .i64 ((x).Control), .int .i64 ((x).Stamp), .bool ((x).Fixed), .sl ((x).Objects).length (((x).Objects).flatMap (eI .i64)), .int .i64 (((x).Filter).Zone), .int .i64 (((x).Filter).Who), .int .i64 (((x).Filter).Self), .int .i64 (((x).Filter).Types), .int .i64 (((x).Filter).NotTypes), .int .i64 (((x).Filter).Colors), .int .i64 (((x).Filter).NotColors), .str (((x).Filter).Sub), .int .i64 (((x).Filter).Keys), .int .i64 (((x).Filter).Tap), .int .i64 ((((x).Filter).Power).Kind), .int .i64 ((((x).Filter).Power).N), .int .i64 ((((x).Filter).Tough).Kind), .int .i64 ((((x).Filter).Tough).N), .int .i64 ((((x).Filter).Value).Kind), .int .i64 ((((x).Filter).Value).N), .sl ((x).Mods).length (((x).Mods).flatMap (encSMod))]
theorem lenSForce (x : SForce) : (encSForce x).length = 23 := rfl
def dcT38 (cs : List C) : SObject := (⟨getI (cs.getD 0 .any), getI (cs.getD 1 .any), getI (cs.getD 2 .any), getI (cs.getD 3 .any), getI (cs.getD 4 .any), getB (cs.getD 5 .any), getB (cs.getD 6 .any), getB (cs.getD 7 .any), getB (cs.getD 8 .any), getI (cs.getD 9 .any), (⟨getI (cs.getD 10 .any), getI (cs.getD 11 .any), getI (cs.getD 12 .any)⟩ : A3 (Int)), getI (cs.getD 13 .any), getI (cs.getD 14 .any), getI (cs.getD 15 .any), getB (cs.getD 16 .any), getI (cs.getD 17 .any), getI (cs.getD 18 .any)⟩ : SObject)
theorem eqT38 (a b : SObject) : ceqL (encSObject a) (encSObject b) = (a == b) := ceqL_dec (encSObject) dcT38 (fun _ => rfl) (fun _ => rfl) (fun _ _ => rfl) a b
def dcT36 (cs : List C) : A3 (Int) := (⟨getI (cs.getD 0 .any), getI (cs.getD 1 .any), getI (cs.getD 2 .any)⟩ : A3 (Int))
theorem eqT36 (a b : A3 (Int)) : ceqL (eA3 (eI .i64) a) (eA3 (eI .i64) b) = (a == b) := ceqL_dec (eA3 (eI .i64)) dcT36 (fun _ => rfl) (fun _ => rfl) (fun _ _ => rfl) a b
def dcT46 (cs : List C) : A5 (Int) := (⟨getI (cs.getD 0 .any), getI (cs.getD 1 .any), getI (cs.getD 2 .any), getI (cs.getD 3 .any), getI (cs.getD 4 .any)⟩ : A5 (Int))
theorem eqT46 (a b : A5 (Int)) : ceqL (eA5 (eI .i64) a) (eA5 (eI .i64) b) = (a == b) := ceqL_dec (eA5 (eI .i64)) dcT46 (fun _ => rfl) (fun _ => rfl) (fun _ _ => rfl) a b
def dcT40 (cs : List C) : A6 (Int) := (⟨getI (cs.getD 0 .any), getI (cs.getD 1 .any), getI (cs.getD 2 .any), getI (cs.getD 3 .any), getI (cs.getD 4 .any), getI (cs.getD 5 .any)⟩ : A6 (Int))
theorem eqT40 (a b : A6 (Int)) : ceqL (eA6 (eI .i64) a) (eA6 (eI .i64) b) = (a == b) := ceqL_dec (eA6 (eI .i64)) dcT40 (fun _ => rfl) (fun _ => rfl) (fun _ _ => rfl) a b
def dcT161 (cs : List C) : SMod := (⟨getI (cs.getD 0 .any), getI (cs.getD 1 .any), getI (cs.getD 2 .any), getS (cs.getD 3 .any), (⟨getI (cs.getD 4 .any), getI (cs.getD 5 .any), getI (cs.getD 6 .any), getI (cs.getD 7 .any), getI (cs.getD 8 .any), getI (cs.getD 9 .any), getI (cs.getD 10 .any), getS (cs.getD 11 .any), getI (cs.getD 12 .any), getI (cs.getD 13 .any), (⟨getI (cs.getD 14 .any), getI (cs.getD 15 .any)⟩ : SBound), (⟨getI (cs.getD 16 .any), getI (cs.getD 17 .any)⟩ : SBound), (⟨getI (cs.getD 18 .any), getI (cs.getD 19 .any)⟩ : SBound)⟩ : SFilter)⟩ : SMod)
theorem eqT161 (a b : SMod) : ceqL (encSMod a) (encSMod b) = (a == b) := ceqL_dec (encSMod) dcT161 (fun _ => rfl) (fun _ => rfl) (fun _ _ => rfl) a b
def dcT57 (cs : List C) : SFlaw := (⟨getI (cs.getD 0 .any), getI (cs.getD 1 .any)⟩ : SFlaw)
theorem eqT57 (a b : SFlaw) : ceqL (encSFlaw a) (encSFlaw b) = (a == b) := ceqL_dec (encSFlaw) dcT57 (fun _ => rfl) (fun _ => rfl) (fun _ _ => rfl) a b
def str_spring : List UInt8 := [115, 112, 114, 105, 110, 103]
def str_invalid : List UInt8 := [105, 110, 118, 97, 108, 105, 100]
def str_census : List UInt8 := [99, 101, 110, 115, 117, 115]
def str_combat : List UInt8 := [99, 111, 109, 98, 97, 116]
def str_pool : List UInt8 := [112, 111, 111, 108]
def str_order : List UInt8 := [111, 114, 100, 101, 114]
def str_over : List UInt8 := [111, 118, 101, 114]
theorem isb4 : isBool Tryz.prog 4 = true := by kernel_rfl
theorem okp111 : okPlc Tryz.prog 111 = true := by kernel_rfl
theorem okp154 : okPlc Tryz.prog 154 = true := by kernel_rfl
theorem okp193 : okPlc Tryz.prog 193 = true := by kernel_rfl
theorem okp30 : okPlc Tryz.prog 30 = true := by kernel_rfl
theorem okp36 : okPlc Tryz.prog 36 = true := by kernel_rfl
theorem okp38 : okPlc Tryz.prog 38 = true := by kernel_rfl
theorem okp42 : okPlc Tryz.prog 42 = true := by kernel_rfl
theorem okp45 : okPlc Tryz.prog 45 = true := by kernel_rfl
theorem okp46 : okPlc Tryz.prog 46 = true := by kernel_rfl
theorem okp51 : okPlc Tryz.prog 51 = true := by kernel_rfl
theorem okp57 : okPlc Tryz.prog 57 = true := by kernel_rfl
theorem okp59 : okPlc Tryz.prog 59 = true := by kernel_rfl
theorem okp88 : okPlc Tryz.prog 88 = true := by kernel_rfl
end Go.PL
