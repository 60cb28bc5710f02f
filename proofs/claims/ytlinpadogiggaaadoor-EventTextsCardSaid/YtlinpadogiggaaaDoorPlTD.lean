/- Functions of the program, as partial functions in Lean, with proofs. -/
import Derived.Test.YtlinpadogiggaaaDoorPlRtoPlPb
import Derived.Test.YtlinpadogiggaaaDoorPlTB
namespace Go.PL
open Go Go.RowKit Go.Proofs
set_option maxRecDepth 100000
set_option linter.all false
set_option maxHeartbeats 1000000
theorem bytes3 : Tryd.prog.bytesOf 3 = 8 := by kernel_rfl
theorem bytes9 : Tryd.prog.bytesOf 9 = 16 := by kernel_rfl
theorem bytes42 : Tryd.prog.bytesOf 42 = 152 := by kernel_rfl
theorem bytes52 : Tryd.prog.bytesOf 52 = 128 := by kernel_rfl
theorem bytes130 : Tryd.prog.bytesOf 130 = 640 := by kernel_rfl
theorem bytes133 : Tryd.prog.bytesOf 133 = 824 := by kernel_rfl
theorem bytes135 : Tryd.prog.bytesOf 135 = 768 := by kernel_rfl
theorem bytes137 : Tryd.prog.bytesOf 137 = 80 := by kernel_rfl
theorem bytes139 : Tryd.prog.bytesOf 139 = 176 := by kernel_rfl
theorem bytes141 : Tryd.prog.bytesOf 141 = 144 := by kernel_rfl
theorem bytes147 : Tryd.prog.bytesOf 147 = 560 := by kernel_rfl
theorem bytes149 : Tryd.prog.bytesOf 149 = 16 := by kernel_rfl
def okA3 {α : Type} (ok : α → Prop) (a : A3 α) : Prop := ∀ y ∈ a.l, ok y
theorem dA3 {P : Program} {t e : TypeId} {n : Nat} {cs : List C} {α : Type} {enc : α → List C} {ok : α → Prop} (hu : P.underlying t = some (.array 3 e)) (hd : ∀ {n ds}, typed P n e ds → ∃ x, ds = enc x ∧ ok x) (h : typed P n t cs) : ∃ a : A3 α, cs = eA3 enc a ∧ okA3 ok a := by
  obtain ⟨l, h1, h2, h3⟩ := dA hu hd h
  subst h2
  match l, h1, h3 with
  | [x0, x1, x2], _, h3 => exact ⟨⟨x0, x1, x2⟩, rfl, h3⟩
def okA5 {α : Type} (ok : α → Prop) (a : A5 α) : Prop := ∀ y ∈ a.l, ok y
theorem dA5 {P : Program} {t e : TypeId} {n : Nat} {cs : List C} {α : Type} {enc : α → List C} {ok : α → Prop} (hu : P.underlying t = some (.array 5 e)) (hd : ∀ {n ds}, typed P n e ds → ∃ x, ds = enc x ∧ ok x) (h : typed P n t cs) : ∃ a : A5 α, cs = eA5 enc a ∧ okA5 ok a := by
  obtain ⟨l, h1, h2, h3⟩ := dA hu hd h
  subst h2
  match l, h1, h3 with
  | [x0, x1, x2, x3, x4], _, h3 => exact ⟨⟨x0, x1, x2, x3, x4⟩, rfl, h3⟩
def okA6 {α : Type} (ok : α → Prop) (a : A6 α) : Prop := ∀ y ∈ a.l, ok y
theorem dA6 {P : Program} {t e : TypeId} {n : Nat} {cs : List C} {α : Type} {enc : α → List C} {ok : α → Prop} (hu : P.underlying t = some (.array 6 e)) (hd : ∀ {n ds}, typed P n e ds → ∃ x, ds = enc x ∧ ok x) (h : typed P n t cs) : ∃ a : A6 α, cs = eA6 enc a ∧ okA6 ok a := by
  obtain ⟨l, h1, h2, h3⟩ := dA hu hd h
  subst h2
  match l, h1, h3 with
  | [x0, x1, x2, x3, x4, x5], _, h3 => exact ⟨⟨x0, x1, x2, x3, x4, x5⟩, rfl, h3⟩
def okA9 {α : Type} (ok : α → Prop) (a : A9 α) : Prop := ∀ y ∈ a.l, ok y
theorem dA9 {P : Program} {t e : TypeId} {n : Nat} {cs : List C} {α : Type} {enc : α → List C} {ok : α → Prop} (hu : P.underlying t = some (.array 9 e)) (hd : ∀ {n ds}, typed P n e ds → ∃ x, ds = enc x ∧ ok x) (h : typed P n t cs) : ∃ a : A9 α, cs = eA9 enc a ∧ okA9 ok a := by
  obtain ⟨l, h1, h2, h3⟩ := dA hu hd h
  subst h2
  match l, h1, h3 with
  | [x0, x1, x2, x3, x4, x5, x6, x7, x8], _, h3 => exact ⟨⟨x0, x1, x2, x3, x4, x5, x6, x7, x8⟩, rfl, h3⟩
def okA17 {α : Type} (ok : α → Prop) (a : A17 α) : Prop := ∀ y ∈ a.l, ok y
theorem dA17 {P : Program} {t e : TypeId} {n : Nat} {cs : List C} {α : Type} {enc : α → List C} {ok : α → Prop} (hu : P.underlying t = some (.array 17 e)) (hd : ∀ {n ds}, typed P n e ds → ∃ x, ds = enc x ∧ ok x) (h : typed P n t cs) : ∃ a : A17 α, cs = eA17 enc a ∧ okA17 ok a := by
  obtain ⟨l, h1, h2, h3⟩ := dA hu hd h
  subst h2
  match l, h1, h3 with
  | [x0, x1, x2, x3, x4, x5, x6, x7, x8, x9, x10, x11, x12, x13, x14, x15, x16], _, h3 => exact ⟨⟨x0, x1, x2, x3, x4, x5, x6, x7, x8, x9, x10, x11, x12, x13, x14, x15, x16⟩, rfl, h3⟩
def okSEvent (x : SEvent) : Prop := okI .i64 x.Kind ∧ okI .i64 x.Source ∧ okI .i64 x.Object ∧ okI .i64 x.Player ∧ okI .i64 x.Amount ∧ okI .i64 x.From ∧ okI .i64 x.To ∧ okI .i64 x.Cause ∧ okI .i64 x.Counter ∧ okI .i64 x.Card ∧ okB x.Combat ∧ okB x.Tapped ∧ okA3 (okI .i64) x.Extra ∧ True
theorem decSEvent {n : Nat} {cs : List C} (h : typed Tryd.prog n 24 cs) : ∃ x : SEvent, cs = encSEvent x ∧ okSEvent x := by
  obtain ⟨m, dss, h0, hE⟩ := typed_struct (ts := [3, 3, 3, 3, 3, 3, 3, 3, 3, 3, 4, 4, 22]) Tryd.underlying24 rfl h
  obtain ⟨p, h1, h2⟩ := (eachC (dI Tryd.underlying3) (eachC (dI Tryd.underlying3) (eachC (dI Tryd.underlying3) (eachC (dI Tryd.underlying3) (eachC (dI Tryd.underlying3) (eachC (dI Tryd.underlying3) (eachC (dI Tryd.underlying3) (eachC (dI Tryd.underlying3) (eachC (dI Tryd.underlying3) (eachC (dI Tryd.underlying3) (eachC (dB Tryd.underlying4) (eachC (dB Tryd.underlying4) (eachC (dA3 Tryd.underlying22 (dI Tryd.underlying3)) eachN))))))))))))) hE
  exact ⟨⟨p.1, p.2.1, p.2.2.1, p.2.2.2.1, p.2.2.2.2.1, p.2.2.2.2.2.1, p.2.2.2.2.2.2.1, p.2.2.2.2.2.2.2.1, p.2.2.2.2.2.2.2.2.1, p.2.2.2.2.2.2.2.2.2.1, p.2.2.2.2.2.2.2.2.2.2.1, p.2.2.2.2.2.2.2.2.2.2.2.1, p.2.2.2.2.2.2.2.2.2.2.2.2.1⟩, h0.trans h1, h2⟩
def okSPlayer (x : SPlayer) : Prop := okI .i64 x.Life ∧ okI .i64 x.Venom ∧ okI .i64 x.Lands ∧ okA6 (okI .i64) x.Pool ∧ okB x.Failed ∧ okB x.Lost ∧ okL 8 (okI .i64) x.Library ∧ okL 8 (okI .i64) x.Hand ∧ okL 8 (okI .i64) x.Graveyard ∧ True
theorem decSPlayer {n : Nat} {cs : List C} (h : typed Tryd.prog n 42 cs) : ∃ x : SPlayer, cs = encSPlayer x ∧ okSPlayer x := by
  obtain ⟨m, dss, h0, hE⟩ := typed_struct (ts := [3, 3, 3, 40, 4, 4, 31, 31, 31]) Tryd.underlying42 rfl h
  obtain ⟨p, h1, h2⟩ := (eachC (dI Tryd.underlying3) (eachC (dI Tryd.underlying3) (eachC (dI Tryd.underlying3) (eachC (dA6 Tryd.underlying40 (dI Tryd.underlying3)) (eachC (dB Tryd.underlying4) (eachC (dB Tryd.underlying4) (eachC (dL Tryd.underlying31 bytes3 (dI Tryd.underlying3)) (eachC (dL Tryd.underlying31 bytes3 (dI Tryd.underlying3)) (eachC (dL Tryd.underlying31 bytes3 (dI Tryd.underlying3)) eachN))))))))) hE
  exact ⟨⟨p.1, p.2.1, p.2.2.1, p.2.2.2.1, p.2.2.2.2.1, p.2.2.2.2.2.1, p.2.2.2.2.2.2.1, p.2.2.2.2.2.2.2.1, p.2.2.2.2.2.2.2.2.1⟩, h0.trans h1, h2⟩
def okSObject (x : SObject) : Prop := okI .i64 x.Id ∧ okI .i64 x.Card ∧ okI .i64 x.Owner ∧ okI .i64 x.Control ∧ okI .i64 x.Zone ∧ okB x.Token ∧ okB x.Tapped ∧ okB x.Sick ∧ okB x.Deadly ∧ okI .i64 x.Damage ∧ okA3 (okI .i64) x.Counters ∧ okI .i64 x.Stamp ∧ okI .i64 x.Copy ∧ okI .i64 x.Attack ∧ okB x.Blocked ∧ okI .i64 x.Blocks ∧ okI .i64 x.Shield ∧ True
theorem decSObject {n : Nat} {cs : List C} (h : typed Tryd.prog n 52 cs) : ∃ x : SObject, cs = encSObject x ∧ okSObject x := by
  obtain ⟨m, dss, h0, hE⟩ := typed_struct (ts := [3, 3, 3, 3, 3, 4, 4, 4, 4, 3, 22, 3, 3, 3, 4, 3, 3]) Tryd.underlying52 rfl h
  obtain ⟨p, h1, h2⟩ := (eachC (dI Tryd.underlying3) (eachC (dI Tryd.underlying3) (eachC (dI Tryd.underlying3) (eachC (dI Tryd.underlying3) (eachC (dI Tryd.underlying3) (eachC (dB Tryd.underlying4) (eachC (dB Tryd.underlying4) (eachC (dB Tryd.underlying4) (eachC (dB Tryd.underlying4) (eachC (dI Tryd.underlying3) (eachC (dA3 Tryd.underlying22 (dI Tryd.underlying3)) (eachC (dI Tryd.underlying3) (eachC (dI Tryd.underlying3) (eachC (dI Tryd.underlying3) (eachC (dB Tryd.underlying4) (eachC (dI Tryd.underlying3) (eachC (dI Tryd.underlying3) eachN))))))))))))))))) hE
  exact ⟨⟨p.1, p.2.1, p.2.2.1, p.2.2.2.1, p.2.2.2.2.1, p.2.2.2.2.2.1, p.2.2.2.2.2.2.1, p.2.2.2.2.2.2.2.1, p.2.2.2.2.2.2.2.2.1, p.2.2.2.2.2.2.2.2.2.1, p.2.2.2.2.2.2.2.2.2.2.1, p.2.2.2.2.2.2.2.2.2.2.2.1, p.2.2.2.2.2.2.2.2.2.2.2.2.1, p.2.2.2.2.2.2.2.2.2.2.2.2.2.1, p.2.2.2.2.2.2.2.2.2.2.2.2.2.2.1, p.2.2.2.2.2.2.2.2.2.2.2.2.2.2.2.1, p.2.2.2.2.2.2.2.2.2.2.2.2.2.2.2.2.1⟩, h0.trans h1, h2⟩
def okSBound (x : SBound) : Prop := okI .i64 x.Kind ∧ okI .i64 x.N ∧ True
theorem decSBound {n : Nat} {cs : List C} (h : typed Tryd.prog n 117 cs) : ∃ x : SBound, cs = encSBound x ∧ okSBound x := by
  obtain ⟨m, dss, h0, hE⟩ := typed_struct (ts := [3, 3]) Tryd.underlying117 rfl h
  obtain ⟨p, h1, h2⟩ := (eachC (dI Tryd.underlying3) (eachC (dI Tryd.underlying3) eachN)) hE
  exact ⟨⟨p.1, p.2.1⟩, h0.trans h1, h2⟩
def okSFilter (x : SFilter) : Prop := okI .i64 x.Zone ∧ okI .i64 x.Who ∧ okI .i64 x.Self ∧ okI .i64 x.Types ∧ okI .i64 x.NotTypes ∧ okI .i64 x.Colors ∧ okI .i64 x.NotColors ∧ okS x.Sub ∧ okI .i64 x.Keys ∧ okI .i64 x.Tap ∧ okSBound x.Power ∧ okSBound x.Tough ∧ okSBound x.Value ∧ True
theorem decSFilter {n : Nat} {cs : List C} (h : typed Tryd.prog n 119 cs) : ∃ x : SFilter, cs = encSFilter x ∧ okSFilter x := by
  obtain ⟨m, dss, h0, hE⟩ := typed_struct (ts := [3, 3, 3, 3, 3, 3, 3, 9, 3, 3, 117, 117, 117]) Tryd.underlying119 rfl h
  obtain ⟨p, h1, h2⟩ := (eachC (dI Tryd.underlying3) (eachC (dI Tryd.underlying3) (eachC (dI Tryd.underlying3) (eachC (dI Tryd.underlying3) (eachC (dI Tryd.underlying3) (eachC (dI Tryd.underlying3) (eachC (dI Tryd.underlying3) (eachC (dS Tryd.underlying9) (eachC (dI Tryd.underlying3) (eachC (dI Tryd.underlying3) (eachC decSBound (eachC decSBound (eachC decSBound eachN))))))))))))) hE
  exact ⟨⟨p.1, p.2.1, p.2.2.1, p.2.2.2.1, p.2.2.2.2.1, p.2.2.2.2.2.1, p.2.2.2.2.2.2.1, p.2.2.2.2.2.2.2.1, p.2.2.2.2.2.2.2.2.1, p.2.2.2.2.2.2.2.2.2.1, p.2.2.2.2.2.2.2.2.2.2.1, p.2.2.2.2.2.2.2.2.2.2.2.1, p.2.2.2.2.2.2.2.2.2.2.2.2.1⟩, h0.trans h1, h2⟩
def okSMod (x : SMod) : Prop := okI .i64 x.Kind ∧ okI .i64 x.N ∧ okI .i64 x.M ∧ okS x.Sub ∧ okSFilter x.Filter ∧ True
theorem decSMod {n : Nat} {cs : List C} (h : typed Tryd.prog n 139 cs) : ∃ x : SMod, cs = encSMod x ∧ okSMod x := by
  obtain ⟨m, dss, h0, hE⟩ := typed_struct (ts := [3, 3, 3, 9, 119]) Tryd.underlying139 rfl h
  obtain ⟨p, h1, h2⟩ := (eachC (dI Tryd.underlying3) (eachC (dI Tryd.underlying3) (eachC (dI Tryd.underlying3) (eachC (dS Tryd.underlying9) (eachC decSFilter eachN))))) hE
  exact ⟨⟨p.1, p.2.1, p.2.2.1, p.2.2.2.1, p.2.2.2.2.1⟩, h0.trans h1, h2⟩
def okSCost (x : SCost) : Prop := okI .i64 x.Generic ∧ okI .i64 x.X ∧ okA5 (okI .i64) x.Color ∧ True
theorem decSCost {n : Nat} {cs : List C} (h : typed Tryd.prog n 60 cs) : ∃ x : SCost, cs = encSCost x ∧ okSCost x := by
  obtain ⟨m, dss, h0, hE⟩ := typed_struct (ts := [3, 3, 58]) Tryd.underlying60 rfl h
  obtain ⟨p, h1, h2⟩ := (eachC (dI Tryd.underlying3) (eachC (dI Tryd.underlying3) (eachC (dA5 Tryd.underlying58 (dI Tryd.underlying3)) eachN))) hE
  exact ⟨⟨p.1, p.2.1, p.2.2.1⟩, h0.trans h1, h2⟩
def okSPrice (x : SPrice) : Prop := okSCost x.Mana ∧ okB x.Tap ∧ okB x.Sacrifice ∧ okI .i64 x.Life ∧ True
theorem decSPrice {n : Nat} {cs : List C} (h : typed Tryd.prog n 122 cs) : ∃ x : SPrice, cs = encSPrice x ∧ okSPrice x := by
  obtain ⟨m, dss, h0, hE⟩ := typed_struct (ts := [60, 4, 4, 3]) Tryd.underlying122 rfl h
  obtain ⟨p, h1, h2⟩ := (eachC decSCost (eachC (dB Tryd.underlying4) (eachC (dB Tryd.underlying4) (eachC (dI Tryd.underlying3) eachN)))) hE
  exact ⟨⟨p.1, p.2.1, p.2.2.1, p.2.2.2.1⟩, h0.trans h1, h2⟩
def okSTrigger (x : STrigger) : Prop := okI .i64 x.When ∧ okI .i64 x.Who ∧ okSFilter x.Filter ∧ True
theorem decSTrigger {n : Nat} {cs : List C} (h : typed Tryd.prog n 124 cs) : ∃ x : STrigger, cs = encSTrigger x ∧ okSTrigger x := by
  obtain ⟨m, dss, h0, hE⟩ := typed_struct (ts := [3, 3, 119]) Tryd.underlying124 rfl h
  obtain ⟨p, h1, h2⟩ := (eachC (dI Tryd.underlying3) (eachC (dI Tryd.underlying3) (eachC decSFilter eachN))) hE
  exact ⟨⟨p.1, p.2.1, p.2.2.1⟩, h0.trans h1, h2⟩
def okSSpec (x : SSpec) : Prop := okB x.Player ∧ okB x.Object ∧ okSFilter x.Filter ∧ True
theorem decSSpec {n : Nat} {cs : List C} (h : typed Tryd.prog n 141 cs) : ∃ x : SSpec, cs = encSSpec x ∧ okSSpec x := by
  obtain ⟨m, dss, h0, hE⟩ := typed_struct (ts := [4, 4, 119]) Tryd.underlying141 rfl h
  obtain ⟨p, h1, h2⟩ := (eachC (dB Tryd.underlying4) (eachC (dB Tryd.underlying4) (eachC decSFilter eachN))) hE
  exact ⟨⟨p.1, p.2.1, p.2.2.1⟩, h0.trans h1, h2⟩
def okSRef (x : SRef) : Prop := okI .i64 x.Kind ∧ okI .i64 x.N ∧ okSFilter x.Filter ∧ True
theorem decSRef {n : Nat} {cs : List C} (h : typed Tryd.prog n 143 cs) : ∃ x : SRef, cs = encSRef x ∧ okSRef x := by
  obtain ⟨m, dss, h0, hE⟩ := typed_struct (ts := [3, 3, 119]) Tryd.underlying143 rfl h
  obtain ⟨p, h1, h2⟩ := (eachC (dI Tryd.underlying3) (eachC (dI Tryd.underlying3) (eachC decSFilter eachN))) hE
  exact ⟨⟨p.1, p.2.1, p.2.2.1⟩, h0.trans h1, h2⟩
def okSAmount (x : SAmount) : Prop := okI .i64 x.Kind ∧ okI .i64 x.N ∧ okI .i64 x.Counter ∧ okSFilter x.Filter ∧ True
theorem decSAmount {n : Nat} {cs : List C} (h : typed Tryd.prog n 145 cs) : ∃ x : SAmount, cs = encSAmount x ∧ okSAmount x := by
  obtain ⟨m, dss, h0, hE⟩ := typed_struct (ts := [3, 3, 3, 119]) Tryd.underlying145 rfl h
  obtain ⟨p, h1, h2⟩ := (eachC (dI Tryd.underlying3) (eachC (dI Tryd.underlying3) (eachC (dI Tryd.underlying3) (eachC decSFilter eachN)))) hE
  exact ⟨⟨p.1, p.2.1, p.2.2.1, p.2.2.2.1⟩, h0.trans h1, h2⟩
def okSEffect (x : SEffect) : Prop := okI .i64 x.Op ∧ okSRef x.Ref ∧ okSAmount x.Amount ∧ okI .i64 x.Counter ∧ okI .i64 x.Zone ∧ okS x.Card ∧ okSFilter x.Filter ∧ okA6 (okI .i64) x.Pool ∧ okL 176 (okSMod) x.Mods ∧ True
theorem decSEffect {n : Nat} {cs : List C} (h : typed Tryd.prog n 147 cs) : ∃ x : SEffect, cs = encSEffect x ∧ okSEffect x := by
  obtain ⟨m, dss, h0, hE⟩ := typed_struct (ts := [3, 143, 145, 3, 3, 9, 119, 40, 120]) Tryd.underlying147 rfl h
  obtain ⟨p, h1, h2⟩ := (eachC (dI Tryd.underlying3) (eachC decSRef (eachC decSAmount (eachC (dI Tryd.underlying3) (eachC (dI Tryd.underlying3) (eachC (dS Tryd.underlying9) (eachC decSFilter (eachC (dA6 Tryd.underlying40 (dI Tryd.underlying3)) (eachC (dL Tryd.underlying120 bytes139 decSMod) eachN))))))))) hE
  exact ⟨⟨p.1, p.2.1, p.2.2.1, p.2.2.2.1, p.2.2.2.2.1, p.2.2.2.2.2.1, p.2.2.2.2.2.2.1, p.2.2.2.2.2.2.2.1, p.2.2.2.2.2.2.2.2.1⟩, h0.trans h1, h2⟩
def okSReplace (x : SReplace) : Prop := okI .i64 x.On ∧ okI .i64 x.Who ∧ okSFilter x.Filter ∧ okI .i64 x.Do ∧ okI .i64 x.N ∧ okI .i64 x.Zone ∧ okI .i64 x.Counter ∧ True
theorem decSReplace {n : Nat} {cs : List C} (h : typed Tryd.prog n 128 cs) : ∃ x : SReplace, cs = encSReplace x ∧ okSReplace x := by
  obtain ⟨m, dss, h0, hE⟩ := typed_struct (ts := [3, 3, 119, 3, 3, 3, 3]) Tryd.underlying128 rfl h
  obtain ⟨p, h1, h2⟩ := (eachC (dI Tryd.underlying3) (eachC (dI Tryd.underlying3) (eachC decSFilter (eachC (dI Tryd.underlying3) (eachC (dI Tryd.underlying3) (eachC (dI Tryd.underlying3) (eachC (dI Tryd.underlying3) eachN))))))) hE
  exact ⟨⟨p.1, p.2.1, p.2.2.1, p.2.2.2.1, p.2.2.2.2.1, p.2.2.2.2.2.1, p.2.2.2.2.2.2.1⟩, h0.trans h1, h2⟩
def okSAbility (x : SAbility) : Prop := okI .i64 x.Kind ∧ okSFilter x.Filter ∧ okL 176 (okSMod) x.Mods ∧ okSPrice x.Price ∧ okB x.Slow ∧ okSTrigger x.Trigger ∧ okB x.May ∧ okL 144 (okSSpec) x.Specs ∧ okL 560 (okSEffect) x.Effects ∧ okSReplace x.Replace ∧ True
theorem decSAbility {n : Nat} {cs : List C} (h : typed Tryd.prog n 130 cs) : ∃ x : SAbility, cs = encSAbility x ∧ okSAbility x := by
  obtain ⟨m, dss, h0, hE⟩ := typed_struct (ts := [3, 119, 120, 122, 4, 124, 4, 125, 126, 128]) Tryd.underlying130 rfl h
  obtain ⟨p, h1, h2⟩ := (eachC (dI Tryd.underlying3) (eachC decSFilter (eachC (dL Tryd.underlying120 bytes139 decSMod) (eachC decSPrice (eachC (dB Tryd.underlying4) (eachC decSTrigger (eachC (dB Tryd.underlying4) (eachC (dL Tryd.underlying125 bytes141 decSSpec) (eachC (dL Tryd.underlying126 bytes147 decSEffect) (eachC decSReplace eachN)))))))))) hE
  exact ⟨⟨p.1, p.2.1, p.2.2.1, p.2.2.2.1, p.2.2.2.2.1, p.2.2.2.2.2.1, p.2.2.2.2.2.2.1, p.2.2.2.2.2.2.2.1, p.2.2.2.2.2.2.2.2.1, p.2.2.2.2.2.2.2.2.2.1⟩, h0.trans h1, h2⟩
def okSTarget (x : STarget) : Prop := okI .i64 x.Object ∧ okI .i64 x.Player ∧ True
theorem decSTarget {n : Nat} {cs : List C} (h : typed Tryd.prog n 149 cs) : ∃ x : STarget, cs = encSTarget x ∧ okSTarget x := by
  obtain ⟨m, dss, h0, hE⟩ := typed_struct (ts := [3, 3]) Tryd.underlying149 rfl h
  obtain ⟨p, h1, h2⟩ := (eachC (dI Tryd.underlying3) (eachC (dI Tryd.underlying3) eachN)) hE
  exact ⟨⟨p.1, p.2.1⟩, h0.trans h1, h2⟩
def okSItem (x : SItem) : Prop := okI .i64 x.Id ∧ okI .i64 x.Kind ∧ okI .i64 x.Source ∧ okI .i64 x.Control ∧ okI .i64 x.X ∧ okB x.Copy ∧ okSAbility x.Ability ∧ okL 16 (okSTarget) x.Targets ∧ okSEvent x.Event ∧ True
theorem decSItem {n : Nat} {cs : List C} (h : typed Tryd.prog n 133 cs) : ∃ x : SItem, cs = encSItem x ∧ okSItem x := by
  obtain ⟨m, dss, h0, hE⟩ := typed_struct (ts := [3, 3, 3, 3, 3, 4, 130, 131, 24]) Tryd.underlying133 rfl h
  obtain ⟨p, h1, h2⟩ := (eachC (dI Tryd.underlying3) (eachC (dI Tryd.underlying3) (eachC (dI Tryd.underlying3) (eachC (dI Tryd.underlying3) (eachC (dI Tryd.underlying3) (eachC (dB Tryd.underlying4) (eachC decSAbility (eachC (dL Tryd.underlying131 bytes149 decSTarget) (eachC decSEvent eachN))))))))) hE
  exact ⟨⟨p.1, p.2.1, p.2.2.1, p.2.2.2.1, p.2.2.2.2.1, p.2.2.2.2.2.1, p.2.2.2.2.2.2.1, p.2.2.2.2.2.2.2.1, p.2.2.2.2.2.2.2.2.1⟩, h0.trans h1, h2⟩
def okSWaiting (x : SWaiting) : Prop := okI .i64 x.Source ∧ okI .i64 x.Control ∧ okSAbility x.Ability ∧ okSEvent x.Event ∧ True
theorem decSWaiting {n : Nat} {cs : List C} (h : typed Tryd.prog n 135 cs) : ∃ x : SWaiting, cs = encSWaiting x ∧ okSWaiting x := by
  obtain ⟨m, dss, h0, hE⟩ := typed_struct (ts := [3, 3, 130, 24]) Tryd.underlying135 rfl h
  obtain ⟨p, h1, h2⟩ := (eachC (dI Tryd.underlying3) (eachC (dI Tryd.underlying3) (eachC decSAbility (eachC decSEvent eachN)))) hE
  exact ⟨⟨p.1, p.2.1, p.2.2.1, p.2.2.2.1⟩, h0.trans h1, h2⟩
def okSCont (x : SCont) : Prop := okI .i64 x.Stamp ∧ okI .i64 x.Control ∧ okI .i64 x.Source ∧ okI .i64 x.Until ∧ okL 8 (okI .i64) x.Objects ∧ okL 176 (okSMod) x.Mods ∧ True
theorem decSCont {n : Nat} {cs : List C} (h : typed Tryd.prog n 137 cs) : ∃ x : SCont, cs = encSCont x ∧ okSCont x := by
  obtain ⟨m, dss, h0, hE⟩ := typed_struct (ts := [3, 3, 3, 3, 31, 120]) Tryd.underlying137 rfl h
  obtain ⟨p, h1, h2⟩ := (eachC (dI Tryd.underlying3) (eachC (dI Tryd.underlying3) (eachC (dI Tryd.underlying3) (eachC (dI Tryd.underlying3) (eachC (dL Tryd.underlying31 bytes3 (dI Tryd.underlying3)) (eachC (dL Tryd.underlying120 bytes139 decSMod) eachN)))))) hE
  exact ⟨⟨p.1, p.2.1, p.2.2.1, p.2.2.2.1, p.2.2.2.2.1, p.2.2.2.2.2.1⟩, h0.trans h1, h2⟩
def okSState (x : SState) : Prop := okL 152 (okSPlayer) x.Players ∧ okL 128 (okSObject) x.Objects ∧ okL 8 (okI .i64) x.Battlefield ∧ okL 8 (okI .i64) x.Exile ∧ okL 824 (okSItem) x.Stack ∧ okL 768 (okSWaiting) x.Waiting ∧ okL 80 (okSCont) x.Conts ∧ okI .i64 x.Turn ∧ okI .i64 x.Active ∧ okI .i64 x.Step ∧ okB x.Begun ∧ okI .i64 x.Priority ∧ okI .i64 x.Passes ∧ okI .i64 x.NextId ∧ okI .i64 x.NextStamp ∧ okI .u64 x.Seed ∧ okL 8 (okI .i64) x.Extra ∧ okI .i64 x.Over ∧ okI .i64 x.Winner ∧ True
theorem decSState {n : Nat} {cs : List C} (h : typed Tryd.prog n 37 cs) : ∃ x : SState, cs = encSState x ∧ okSState x := by
  obtain ⟨m, dss, h0, hE⟩ := typed_struct (ts := [29, 30, 31, 31, 32, 33, 34, 3, 3, 3, 4, 3, 3, 3, 3, 35, 31, 3, 3]) Tryd.underlying37 rfl h
  obtain ⟨p, h1, h2⟩ := (eachC (dL Tryd.underlying29 bytes42 decSPlayer) (eachC (dL Tryd.underlying30 bytes52 decSObject) (eachC (dL Tryd.underlying31 bytes3 (dI Tryd.underlying3)) (eachC (dL Tryd.underlying31 bytes3 (dI Tryd.underlying3)) (eachC (dL Tryd.underlying32 bytes133 decSItem) (eachC (dL Tryd.underlying33 bytes135 decSWaiting) (eachC (dL Tryd.underlying34 bytes137 decSCont) (eachC (dI Tryd.underlying3) (eachC (dI Tryd.underlying3) (eachC (dI Tryd.underlying3) (eachC (dB Tryd.underlying4) (eachC (dI Tryd.underlying3) (eachC (dI Tryd.underlying3) (eachC (dI Tryd.underlying3) (eachC (dI Tryd.underlying3) (eachC (dI Tryd.underlying35) (eachC (dL Tryd.underlying31 bytes3 (dI Tryd.underlying3)) (eachC (dI Tryd.underlying3) (eachC (dI Tryd.underlying3) eachN))))))))))))))))))) hE
  exact ⟨⟨p.1, p.2.1, p.2.2.1, p.2.2.2.1, p.2.2.2.2.1, p.2.2.2.2.2.1, p.2.2.2.2.2.2.1, p.2.2.2.2.2.2.2.1, p.2.2.2.2.2.2.2.2.1, p.2.2.2.2.2.2.2.2.2.1, p.2.2.2.2.2.2.2.2.2.2.1, p.2.2.2.2.2.2.2.2.2.2.2.1, p.2.2.2.2.2.2.2.2.2.2.2.2.1, p.2.2.2.2.2.2.2.2.2.2.2.2.2.1, p.2.2.2.2.2.2.2.2.2.2.2.2.2.2.1, p.2.2.2.2.2.2.2.2.2.2.2.2.2.2.2.1, p.2.2.2.2.2.2.2.2.2.2.2.2.2.2.2.2.1, p.2.2.2.2.2.2.2.2.2.2.2.2.2.2.2.2.2.1, p.2.2.2.2.2.2.2.2.2.2.2.2.2.2.2.2.2.2.1⟩, h0.trans h1, h2⟩
def okSLine (x : SLine) : Prop := okI .i64 x.Super ∧ okI .i64 x.Types ∧ okL 16 (okS) x.Subs ∧ True
theorem decSLine {n : Nat} {cs : List C} (h : typed Tryd.prog n 62 cs) : ∃ x : SLine, cs = encSLine x ∧ okSLine x := by
  obtain ⟨m, dss, h0, hE⟩ := typed_struct (ts := [3, 3, 46]) Tryd.underlying62 rfl h
  obtain ⟨p, h1, h2⟩ := (eachC (dI Tryd.underlying3) (eachC (dI Tryd.underlying3) (eachC (dL Tryd.underlying46 bytes9 (dS Tryd.underlying9)) eachN))) hE
  exact ⟨⟨p.1, p.2.1, p.2.2.1⟩, h0.trans h1, h2⟩
def okSCard (x : SCard) : Prop := okS x.Name ∧ okB x.Token ∧ okSCost x.Cost ∧ okI .i64 x.Color ∧ okSLine x.Line ∧ okI .i64 x.Power ∧ okI .i64 x.Tough ∧ okI .i64 x.Keys ∧ okL 640 (okSAbility) x.Abilities ∧ True
theorem decSCard {n : Nat} {cs : List C} (h : typed Tryd.prog n 78 cs) : ∃ x : SCard, cs = encSCard x ∧ okSCard x := by
  obtain ⟨m, dss, h0, hE⟩ := typed_struct (ts := [9, 4, 60, 3, 62, 3, 3, 3, 63]) Tryd.underlying78 rfl h
  obtain ⟨p, h1, h2⟩ := (eachC (dS Tryd.underlying9) (eachC (dB Tryd.underlying4) (eachC decSCost (eachC (dI Tryd.underlying3) (eachC decSLine (eachC (dI Tryd.underlying3) (eachC (dI Tryd.underlying3) (eachC (dI Tryd.underlying3) (eachC (dL Tryd.underlying63 bytes130 decSAbility) eachN))))))))) hE
  exact ⟨⟨p.1, p.2.1, p.2.2.1, p.2.2.2.1, p.2.2.2.2.1, p.2.2.2.2.2.1, p.2.2.2.2.2.2.1, p.2.2.2.2.2.2.2.1, p.2.2.2.2.2.2.2.2.1⟩, h0.trans h1, h2⟩
def okSTraits (x : STraits) : Prop := okS x.Name ∧ okSCost x.Cost ∧ okI .i64 x.Colors ∧ okSLine x.Line ∧ okI .i64 x.Power ∧ okI .i64 x.Tough ∧ okI .i64 x.Keys ∧ okL 640 (okSAbility) x.Abilities ∧ okI .i64 x.Control ∧ True
theorem decSTraits {n : Nat} {cs : List C} (h : typed Tryd.prog n 65 cs) : ∃ x : STraits, cs = encSTraits x ∧ okSTraits x := by
  obtain ⟨m, dss, h0, hE⟩ := typed_struct (ts := [9, 60, 3, 62, 3, 3, 3, 63, 3]) Tryd.underlying65 rfl h
  obtain ⟨p, h1, h2⟩ := (eachC (dS Tryd.underlying9) (eachC decSCost (eachC (dI Tryd.underlying3) (eachC decSLine (eachC (dI Tryd.underlying3) (eachC (dI Tryd.underlying3) (eachC (dI Tryd.underlying3) (eachC (dL Tryd.underlying63 bytes130 decSAbility) (eachC (dI Tryd.underlying3) eachN))))))))) hE
  exact ⟨⟨p.1, p.2.1, p.2.2.1, p.2.2.2.1, p.2.2.2.2.1, p.2.2.2.2.2.1, p.2.2.2.2.2.2.1, p.2.2.2.2.2.2.2.1, p.2.2.2.2.2.2.2.2.1⟩, h0.trans h1, h2⟩
end Go.PL
