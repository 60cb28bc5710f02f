/- Functions of the program, as partial functions in Lean, with proofs. -/
import Derived.Test.YtcmdlelhdimnfaaGreatDoorPlPvtoPlPd
import Derived.Test.YtcmdlelhdimnfaaGreatDoorPlAcB
namespace Go.PL
open Go Go.RowKit Go.Proofs
set_option maxRecDepth 100000
set_option linter.all false
set_option maxHeartbeats 4000000
theorem bytes3 : Tryz.prog.bytesOf 3 = 8 := by kernel_rfl
theorem bytes38 : Tryz.prog.bytesOf 38 = 128 := by kernel_rfl
theorem bytes42 : Tryz.prog.bytesOf 42 = 152 := by kernel_rfl
theorem bytes80 : Tryz.prog.bytesOf 80 = 824 := by kernel_rfl
theorem bytes83 : Tryz.prog.bytesOf 83 = 768 := by kernel_rfl
theorem bytes85 : Tryz.prog.bytesOf 85 = 80 := by kernel_rfl
theorem bytes106 : Tryz.prog.bytesOf 106 = 560 := by kernel_rfl
theorem bytes157 : Tryz.prog.bytesOf 157 = 16 := by kernel_rfl
theorem bytes161 : Tryz.prog.bytesOf 161 = 176 := by kernel_rfl
theorem bytes177 : Tryz.prog.bytesOf 177 = 144 := by kernel_rfl
def okA3 {α : Type} (ok : α → Prop) (a : A3 α) : Prop := ∀ y ∈ a.l, ok y
theorem dA3 {P : Program} {t e : TypeId} {n : Nat} {cs : List C} {α : Type} {enc : α → List C} {ok : α → Prop} (hu : P.underlying t = some (.array 3 e)) (hd : ∀ {n ds}, typed P n e ds → ∃ x, ds = enc x ∧ ok x) (h : typed P n t cs) : ∃ a : A3 α, cs = eA3 enc a ∧ okA3 ok a := by
  obtain ⟨l, h1, h2, h3⟩ := dA hu hd h
  subst h2
  match l, h1, h3 with
  | [x0, x1, x2], _, h3 => exact ⟨⟨x0, x1, x2⟩, rfl, h3⟩
def okA5 {α : Type} (ok : α → Prop) (a : A5 α) : Prop := ∀ y ∈ a.l, ok y
theorem dA5 {P : Program} {t e : TypeId} {n : Nat} {cs : List C} {α : Type} {enc : α → List C} {ok : α → Prop} (hu : P.underlying t = some (.array 5 e)) (hd : ∀ {n ds}, typed P n e ds → ∃ x, ds = enc x ∧ ok x) (h : typed P n t cs) : ∃ a : A5 α, cs = eA5 enc a ∧ okA5 ok a := by
  obtain ⟨l, h1, h2, h3⟩ := dA hu hd h
  subst h2
  match l, h1, h3 with
  | [x0, x1, x2, x3, x4], _, h3 => exact ⟨⟨x0, x1, x2, x3, x4⟩, rfl, h3⟩
def okA6 {α : Type} (ok : α → Prop) (a : A6 α) : Prop := ∀ y ∈ a.l, ok y
theorem dA6 {P : Program} {t e : TypeId} {n : Nat} {cs : List C} {α : Type} {enc : α → List C} {ok : α → Prop} (hu : P.underlying t = some (.array 6 e)) (hd : ∀ {n ds}, typed P n e ds → ∃ x, ds = enc x ∧ ok x) (h : typed P n t cs) : ∃ a : A6 α, cs = eA6 enc a ∧ okA6 ok a := by
  obtain ⟨l, h1, h2, h3⟩ := dA hu hd h
  subst h2
  match l, h1, h3 with
  | [x0, x1, x2, x3, x4, x5], _, h3 => exact ⟨⟨x0, x1, x2, x3, x4, x5⟩, rfl, h3⟩
def okSPlayer (x : SPlayer) : Prop := okI .i64 x.Life ∧ okI .i64 x.Venom ∧ okI .i64 x.Lands ∧ okA6 (okI .i64) x.Pool ∧ okB x.Failed ∧ okB x.Lost ∧ okL 8 (okI .i64) x.Library ∧ okL 8 (okI .i64) x.Hand ∧ okL 8 (okI .i64) x.Graveyard ∧ True
theorem decSPlayer {n : Nat} {cs : List C} (h : typed Tryz.prog n 42 cs) : ∃ x : SPlayer, cs = encSPlayer x ∧ okSPlayer x := by
  obtain ⟨m, dss, h0, hE⟩ := typed_struct (ts := [3, 3, 3, 40, 4, 4, 24, 24, 24]) Tryz.underlying42 rfl h
  obtain ⟨p, h1, h2⟩ := (eachC (dI Tryz.underlying3) (eachC (dI Tryz.underlying3) (eachC (dI Tryz.underlying3) (eachC (dA6 Tryz.underlying40 (dI Tryz.underlying3)) (eachC (dB Tryz.underlying4) (eachC (dB Tryz.underlying4) (eachC (dL Tryz.underlying24 bytes3 (dI Tryz.underlying3)) (eachC (dL Tryz.underlying24 bytes3 (dI Tryz.underlying3)) (eachC (dL Tryz.underlying24 bytes3 (dI Tryz.underlying3)) eachN))))))))) hE
  exact ⟨⟨p.1, p.2.1, p.2.2.1, p.2.2.2.1, p.2.2.2.2.1, p.2.2.2.2.2.1, p.2.2.2.2.2.2.1, p.2.2.2.2.2.2.2.1, p.2.2.2.2.2.2.2.2.1⟩, h0.trans h1, h2⟩
def okSObject (x : SObject) : Prop := okI .i64 x.Id ∧ okI .i64 x.Card ∧ okI .i64 x.Owner ∧ okI .i64 x.Control ∧ okI .i64 x.Zone ∧ okB x.Token ∧ okB x.Tapped ∧ okB x.Sick ∧ okB x.Deadly ∧ okI .i64 x.Damage ∧ okA3 (okI .i64) x.Counters ∧ okI .i64 x.Stamp ∧ okI .i64 x.Copy ∧ okI .i64 x.Attack ∧ okB x.Blocked ∧ okI .i64 x.Blocks ∧ okI .i64 x.Shield ∧ True
theorem decSObject {n : Nat} {cs : List C} (h : typed Tryz.prog n 38 cs) : ∃ x : SObject, cs = encSObject x ∧ okSObject x := by
  obtain ⟨m, dss, h0, hE⟩ := typed_struct (ts := [3, 3, 3, 3, 3, 4, 4, 4, 4, 3, 36, 3, 3, 3, 4, 3, 3]) Tryz.underlying38 rfl h
  obtain ⟨p, h1, h2⟩ := (eachC (dI Tryz.underlying3) (eachC (dI Tryz.underlying3) (eachC (dI Tryz.underlying3) (eachC (dI Tryz.underlying3) (eachC (dI Tryz.underlying3) (eachC (dB Tryz.underlying4) (eachC (dB Tryz.underlying4) (eachC (dB Tryz.underlying4) (eachC (dB Tryz.underlying4) (eachC (dI Tryz.underlying3) (eachC (dA3 Tryz.underlying36 (dI Tryz.underlying3)) (eachC (dI Tryz.underlying3) (eachC (dI Tryz.underlying3) (eachC (dI Tryz.underlying3) (eachC (dB Tryz.underlying4) (eachC (dI Tryz.underlying3) (eachC (dI Tryz.underlying3) eachN))))))))))))))))) hE
  exact ⟨⟨p.1, p.2.1, p.2.2.1, p.2.2.2.1, p.2.2.2.2.1, p.2.2.2.2.2.1, p.2.2.2.2.2.2.1, p.2.2.2.2.2.2.2.1, p.2.2.2.2.2.2.2.2.1, p.2.2.2.2.2.2.2.2.2.1, p.2.2.2.2.2.2.2.2.2.2.1, p.2.2.2.2.2.2.2.2.2.2.2.1, p.2.2.2.2.2.2.2.2.2.2.2.2.1, p.2.2.2.2.2.2.2.2.2.2.2.2.2.1, p.2.2.2.2.2.2.2.2.2.2.2.2.2.2.1, p.2.2.2.2.2.2.2.2.2.2.2.2.2.2.2.1, p.2.2.2.2.2.2.2.2.2.2.2.2.2.2.2.2.1⟩, h0.trans h1, h2⟩
def okSBound (x : SBound) : Prop := okI .i64 x.Kind ∧ okI .i64 x.N ∧ True
theorem decSBound {n : Nat} {cs : List C} (h : typed Tryz.prog n 62 cs) : ∃ x : SBound, cs = encSBound x ∧ okSBound x := by
  obtain ⟨m, dss, h0, hE⟩ := typed_struct (ts := [3, 3]) Tryz.underlying62 rfl h
  obtain ⟨p, h1, h2⟩ := (eachC (dI Tryz.underlying3) (eachC (dI Tryz.underlying3) eachN)) hE
  exact ⟨⟨p.1, p.2.1⟩, h0.trans h1, h2⟩
def okSFilter (x : SFilter) : Prop := okI .i64 x.Zone ∧ okI .i64 x.Who ∧ okI .i64 x.Self ∧ okI .i64 x.Types ∧ okI .i64 x.NotTypes ∧ okI .i64 x.Colors ∧ okI .i64 x.NotColors ∧ okS x.Sub ∧ okI .i64 x.Keys ∧ okI .i64 x.Tap ∧ okSBound x.Power ∧ okSBound x.Tough ∧ okSBound x.Value ∧ True
theorem decSFilter {n : Nat} {cs : List C} (h : typed Tryz.prog n 64 cs) : ∃ x : SFilter, cs = encSFilter x ∧ okSFilter x := by
  obtain ⟨m, dss, h0, hE⟩ := typed_struct (ts := [3, 3, 3, 3, 3, 3, 3, 9, 3, 3, 62, 62, 62]) Tryz.underlying64 rfl h
  obtain ⟨p, h1, h2⟩ := (eachC (dI Tryz.underlying3) (eachC (dI Tryz.underlying3) (eachC (dI Tryz.underlying3) (eachC (dI Tryz.underlying3) (eachC (dI Tryz.underlying3) (eachC (dI Tryz.underlying3) (eachC (dI Tryz.underlying3) (eachC (dS Tryz.underlying9) (eachC (dI Tryz.underlying3) (eachC (dI Tryz.underlying3) (eachC decSBound (eachC decSBound (eachC decSBound eachN))))))))))))) hE
  exact ⟨⟨p.1, p.2.1, p.2.2.1, p.2.2.2.1, p.2.2.2.2.1, p.2.2.2.2.2.1, p.2.2.2.2.2.2.1, p.2.2.2.2.2.2.2.1, p.2.2.2.2.2.2.2.2.1, p.2.2.2.2.2.2.2.2.2.1, p.2.2.2.2.2.2.2.2.2.2.1, p.2.2.2.2.2.2.2.2.2.2.2.1, p.2.2.2.2.2.2.2.2.2.2.2.2.1⟩, h0.trans h1, h2⟩
def okSMod (x : SMod) : Prop := okI .i64 x.Kind ∧ okI .i64 x.N ∧ okI .i64 x.M ∧ okS x.Sub ∧ okSFilter x.Filter ∧ True
theorem decSMod {n : Nat} {cs : List C} (h : typed Tryz.prog n 161 cs) : ∃ x : SMod, cs = encSMod x ∧ okSMod x := by
  obtain ⟨m, dss, h0, hE⟩ := typed_struct (ts := [3, 3, 3, 9, 64]) Tryz.underlying161 rfl h
  obtain ⟨p, h1, h2⟩ := (eachC (dI Tryz.underlying3) (eachC (dI Tryz.underlying3) (eachC (dI Tryz.underlying3) (eachC (dS Tryz.underlying9) (eachC decSFilter eachN))))) hE
  exact ⟨⟨p.1, p.2.1, p.2.2.1, p.2.2.2.1, p.2.2.2.2.1⟩, h0.trans h1, h2⟩
def okSCost (x : SCost) : Prop := okI .i64 x.Generic ∧ okI .i64 x.X ∧ okA5 (okI .i64) x.Color ∧ True
theorem decSCost {n : Nat} {cs : List C} (h : typed Tryz.prog n 48 cs) : ∃ x : SCost, cs = encSCost x ∧ okSCost x := by
  obtain ⟨m, dss, h0, hE⟩ := typed_struct (ts := [3, 3, 46]) Tryz.underlying48 rfl h
  obtain ⟨p, h1, h2⟩ := (eachC (dI Tryz.underlying3) (eachC (dI Tryz.underlying3) (eachC (dA5 Tryz.underlying46 (dI Tryz.underlying3)) eachN))) hE
  exact ⟨⟨p.1, p.2.1, p.2.2.1⟩, h0.trans h1, h2⟩
def okSPrice (x : SPrice) : Prop := okSCost x.Mana ∧ okB x.Tap ∧ okB x.Sacrifice ∧ okI .i64 x.Life ∧ True
theorem decSPrice {n : Nat} {cs : List C} (h : typed Tryz.prog n 67 cs) : ∃ x : SPrice, cs = encSPrice x ∧ okSPrice x := by
  obtain ⟨m, dss, h0, hE⟩ := typed_struct (ts := [48, 4, 4, 3]) Tryz.underlying67 rfl h
  obtain ⟨p, h1, h2⟩ := (eachC decSCost (eachC (dB Tryz.underlying4) (eachC (dB Tryz.underlying4) (eachC (dI Tryz.underlying3) eachN)))) hE
  exact ⟨⟨p.1, p.2.1, p.2.2.1, p.2.2.2.1⟩, h0.trans h1, h2⟩
def okSTrigger (x : STrigger) : Prop := okI .i64 x.When ∧ okI .i64 x.Who ∧ okSFilter x.Filter ∧ True
theorem decSTrigger {n : Nat} {cs : List C} (h : typed Tryz.prog n 69 cs) : ∃ x : STrigger, cs = encSTrigger x ∧ okSTrigger x := by
  obtain ⟨m, dss, h0, hE⟩ := typed_struct (ts := [3, 3, 64]) Tryz.underlying69 rfl h
  obtain ⟨p, h1, h2⟩ := (eachC (dI Tryz.underlying3) (eachC (dI Tryz.underlying3) (eachC decSFilter eachN))) hE
  exact ⟨⟨p.1, p.2.1, p.2.2.1⟩, h0.trans h1, h2⟩
def okSSpec (x : SSpec) : Prop := okB x.Player ∧ okB x.Object ∧ okSFilter x.Filter ∧ True
theorem decSSpec {n : Nat} {cs : List C} (h : typed Tryz.prog n 177 cs) : ∃ x : SSpec, cs = encSSpec x ∧ okSSpec x := by
  obtain ⟨m, dss, h0, hE⟩ := typed_struct (ts := [4, 4, 64]) Tryz.underlying177 rfl h
  obtain ⟨p, h1, h2⟩ := (eachC (dB Tryz.underlying4) (eachC (dB Tryz.underlying4) (eachC decSFilter eachN))) hE
  exact ⟨⟨p.1, p.2.1, p.2.2.1⟩, h0.trans h1, h2⟩
def okSRef (x : SRef) : Prop := okI .i64 x.Kind ∧ okI .i64 x.N ∧ okSFilter x.Filter ∧ True
theorem decSRef {n : Nat} {cs : List C} (h : typed Tryz.prog n 102 cs) : ∃ x : SRef, cs = encSRef x ∧ okSRef x := by
  obtain ⟨m, dss, h0, hE⟩ := typed_struct (ts := [3, 3, 64]) Tryz.underlying102 rfl h
  obtain ⟨p, h1, h2⟩ := (eachC (dI Tryz.underlying3) (eachC (dI Tryz.underlying3) (eachC decSFilter eachN))) hE
  exact ⟨⟨p.1, p.2.1, p.2.2.1⟩, h0.trans h1, h2⟩
def okSAmount (x : SAmount) : Prop := okI .i64 x.Kind ∧ okI .i64 x.N ∧ okI .i64 x.Counter ∧ okSFilter x.Filter ∧ True
theorem decSAmount {n : Nat} {cs : List C} (h : typed Tryz.prog n 104 cs) : ∃ x : SAmount, cs = encSAmount x ∧ okSAmount x := by
  obtain ⟨m, dss, h0, hE⟩ := typed_struct (ts := [3, 3, 3, 64]) Tryz.underlying104 rfl h
  obtain ⟨p, h1, h2⟩ := (eachC (dI Tryz.underlying3) (eachC (dI Tryz.underlying3) (eachC (dI Tryz.underlying3) (eachC decSFilter eachN)))) hE
  exact ⟨⟨p.1, p.2.1, p.2.2.1, p.2.2.2.1⟩, h0.trans h1, h2⟩
def okSEffect (x : SEffect) : Prop := okI .i64 x.Op ∧ okSRef x.Ref ∧ okSAmount x.Amount ∧ okI .i64 x.Counter ∧ okI .i64 x.Zone ∧ okS x.Card ∧ okSFilter x.Filter ∧ okA6 (okI .i64) x.Pool ∧ okL 176 (okSMod) x.Mods ∧ True
theorem decSEffect {n : Nat} {cs : List C} (h : typed Tryz.prog n 106 cs) : ∃ x : SEffect, cs = encSEffect x ∧ okSEffect x := by
  obtain ⟨m, dss, h0, hE⟩ := typed_struct (ts := [3, 102, 104, 3, 3, 9, 64, 40, 65]) Tryz.underlying106 rfl h
  obtain ⟨p, h1, h2⟩ := (eachC (dI Tryz.underlying3) (eachC decSRef (eachC decSAmount (eachC (dI Tryz.underlying3) (eachC (dI Tryz.underlying3) (eachC (dS Tryz.underlying9) (eachC decSFilter (eachC (dA6 Tryz.underlying40 (dI Tryz.underlying3)) (eachC (dL Tryz.underlying65 bytes161 decSMod) eachN))))))))) hE
  exact ⟨⟨p.1, p.2.1, p.2.2.1, p.2.2.2.1, p.2.2.2.2.1, p.2.2.2.2.2.1, p.2.2.2.2.2.2.1, p.2.2.2.2.2.2.2.1, p.2.2.2.2.2.2.2.2.1⟩, h0.trans h1, h2⟩
def okSReplace (x : SReplace) : Prop := okI .i64 x.On ∧ okI .i64 x.Who ∧ okSFilter x.Filter ∧ okI .i64 x.Do ∧ okI .i64 x.N ∧ okI .i64 x.Zone ∧ okI .i64 x.Counter ∧ True
theorem decSReplace {n : Nat} {cs : List C} (h : typed Tryz.prog n 73 cs) : ∃ x : SReplace, cs = encSReplace x ∧ okSReplace x := by
  obtain ⟨m, dss, h0, hE⟩ := typed_struct (ts := [3, 3, 64, 3, 3, 3, 3]) Tryz.underlying73 rfl h
  obtain ⟨p, h1, h2⟩ := (eachC (dI Tryz.underlying3) (eachC (dI Tryz.underlying3) (eachC decSFilter (eachC (dI Tryz.underlying3) (eachC (dI Tryz.underlying3) (eachC (dI Tryz.underlying3) (eachC (dI Tryz.underlying3) eachN))))))) hE
  exact ⟨⟨p.1, p.2.1, p.2.2.1, p.2.2.2.1, p.2.2.2.2.1, p.2.2.2.2.2.1, p.2.2.2.2.2.2.1⟩, h0.trans h1, h2⟩
def okSAbility (x : SAbility) : Prop := okI .i64 x.Kind ∧ okSFilter x.Filter ∧ okL 176 (okSMod) x.Mods ∧ okSPrice x.Price ∧ okB x.Slow ∧ okSTrigger x.Trigger ∧ okB x.May ∧ okL 144 (okSSpec) x.Specs ∧ okL 560 (okSEffect) x.Effects ∧ okSReplace x.Replace ∧ True
theorem decSAbility {n : Nat} {cs : List C} (h : typed Tryz.prog n 75 cs) : ∃ x : SAbility, cs = encSAbility x ∧ okSAbility x := by
  obtain ⟨m, dss, h0, hE⟩ := typed_struct (ts := [3, 64, 65, 67, 4, 69, 4, 70, 71, 73]) Tryz.underlying75 rfl h
  obtain ⟨p, h1, h2⟩ := (eachC (dI Tryz.underlying3) (eachC decSFilter (eachC (dL Tryz.underlying65 bytes161 decSMod) (eachC decSPrice (eachC (dB Tryz.underlying4) (eachC decSTrigger (eachC (dB Tryz.underlying4) (eachC (dL Tryz.underlying70 bytes177 decSSpec) (eachC (dL Tryz.underlying71 bytes106 decSEffect) (eachC decSReplace eachN)))))))))) hE
  exact ⟨⟨p.1, p.2.1, p.2.2.1, p.2.2.2.1, p.2.2.2.2.1, p.2.2.2.2.2.1, p.2.2.2.2.2.2.1, p.2.2.2.2.2.2.2.1, p.2.2.2.2.2.2.2.2.1, p.2.2.2.2.2.2.2.2.2.1⟩, h0.trans h1, h2⟩
def okSTarget (x : STarget) : Prop := okI .i64 x.Object ∧ okI .i64 x.Player ∧ True
theorem decSTarget {n : Nat} {cs : List C} (h : typed Tryz.prog n 157 cs) : ∃ x : STarget, cs = encSTarget x ∧ okSTarget x := by
  obtain ⟨m, dss, h0, hE⟩ := typed_struct (ts := [3, 3]) Tryz.underlying157 rfl h
  obtain ⟨p, h1, h2⟩ := (eachC (dI Tryz.underlying3) (eachC (dI Tryz.underlying3) eachN)) hE
  exact ⟨⟨p.1, p.2.1⟩, h0.trans h1, h2⟩
def okSEvent (x : SEvent) : Prop := okI .i64 x.Kind ∧ okI .i64 x.Source ∧ okI .i64 x.Object ∧ okI .i64 x.Player ∧ okI .i64 x.Amount ∧ okI .i64 x.From ∧ okI .i64 x.To ∧ okI .i64 x.Cause ∧ okI .i64 x.Counter ∧ okI .i64 x.Card ∧ okB x.Combat ∧ okB x.Tapped ∧ okA3 (okI .i64) x.Extra ∧ True
theorem decSEvent {n : Nat} {cs : List C} (h : typed Tryz.prog n 78 cs) : ∃ x : SEvent, cs = encSEvent x ∧ okSEvent x := by
  obtain ⟨m, dss, h0, hE⟩ := typed_struct (ts := [3, 3, 3, 3, 3, 3, 3, 3, 3, 3, 4, 4, 36]) Tryz.underlying78 rfl h
  obtain ⟨p, h1, h2⟩ := (eachC (dI Tryz.underlying3) (eachC (dI Tryz.underlying3) (eachC (dI Tryz.underlying3) (eachC (dI Tryz.underlying3) (eachC (dI Tryz.underlying3) (eachC (dI Tryz.underlying3) (eachC (dI Tryz.underlying3) (eachC (dI Tryz.underlying3) (eachC (dI Tryz.underlying3) (eachC (dI Tryz.underlying3) (eachC (dB Tryz.underlying4) (eachC (dB Tryz.underlying4) (eachC (dA3 Tryz.underlying36 (dI Tryz.underlying3)) eachN))))))))))))) hE
  exact ⟨⟨p.1, p.2.1, p.2.2.1, p.2.2.2.1, p.2.2.2.2.1, p.2.2.2.2.2.1, p.2.2.2.2.2.2.1, p.2.2.2.2.2.2.2.1, p.2.2.2.2.2.2.2.2.1, p.2.2.2.2.2.2.2.2.2.1, p.2.2.2.2.2.2.2.2.2.2.1, p.2.2.2.2.2.2.2.2.2.2.2.1, p.2.2.2.2.2.2.2.2.2.2.2.2.1⟩, h0.trans h1, h2⟩
def okSItem (x : SItem) : Prop := okI .i64 x.Id ∧ okI .i64 x.Kind ∧ okI .i64 x.Source ∧ okI .i64 x.Control ∧ okI .i64 x.X ∧ okB x.Copy ∧ okSAbility x.Ability ∧ okL 16 (okSTarget) x.Targets ∧ okSEvent x.Event ∧ True
theorem decSItem {n : Nat} {cs : List C} (h : typed Tryz.prog n 80 cs) : ∃ x : SItem, cs = encSItem x ∧ okSItem x := by
  obtain ⟨m, dss, h0, hE⟩ := typed_struct (ts := [3, 3, 3, 3, 3, 4, 75, 76, 78]) Tryz.underlying80 rfl h
  obtain ⟨p, h1, h2⟩ := (eachC (dI Tryz.underlying3) (eachC (dI Tryz.underlying3) (eachC (dI Tryz.underlying3) (eachC (dI Tryz.underlying3) (eachC (dI Tryz.underlying3) (eachC (dB Tryz.underlying4) (eachC decSAbility (eachC (dL Tryz.underlying76 bytes157 decSTarget) (eachC decSEvent eachN))))))))) hE
  exact ⟨⟨p.1, p.2.1, p.2.2.1, p.2.2.2.1, p.2.2.2.2.1, p.2.2.2.2.2.1, p.2.2.2.2.2.2.1, p.2.2.2.2.2.2.2.1, p.2.2.2.2.2.2.2.2.1⟩, h0.trans h1, h2⟩
def okSWaiting (x : SWaiting) : Prop := okI .i64 x.Source ∧ okI .i64 x.Control ∧ okSAbility x.Ability ∧ okSEvent x.Event ∧ True
theorem decSWaiting {n : Nat} {cs : List C} (h : typed Tryz.prog n 83 cs) : ∃ x : SWaiting, cs = encSWaiting x ∧ okSWaiting x := by
  obtain ⟨m, dss, h0, hE⟩ := typed_struct (ts := [3, 3, 75, 78]) Tryz.underlying83 rfl h
  obtain ⟨p, h1, h2⟩ := (eachC (dI Tryz.underlying3) (eachC (dI Tryz.underlying3) (eachC decSAbility (eachC decSEvent eachN)))) hE
  exact ⟨⟨p.1, p.2.1, p.2.2.1, p.2.2.2.1⟩, h0.trans h1, h2⟩
def okSCont (x : SCont) : Prop := okI .i64 x.Stamp ∧ okI .i64 x.Control ∧ okI .i64 x.Source ∧ okI .i64 x.Until ∧ okL 8 (okI .i64) x.Objects ∧ okL 176 (okSMod) x.Mods ∧ True
theorem decSCont {n : Nat} {cs : List C} (h : typed Tryz.prog n 85 cs) : ∃ x : SCont, cs = encSCont x ∧ okSCont x := by
  obtain ⟨m, dss, h0, hE⟩ := typed_struct (ts := [3, 3, 3, 3, 24, 65]) Tryz.underlying85 rfl h
  obtain ⟨p, h1, h2⟩ := (eachC (dI Tryz.underlying3) (eachC (dI Tryz.underlying3) (eachC (dI Tryz.underlying3) (eachC (dI Tryz.underlying3) (eachC (dL Tryz.underlying24 bytes3 (dI Tryz.underlying3)) (eachC (dL Tryz.underlying65 bytes161 decSMod) eachN)))))) hE
  exact ⟨⟨p.1, p.2.1, p.2.2.1, p.2.2.2.1, p.2.2.2.2.1, p.2.2.2.2.2.1⟩, h0.trans h1, h2⟩
def okSState (x : SState) : Prop := okL 152 (okSPlayer) x.Players ∧ okL 128 (okSObject) x.Objects ∧ okL 8 (okI .i64) x.Battlefield ∧ okL 8 (okI .i64) x.Exile ∧ okL 824 (okSItem) x.Stack ∧ okL 768 (okSWaiting) x.Waiting ∧ okL 80 (okSCont) x.Conts ∧ okI .i64 x.Turn ∧ okI .i64 x.Active ∧ okI .i64 x.Step ∧ okB x.Begun ∧ okI .i64 x.Priority ∧ okI .i64 x.Passes ∧ okI .i64 x.NextId ∧ okI .i64 x.NextStamp ∧ okI .u64 x.Seed ∧ okL 8 (okI .i64) x.Extra ∧ okI .i64 x.Over ∧ okI .i64 x.Winner ∧ True
theorem decSState {n : Nat} {cs : List C} (h : typed Tryz.prog n 30 cs) : ∃ x : SState, cs = encSState x ∧ okSState x := by
  obtain ⟨m, dss, h0, hE⟩ := typed_struct (ts := [22, 23, 24, 24, 25, 26, 27, 3, 3, 3, 4, 3, 3, 3, 3, 28, 24, 3, 3]) Tryz.underlying30 rfl h
  obtain ⟨p, h1, h2⟩ := (eachC (dL Tryz.underlying22 bytes42 decSPlayer) (eachC (dL Tryz.underlying23 bytes38 decSObject) (eachC (dL Tryz.underlying24 bytes3 (dI Tryz.underlying3)) (eachC (dL Tryz.underlying24 bytes3 (dI Tryz.underlying3)) (eachC (dL Tryz.underlying25 bytes80 decSItem) (eachC (dL Tryz.underlying26 bytes83 decSWaiting) (eachC (dL Tryz.underlying27 bytes85 decSCont) (eachC (dI Tryz.underlying3) (eachC (dI Tryz.underlying3) (eachC (dI Tryz.underlying3) (eachC (dB Tryz.underlying4) (eachC (dI Tryz.underlying3) (eachC (dI Tryz.underlying3) (eachC (dI Tryz.underlying3) (eachC (dI Tryz.underlying3) (eachC (dI Tryz.underlying28) (eachC (dL Tryz.underlying24 bytes3 (dI Tryz.underlying3)) (eachC (dI Tryz.underlying3) (eachC (dI Tryz.underlying3) eachN))))))))))))))))))) hE
  exact ⟨⟨p.1, p.2.1, p.2.2.1, p.2.2.2.1, p.2.2.2.2.1, p.2.2.2.2.2.1, p.2.2.2.2.2.2.1, p.2.2.2.2.2.2.2.1, p.2.2.2.2.2.2.2.2.1, p.2.2.2.2.2.2.2.2.2.1, p.2.2.2.2.2.2.2.2.2.2.1, p.2.2.2.2.2.2.2.2.2.2.2.1, p.2.2.2.2.2.2.2.2.2.2.2.2.1, p.2.2.2.2.2.2.2.2.2.2.2.2.2.1, p.2.2.2.2.2.2.2.2.2.2.2.2.2.2.1, p.2.2.2.2.2.2.2.2.2.2.2.2.2.2.2.1, p.2.2.2.2.2.2.2.2.2.2.2.2.2.2.2.2.1, p.2.2.2.2.2.2.2.2.2.2.2.2.2.2.2.2.2.1, p.2.2.2.2.2.2.2.2.2.2.2.2.2.2.2.2.2.2.1⟩, h0.trans h1, h2⟩
end Go.PL
