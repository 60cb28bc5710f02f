/- Functions of the program, as partial functions in Lean, with proofs. -/
import Derived.Test.YtipchejgnmnffaaGreatDoorPlPtoPlPd
import Derived.Test.YtipchejgnmnffaaGreatDoorPlStB
namespace Go.PL
open Go Go.RowKit Go.Proofs
set_option maxRecDepth 100000
set_option linter.all false
set_option maxHeartbeats 1000000
theorem bytes9 : Tryz.prog.bytesOf 9 = 16 := by kernel_rfl
theorem bytes76 : Tryz.prog.bytesOf 76 = 640 := by kernel_rfl
theorem bytes111 : Tryz.prog.bytesOf 111 = 176 := by kernel_rfl
theorem bytes132 : Tryz.prog.bytesOf 132 = 144 := by kernel_rfl
theorem bytes140 : Tryz.prog.bytesOf 140 = 560 := by kernel_rfl
def okA2 {α : Type} (ok : α → Prop) (a : A2 α) : Prop := ∀ y ∈ a.l, ok y
theorem dA2 {P : Program} {t e : TypeId} {n : Nat} {cs : List C} {α : Type} {enc : α → List C} {ok : α → Prop} (hu : P.underlying t = some (.array 2 e)) (hd : ∀ {n ds}, typed P n e ds → ∃ x, ds = enc x ∧ ok x) (h : typed P n t cs) : ∃ a : A2 α, cs = eA2 enc a ∧ okA2 ok a := by
  obtain ⟨l, h1, h2, h3⟩ := dA hu hd h
  subst h2
  match l, h1, h3 with
  | [x0, x1], _, h3 => exact ⟨⟨x0, x1⟩, rfl, h3⟩
def okA3 {α : Type} (ok : α → Prop) (a : A3 α) : Prop := ∀ y ∈ a.l, ok y
def okA5 {α : Type} (ok : α → Prop) (a : A5 α) : Prop := ∀ y ∈ a.l, ok y
theorem dA5 {P : Program} {t e : TypeId} {n : Nat} {cs : List C} {α : Type} {enc : α → List C} {ok : α → Prop} (hu : P.underlying t = some (.array 5 e)) (hd : ∀ {n ds}, typed P n e ds → ∃ x, ds = enc x ∧ ok x) (h : typed P n t cs) : ∃ a : A5 α, cs = eA5 enc a ∧ okA5 ok a := by
  obtain ⟨l, h1, h2, h3⟩ := dA hu hd h
  subst h2
  match l, h1, h3 with
  | [x0, x1, x2, x3, x4], _, h3 => exact ⟨⟨x0, x1, x2, x3, x4⟩, rfl, h3⟩
def okA6 {α : Type} (ok : α → Prop) (a : A6 α) : Prop := ∀ y ∈ a.l, ok y
theorem dA6 {P : Program} {t e : TypeId} {n : Nat} {cs : List C} {α : Type} {enc : α → List C} {ok : α → Prop} (hu : P.underlying t = some (.array 6 e)) (hd : ∀ {n ds}, typed P n e ds → ∃ x, ds = enc x ∧ ok x) (h : typed P n t cs) : ∃ a : A6 α, cs = eA6 enc a ∧ okA6 ok a := by
  obtain ⟨l, h1, h2, h3⟩ := dA hu hd h
  subst h2
  match l, h1, h3 with
  | [x0, x1, x2, x3, x4, x5], _, h3 => exact ⟨⟨x0, x1, x2, x3, x4, x5⟩, rfl, h3⟩
def okSPlayer (x : SPlayer) : Prop := okI .i64 x.Life ∧ okI .i64 x.Venom ∧ okI .i64 x.Lands ∧ okA6 (okI .i64) x.Pool ∧ okB x.Failed ∧ okB x.Lost ∧ okL 8 (okI .i64) x.Library ∧ okL 8 (okI .i64) x.Hand ∧ okL 8 (okI .i64) x.Graveyard ∧ True
def okSObject (x : SObject) : Prop := okI .i64 x.Id ∧ okI .i64 x.Card ∧ okI .i64 x.Owner ∧ okI .i64 x.Control ∧ okI .i64 x.Zone ∧ okB x.Token ∧ okB x.Tapped ∧ okB x.Sick ∧ okB x.Deadly ∧ okI .i64 x.Damage ∧ okA3 (okI .i64) x.Counters ∧ okI .i64 x.Stamp ∧ okI .i64 x.Copy ∧ okI .i64 x.Attack ∧ okB x.Blocked ∧ okI .i64 x.Blocks ∧ okI .i64 x.Shield ∧ True
def okSBound (x : SBound) : Prop := okI .i64 x.Kind ∧ okI .i64 x.N ∧ True
theorem decSBound {n : Nat} {cs : List C} (h : typed Tryz.prog n 60 cs) : ∃ x : SBound, cs = encSBound x ∧ okSBound x := by
  obtain ⟨m, dss, h0, hE⟩ := typed_struct (ts := [3, 3]) Tryz.underlying60 rfl h
  obtain ⟨p, h1, h2⟩ := (eachC (dI Tryz.underlying3) (eachC (dI Tryz.underlying3) eachN)) hE
  exact ⟨⟨p.1, p.2.1⟩, h0.trans h1, h2⟩
def okSFilter (x : SFilter) : Prop := okI .i64 x.Zone ∧ okI .i64 x.Who ∧ okI .i64 x.Self ∧ okI .i64 x.Types ∧ okI .i64 x.NotTypes ∧ okI .i64 x.Colors ∧ okI .i64 x.NotColors ∧ okS x.Sub ∧ okI .i64 x.Keys ∧ okI .i64 x.Tap ∧ okSBound x.Power ∧ okSBound x.Tough ∧ okSBound x.Value ∧ True
theorem decSFilter {n : Nat} {cs : List C} (h : typed Tryz.prog n 62 cs) : ∃ x : SFilter, cs = encSFilter x ∧ okSFilter x := by
  obtain ⟨m, dss, h0, hE⟩ := typed_struct (ts := [3, 3, 3, 3, 3, 3, 3, 9, 3, 3, 60, 60, 60]) Tryz.underlying62 rfl h
  obtain ⟨p, h1, h2⟩ := (eachC (dI Tryz.underlying3) (eachC (dI Tryz.underlying3) (eachC (dI Tryz.underlying3) (eachC (dI Tryz.underlying3) (eachC (dI Tryz.underlying3) (eachC (dI Tryz.underlying3) (eachC (dI Tryz.underlying3) (eachC (dS Tryz.underlying9) (eachC (dI Tryz.underlying3) (eachC (dI Tryz.underlying3) (eachC decSBound (eachC decSBound (eachC decSBound eachN))))))))))))) hE
  exact ⟨⟨p.1, p.2.1, p.2.2.1, p.2.2.2.1, p.2.2.2.2.1, p.2.2.2.2.2.1, p.2.2.2.2.2.2.1, p.2.2.2.2.2.2.2.1, p.2.2.2.2.2.2.2.2.1, p.2.2.2.2.2.2.2.2.2.1, p.2.2.2.2.2.2.2.2.2.2.1, p.2.2.2.2.2.2.2.2.2.2.2.1, p.2.2.2.2.2.2.2.2.2.2.2.2.1⟩, h0.trans h1, h2⟩
def okSMod (x : SMod) : Prop := okI .i64 x.Kind ∧ okI .i64 x.N ∧ okI .i64 x.M ∧ okS x.Sub ∧ okSFilter x.Filter ∧ True
theorem decSMod {n : Nat} {cs : List C} (h : typed Tryz.prog n 111 cs) : ∃ x : SMod, cs = encSMod x ∧ okSMod x := by
  obtain ⟨m, dss, h0, hE⟩ := typed_struct (ts := [3, 3, 3, 9, 62]) Tryz.underlying111 rfl h
  obtain ⟨p, h1, h2⟩ := (eachC (dI Tryz.underlying3) (eachC (dI Tryz.underlying3) (eachC (dI Tryz.underlying3) (eachC (dS Tryz.underlying9) (eachC decSFilter eachN))))) hE
  exact ⟨⟨p.1, p.2.1, p.2.2.1, p.2.2.2.1, p.2.2.2.2.1⟩, h0.trans h1, h2⟩
def okSCost (x : SCost) : Prop := okI .i64 x.Generic ∧ okI .i64 x.X ∧ okA5 (okI .i64) x.Color ∧ True
theorem decSCost {n : Nat} {cs : List C} (h : typed Tryz.prog n 66 cs) : ∃ x : SCost, cs = encSCost x ∧ okSCost x := by
  obtain ⟨m, dss, h0, hE⟩ := typed_struct (ts := [3, 3, 64]) Tryz.underlying66 rfl h
  obtain ⟨p, h1, h2⟩ := (eachC (dI Tryz.underlying3) (eachC (dI Tryz.underlying3) (eachC (dA5 Tryz.underlying64 (dI Tryz.underlying3)) eachN))) hE
  exact ⟨⟨p.1, p.2.1, p.2.2.1⟩, h0.trans h1, h2⟩
def okSPrice (x : SPrice) : Prop := okSCost x.Mana ∧ okB x.Tap ∧ okB x.Sacrifice ∧ okI .i64 x.Life ∧ True
theorem decSPrice {n : Nat} {cs : List C} (h : typed Tryz.prog n 68 cs) : ∃ x : SPrice, cs = encSPrice x ∧ okSPrice x := by
  obtain ⟨m, dss, h0, hE⟩ := typed_struct (ts := [66, 4, 4, 3]) Tryz.underlying68 rfl h
  obtain ⟨p, h1, h2⟩ := (eachC decSCost (eachC (dB Tryz.underlying4) (eachC (dB Tryz.underlying4) (eachC (dI Tryz.underlying3) eachN)))) hE
  exact ⟨⟨p.1, p.2.1, p.2.2.1, p.2.2.2.1⟩, h0.trans h1, h2⟩
def okSTrigger (x : STrigger) : Prop := okI .i64 x.When ∧ okI .i64 x.Who ∧ okSFilter x.Filter ∧ True
theorem decSTrigger {n : Nat} {cs : List C} (h : typed Tryz.prog n 70 cs) : ∃ x : STrigger, cs = encSTrigger x ∧ okSTrigger x := by
  obtain ⟨m, dss, h0, hE⟩ := typed_struct (ts := [3, 3, 62]) Tryz.underlying70 rfl h
  obtain ⟨p, h1, h2⟩ := (eachC (dI Tryz.underlying3) (eachC (dI Tryz.underlying3) (eachC decSFilter eachN))) hE
  exact ⟨⟨p.1, p.2.1, p.2.2.1⟩, h0.trans h1, h2⟩
def okSSpec (x : SSpec) : Prop := okB x.Player ∧ okB x.Object ∧ okSFilter x.Filter ∧ True
theorem decSSpec {n : Nat} {cs : List C} (h : typed Tryz.prog n 132 cs) : ∃ x : SSpec, cs = encSSpec x ∧ okSSpec x := by
  obtain ⟨m, dss, h0, hE⟩ := typed_struct (ts := [4, 4, 62]) Tryz.underlying132 rfl h
  obtain ⟨p, h1, h2⟩ := (eachC (dB Tryz.underlying4) (eachC (dB Tryz.underlying4) (eachC decSFilter eachN))) hE
  exact ⟨⟨p.1, p.2.1, p.2.2.1⟩, h0.trans h1, h2⟩
def okSRef (x : SRef) : Prop := okI .i64 x.Kind ∧ okI .i64 x.N ∧ okSFilter x.Filter ∧ True
theorem decSRef {n : Nat} {cs : List C} (h : typed Tryz.prog n 136 cs) : ∃ x : SRef, cs = encSRef x ∧ okSRef x := by
  obtain ⟨m, dss, h0, hE⟩ := typed_struct (ts := [3, 3, 62]) Tryz.underlying136 rfl h
  obtain ⟨p, h1, h2⟩ := (eachC (dI Tryz.underlying3) (eachC (dI Tryz.underlying3) (eachC decSFilter eachN))) hE
  exact ⟨⟨p.1, p.2.1, p.2.2.1⟩, h0.trans h1, h2⟩
def okSAmount (x : SAmount) : Prop := okI .i64 x.Kind ∧ okI .i64 x.N ∧ okI .i64 x.Counter ∧ okSFilter x.Filter ∧ True
theorem decSAmount {n : Nat} {cs : List C} (h : typed Tryz.prog n 138 cs) : ∃ x : SAmount, cs = encSAmount x ∧ okSAmount x := by
  obtain ⟨m, dss, h0, hE⟩ := typed_struct (ts := [3, 3, 3, 62]) Tryz.underlying138 rfl h
  obtain ⟨p, h1, h2⟩ := (eachC (dI Tryz.underlying3) (eachC (dI Tryz.underlying3) (eachC (dI Tryz.underlying3) (eachC decSFilter eachN)))) hE
  exact ⟨⟨p.1, p.2.1, p.2.2.1, p.2.2.2.1⟩, h0.trans h1, h2⟩
def okSEffect (x : SEffect) : Prop := okI .i64 x.Op ∧ okSRef x.Ref ∧ okSAmount x.Amount ∧ okI .i64 x.Counter ∧ okI .i64 x.Zone ∧ okS x.Card ∧ okSFilter x.Filter ∧ okA6 (okI .i64) x.Pool ∧ okL 176 (okSMod) x.Mods ∧ True
theorem decSEffect {n : Nat} {cs : List C} (h : typed Tryz.prog n 140 cs) : ∃ x : SEffect, cs = encSEffect x ∧ okSEffect x := by
  obtain ⟨m, dss, h0, hE⟩ := typed_struct (ts := [3, 136, 138, 3, 3, 9, 62, 47, 63]) Tryz.underlying140 rfl h
  obtain ⟨p, h1, h2⟩ := (eachC (dI Tryz.underlying3) (eachC decSRef (eachC decSAmount (eachC (dI Tryz.underlying3) (eachC (dI Tryz.underlying3) (eachC (dS Tryz.underlying9) (eachC decSFilter (eachC (dA6 Tryz.underlying47 (dI Tryz.underlying3)) (eachC (dL Tryz.underlying63 bytes111 decSMod) eachN))))))))) hE
  exact ⟨⟨p.1, p.2.1, p.2.2.1, p.2.2.2.1, p.2.2.2.2.1, p.2.2.2.2.2.1, p.2.2.2.2.2.2.1, p.2.2.2.2.2.2.2.1, p.2.2.2.2.2.2.2.2.1⟩, h0.trans h1, h2⟩
def okSReplace (x : SReplace) : Prop := okI .i64 x.On ∧ okI .i64 x.Who ∧ okSFilter x.Filter ∧ okI .i64 x.Do ∧ okI .i64 x.N ∧ okI .i64 x.Zone ∧ okI .i64 x.Counter ∧ True
theorem decSReplace {n : Nat} {cs : List C} (h : typed Tryz.prog n 74 cs) : ∃ x : SReplace, cs = encSReplace x ∧ okSReplace x := by
  obtain ⟨m, dss, h0, hE⟩ := typed_struct (ts := [3, 3, 62, 3, 3, 3, 3]) Tryz.underlying74 rfl h
  obtain ⟨p, h1, h2⟩ := (eachC (dI Tryz.underlying3) (eachC (dI Tryz.underlying3) (eachC decSFilter (eachC (dI Tryz.underlying3) (eachC (dI Tryz.underlying3) (eachC (dI Tryz.underlying3) (eachC (dI Tryz.underlying3) eachN))))))) hE
  exact ⟨⟨p.1, p.2.1, p.2.2.1, p.2.2.2.1, p.2.2.2.2.1, p.2.2.2.2.2.1, p.2.2.2.2.2.2.1⟩, h0.trans h1, h2⟩
def okSAbility (x : SAbility) : Prop := okI .i64 x.Kind ∧ okSFilter x.Filter ∧ okL 176 (okSMod) x.Mods ∧ okSPrice x.Price ∧ okB x.Slow ∧ okSTrigger x.Trigger ∧ okB x.May ∧ okL 144 (okSSpec) x.Specs ∧ okL 560 (okSEffect) x.Effects ∧ okSReplace x.Replace ∧ True
theorem decSAbility {n : Nat} {cs : List C} (h : typed Tryz.prog n 76 cs) : ∃ x : SAbility, cs = encSAbility x ∧ okSAbility x := by
  obtain ⟨m, dss, h0, hE⟩ := typed_struct (ts := [3, 62, 63, 68, 4, 70, 4, 71, 72, 74]) Tryz.underlying76 rfl h
  obtain ⟨p, h1, h2⟩ := (eachC (dI Tryz.underlying3) (eachC decSFilter (eachC (dL Tryz.underlying63 bytes111 decSMod) (eachC decSPrice (eachC (dB Tryz.underlying4) (eachC decSTrigger (eachC (dB Tryz.underlying4) (eachC (dL Tryz.underlying71 bytes132 decSSpec) (eachC (dL Tryz.underlying72 bytes140 decSEffect) (eachC decSReplace eachN)))))))))) hE
  exact ⟨⟨p.1, p.2.1, p.2.2.1, p.2.2.2.1, p.2.2.2.2.1, p.2.2.2.2.2.1, p.2.2.2.2.2.2.1, p.2.2.2.2.2.2.2.1, p.2.2.2.2.2.2.2.2.1, p.2.2.2.2.2.2.2.2.2.1⟩, h0.trans h1, h2⟩
def okSTarget (x : STarget) : Prop := okI .i64 x.Object ∧ okI .i64 x.Player ∧ True
def okSEvent (x : SEvent) : Prop := okI .i64 x.Kind ∧ okI .i64 x.Source ∧ okI .i64 x.Object ∧ okI .i64 x.Player ∧ okI .i64 x.Amount ∧ okI .i64 x.From ∧ okI .i64 x.To ∧ okI .i64 x.Cause ∧ okI .i64 x.Counter ∧ okI .i64 x.Card ∧ okB x.Combat ∧ okB x.Tapped ∧ okA3 (okI .i64) x.Extra ∧ True
def okSItem (x : SItem) : Prop := okI .i64 x.Id ∧ okI .i64 x.Kind ∧ okI .i64 x.Source ∧ okI .i64 x.Control ∧ okI .i64 x.X ∧ okB x.Copy ∧ okSAbility x.Ability ∧ okL 16 (okSTarget) x.Targets ∧ okSEvent x.Event ∧ True
def okSWaiting (x : SWaiting) : Prop := okI .i64 x.Source ∧ okI .i64 x.Control ∧ okSAbility x.Ability ∧ okSEvent x.Event ∧ True
def okSCont (x : SCont) : Prop := okI .i64 x.Stamp ∧ okI .i64 x.Control ∧ okI .i64 x.Source ∧ okI .i64 x.Until ∧ okL 8 (okI .i64) x.Objects ∧ okL 176 (okSMod) x.Mods ∧ True
def okSState (x : SState) : Prop := okL 152 (okSPlayer) x.Players ∧ okL 128 (okSObject) x.Objects ∧ okL 8 (okI .i64) x.Battlefield ∧ okL 8 (okI .i64) x.Exile ∧ okL 824 (okSItem) x.Stack ∧ okL 768 (okSWaiting) x.Waiting ∧ okL 80 (okSCont) x.Conts ∧ okI .i64 x.Turn ∧ okI .i64 x.Active ∧ okI .i64 x.Step ∧ okB x.Begun ∧ okI .i64 x.Priority ∧ okI .i64 x.Passes ∧ okI .i64 x.NextId ∧ okI .i64 x.NextStamp ∧ okI .u64 x.Seed ∧ okL 8 (okI .i64) x.Extra ∧ okI .i64 x.Over ∧ okI .i64 x.Winner ∧ True
def okSLine (x : SLine) : Prop := okI .i64 x.Super ∧ okI .i64 x.Types ∧ okL 16 (okS) x.Subs ∧ True
theorem decSLine {n : Nat} {cs : List C} (h : typed Tryz.prog n 265 cs) : ∃ x : SLine, cs = encSLine x ∧ okSLine x := by
  obtain ⟨m, dss, h0, hE⟩ := typed_struct (ts := [3, 3, 148]) Tryz.underlying265 rfl h
  obtain ⟨p, h1, h2⟩ := (eachC (dI Tryz.underlying3) (eachC (dI Tryz.underlying3) (eachC (dL Tryz.underlying148 bytes9 (dS Tryz.underlying9)) eachN))) hE
  exact ⟨⟨p.1, p.2.1, p.2.2.1⟩, h0.trans h1, h2⟩
def okSCard (x : SCard) : Prop := okS x.Name ∧ okB x.Token ∧ okSCost x.Cost ∧ okI .i64 x.Color ∧ okSLine x.Line ∧ okI .i64 x.Power ∧ okI .i64 x.Tough ∧ okI .i64 x.Keys ∧ okL 640 (okSAbility) x.Abilities ∧ True
theorem decSCard {n : Nat} {cs : List C} (h : typed Tryz.prog n 268 cs) : ∃ x : SCard, cs = encSCard x ∧ okSCard x := by
  obtain ⟨m, dss, h0, hE⟩ := typed_struct (ts := [9, 4, 66, 3, 265, 3, 3, 3, 266]) Tryz.underlying268 rfl h
  obtain ⟨p, h1, h2⟩ := (eachC (dS Tryz.underlying9) (eachC (dB Tryz.underlying4) (eachC decSCost (eachC (dI Tryz.underlying3) (eachC decSLine (eachC (dI Tryz.underlying3) (eachC (dI Tryz.underlying3) (eachC (dI Tryz.underlying3) (eachC (dL Tryz.underlying266 bytes76 decSAbility) eachN))))))))) hE
  exact ⟨⟨p.1, p.2.1, p.2.2.1, p.2.2.2.1, p.2.2.2.2.1, p.2.2.2.2.2.1, p.2.2.2.2.2.2.1, p.2.2.2.2.2.2.2.1, p.2.2.2.2.2.2.2.2.1⟩, h0.trans h1, h2⟩
end Go.PL
