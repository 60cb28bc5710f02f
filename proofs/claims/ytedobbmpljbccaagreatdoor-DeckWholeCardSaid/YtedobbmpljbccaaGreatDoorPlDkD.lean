/- Functions of the program, as partial functions in Lean, with proofs. -/
import Derived.Test.YtedobbmpljbccaaGreatDoorPlPtoPlPn
import Derived.Test.YtedobbmpljbccaaGreatDoorPlDkB
namespace Go.PL
open Go Go.RowKit Go.Proofs
set_option maxRecDepth 100000
set_option linter.all false
set_option maxHeartbeats 1000000
theorem bytes3 : Tryz.prog.bytesOf 3 = 8 := by kernel_rfl
theorem bytes9 : Tryz.prog.bytesOf 9 = 16 := by kernel_rfl
theorem bytes49 : Tryz.prog.bytesOf 49 = 176 := by kernel_rfl
theorem bytes105 : Tryz.prog.bytesOf 105 = 640 := by kernel_rfl
theorem bytes113 : Tryz.prog.bytesOf 113 = 560 := by kernel_rfl
theorem bytes152 : Tryz.prog.bytesOf 152 = 176 := by kernel_rfl
theorem bytes156 : Tryz.prog.bytesOf 156 = 144 := by kernel_rfl
def okA5 {α : Type} (ok : α → Prop) (a : A5 α) : Prop := ∀ y ∈ a.l, ok y
theorem dA5 {P : Program} {t e : TypeId} {n : Nat} {cs : List C} {α : Type} {enc : α → List C} {ok : α → Prop} (hu : P.underlying t = some (.array 5 e)) (hd : ∀ {n ds}, typed P n e ds → ∃ x, ds = enc x ∧ ok x) (h : typed P n t cs) : ∃ a : A5 α, cs = eA5 enc a ∧ okA5 ok a := by
  obtain ⟨l, h1, h2, h3⟩ := dA hu hd h
  subst h2
  match l, h1, h3 with
  | [x0, x1, x2, x3, x4], _, h3 => exact ⟨⟨x0, x1, x2, x3, x4⟩, rfl, h3⟩
def okA6 {α : Type} (ok : α → Prop) (a : A6 α) : Prop := ∀ y ∈ a.l, ok y
theorem dA6 {P : Program} {t e : TypeId} {n : Nat} {cs : List C} {α : Type} {enc : α → List C} {ok : α → Prop} (hu : P.underlying t = some (.array 6 e)) (hd : ∀ {n ds}, typed P n e ds → ∃ x, ds = enc x ∧ ok x) (h : typed P n t cs) : ∃ a : A6 α, cs = eA6 enc a ∧ okA6 ok a := by
  obtain ⟨l, h1, h2, h3⟩ := dA hu hd h
  subst h2
  match l, h1, h3 with
  | [x0, x1, x2, x3, x4, x5], _, h3 => exact ⟨⟨x0, x1, x2, x3, x4, x5⟩, rfl, h3⟩
def okSCost (x : SCost) : Prop := okI .i64 x.Generic ∧ okI .i64 x.X ∧ okA5 (okI .i64) x.Color ∧ True
theorem decSCost {n : Nat} {cs : List C} (h : typed Tryz.prog n 46 cs) : ∃ x : SCost, cs = encSCost x ∧ okSCost x := by
  obtain ⟨m, dss, h0, hE⟩ := typed_struct (ts := [3, 3, 44]) Tryz.underlying46 rfl h
  obtain ⟨p, h1, h2⟩ := (eachC (dI Tryz.underlying3) (eachC (dI Tryz.underlying3) (eachC (dA5 Tryz.underlying44 (dI Tryz.underlying3)) eachN))) hE
  exact ⟨⟨p.1, p.2.1, p.2.2.1⟩, h0.trans h1, h2⟩
def okSLine (x : SLine) : Prop := okI .i64 x.Super ∧ okI .i64 x.Types ∧ okL 16 (okS) x.Subs ∧ True
theorem decSLine {n : Nat} {cs : List C} (h : typed Tryz.prog n 43 cs) : ∃ x : SLine, cs = encSLine x ∧ okSLine x := by
  obtain ⟨m, dss, h0, hE⟩ := typed_struct (ts := [3, 3, 26]) Tryz.underlying43 rfl h
  obtain ⟨p, h1, h2⟩ := (eachC (dI Tryz.underlying3) (eachC (dI Tryz.underlying3) (eachC (dL Tryz.underlying26 bytes9 (dS Tryz.underlying9)) eachN))) hE
  exact ⟨⟨p.1, p.2.1, p.2.2.1⟩, h0.trans h1, h2⟩
def okSBound (x : SBound) : Prop := okI .i64 x.Kind ∧ okI .i64 x.N ∧ True
theorem decSBound {n : Nat} {cs : List C} (h : typed Tryz.prog n 92 cs) : ∃ x : SBound, cs = encSBound x ∧ okSBound x := by
  obtain ⟨m, dss, h0, hE⟩ := typed_struct (ts := [3, 3]) Tryz.underlying92 rfl h
  obtain ⟨p, h1, h2⟩ := (eachC (dI Tryz.underlying3) (eachC (dI Tryz.underlying3) eachN)) hE
  exact ⟨⟨p.1, p.2.1⟩, h0.trans h1, h2⟩
def okSFilter (x : SFilter) : Prop := okI .i64 x.Zone ∧ okI .i64 x.Who ∧ okI .i64 x.Self ∧ okI .i64 x.Types ∧ okI .i64 x.NotTypes ∧ okI .i64 x.Colors ∧ okI .i64 x.NotColors ∧ okS x.Sub ∧ okI .i64 x.Keys ∧ okI .i64 x.Tap ∧ okSBound x.Power ∧ okSBound x.Tough ∧ okSBound x.Value ∧ True
theorem decSFilter {n : Nat} {cs : List C} (h : typed Tryz.prog n 94 cs) : ∃ x : SFilter, cs = encSFilter x ∧ okSFilter x := by
  obtain ⟨m, dss, h0, hE⟩ := typed_struct (ts := [3, 3, 3, 3, 3, 3, 3, 9, 3, 3, 92, 92, 92]) Tryz.underlying94 rfl h
  obtain ⟨p, h1, h2⟩ := (eachC (dI Tryz.underlying3) (eachC (dI Tryz.underlying3) (eachC (dI Tryz.underlying3) (eachC (dI Tryz.underlying3) (eachC (dI Tryz.underlying3) (eachC (dI Tryz.underlying3) (eachC (dI Tryz.underlying3) (eachC (dS Tryz.underlying9) (eachC (dI Tryz.underlying3) (eachC (dI Tryz.underlying3) (eachC decSBound (eachC decSBound (eachC decSBound eachN))))))))))))) hE
  exact ⟨⟨p.1, p.2.1, p.2.2.1, p.2.2.2.1, p.2.2.2.2.1, p.2.2.2.2.2.1, p.2.2.2.2.2.2.1, p.2.2.2.2.2.2.2.1, p.2.2.2.2.2.2.2.2.1, p.2.2.2.2.2.2.2.2.2.1, p.2.2.2.2.2.2.2.2.2.2.1, p.2.2.2.2.2.2.2.2.2.2.2.1, p.2.2.2.2.2.2.2.2.2.2.2.2.1⟩, h0.trans h1, h2⟩
def okSMod (x : SMod) : Prop := okI .i64 x.Kind ∧ okI .i64 x.N ∧ okI .i64 x.M ∧ okS x.Sub ∧ okSFilter x.Filter ∧ True
theorem decSMod {n : Nat} {cs : List C} (h : typed Tryz.prog n 152 cs) : ∃ x : SMod, cs = encSMod x ∧ okSMod x := by
  obtain ⟨m, dss, h0, hE⟩ := typed_struct (ts := [3, 3, 3, 9, 94]) Tryz.underlying152 rfl h
  obtain ⟨p, h1, h2⟩ := (eachC (dI Tryz.underlying3) (eachC (dI Tryz.underlying3) (eachC (dI Tryz.underlying3) (eachC (dS Tryz.underlying9) (eachC decSFilter eachN))))) hE
  exact ⟨⟨p.1, p.2.1, p.2.2.1, p.2.2.2.1, p.2.2.2.2.1⟩, h0.trans h1, h2⟩
def okSPrice (x : SPrice) : Prop := okSCost x.Mana ∧ okB x.Tap ∧ okB x.Sacrifice ∧ okI .i64 x.Life ∧ True
theorem decSPrice {n : Nat} {cs : List C} (h : typed Tryz.prog n 97 cs) : ∃ x : SPrice, cs = encSPrice x ∧ okSPrice x := by
  obtain ⟨m, dss, h0, hE⟩ := typed_struct (ts := [46, 4, 4, 3]) Tryz.underlying97 rfl h
  obtain ⟨p, h1, h2⟩ := (eachC decSCost (eachC (dB Tryz.underlying4) (eachC (dB Tryz.underlying4) (eachC (dI Tryz.underlying3) eachN)))) hE
  exact ⟨⟨p.1, p.2.1, p.2.2.1, p.2.2.2.1⟩, h0.trans h1, h2⟩
def okSTrigger (x : STrigger) : Prop := okI .i64 x.When ∧ okI .i64 x.Who ∧ okSFilter x.Filter ∧ True
theorem decSTrigger {n : Nat} {cs : List C} (h : typed Tryz.prog n 99 cs) : ∃ x : STrigger, cs = encSTrigger x ∧ okSTrigger x := by
  obtain ⟨m, dss, h0, hE⟩ := typed_struct (ts := [3, 3, 94]) Tryz.underlying99 rfl h
  obtain ⟨p, h1, h2⟩ := (eachC (dI Tryz.underlying3) (eachC (dI Tryz.underlying3) (eachC decSFilter eachN))) hE
  exact ⟨⟨p.1, p.2.1, p.2.2.1⟩, h0.trans h1, h2⟩
def okSSpec (x : SSpec) : Prop := okB x.Player ∧ okB x.Object ∧ okSFilter x.Filter ∧ True
theorem decSSpec {n : Nat} {cs : List C} (h : typed Tryz.prog n 156 cs) : ∃ x : SSpec, cs = encSSpec x ∧ okSSpec x := by
  obtain ⟨m, dss, h0, hE⟩ := typed_struct (ts := [4, 4, 94]) Tryz.underlying156 rfl h
  obtain ⟨p, h1, h2⟩ := (eachC (dB Tryz.underlying4) (eachC (dB Tryz.underlying4) (eachC decSFilter eachN))) hE
  exact ⟨⟨p.1, p.2.1, p.2.2.1⟩, h0.trans h1, h2⟩
def okSRef (x : SRef) : Prop := okI .i64 x.Kind ∧ okI .i64 x.N ∧ okSFilter x.Filter ∧ True
theorem decSRef {n : Nat} {cs : List C} (h : typed Tryz.prog n 107 cs) : ∃ x : SRef, cs = encSRef x ∧ okSRef x := by
  obtain ⟨m, dss, h0, hE⟩ := typed_struct (ts := [3, 3, 94]) Tryz.underlying107 rfl h
  obtain ⟨p, h1, h2⟩ := (eachC (dI Tryz.underlying3) (eachC (dI Tryz.underlying3) (eachC decSFilter eachN))) hE
  exact ⟨⟨p.1, p.2.1, p.2.2.1⟩, h0.trans h1, h2⟩
def okSAmount (x : SAmount) : Prop := okI .i64 x.Kind ∧ okI .i64 x.N ∧ okI .i64 x.Counter ∧ okSFilter x.Filter ∧ True
theorem decSAmount {n : Nat} {cs : List C} (h : typed Tryz.prog n 109 cs) : ∃ x : SAmount, cs = encSAmount x ∧ okSAmount x := by
  obtain ⟨m, dss, h0, hE⟩ := typed_struct (ts := [3, 3, 3, 94]) Tryz.underlying109 rfl h
  obtain ⟨p, h1, h2⟩ := (eachC (dI Tryz.underlying3) (eachC (dI Tryz.underlying3) (eachC (dI Tryz.underlying3) (eachC decSFilter eachN)))) hE
  exact ⟨⟨p.1, p.2.1, p.2.2.1, p.2.2.2.1⟩, h0.trans h1, h2⟩
def okSEffect (x : SEffect) : Prop := okI .i64 x.Op ∧ okSRef x.Ref ∧ okSAmount x.Amount ∧ okI .i64 x.Counter ∧ okI .i64 x.Zone ∧ okS x.Card ∧ okSFilter x.Filter ∧ okA6 (okI .i64) x.Pool ∧ okL 176 (okSMod) x.Mods ∧ True
theorem decSEffect {n : Nat} {cs : List C} (h : typed Tryz.prog n 113 cs) : ∃ x : SEffect, cs = encSEffect x ∧ okSEffect x := by
  obtain ⟨m, dss, h0, hE⟩ := typed_struct (ts := [3, 107, 109, 3, 3, 9, 94, 111, 95]) Tryz.underlying113 rfl h
  obtain ⟨p, h1, h2⟩ := (eachC (dI Tryz.underlying3) (eachC decSRef (eachC decSAmount (eachC (dI Tryz.underlying3) (eachC (dI Tryz.underlying3) (eachC (dS Tryz.underlying9) (eachC decSFilter (eachC (dA6 Tryz.underlying111 (dI Tryz.underlying3)) (eachC (dL Tryz.underlying95 bytes152 decSMod) eachN))))))))) hE
  exact ⟨⟨p.1, p.2.1, p.2.2.1, p.2.2.2.1, p.2.2.2.2.1, p.2.2.2.2.2.1, p.2.2.2.2.2.2.1, p.2.2.2.2.2.2.2.1, p.2.2.2.2.2.2.2.2.1⟩, h0.trans h1, h2⟩
def okSReplace (x : SReplace) : Prop := okI .i64 x.On ∧ okI .i64 x.Who ∧ okSFilter x.Filter ∧ okI .i64 x.Do ∧ okI .i64 x.N ∧ okI .i64 x.Zone ∧ okI .i64 x.Counter ∧ True
theorem decSReplace {n : Nat} {cs : List C} (h : typed Tryz.prog n 103 cs) : ∃ x : SReplace, cs = encSReplace x ∧ okSReplace x := by
  obtain ⟨m, dss, h0, hE⟩ := typed_struct (ts := [3, 3, 94, 3, 3, 3, 3]) Tryz.underlying103 rfl h
  obtain ⟨p, h1, h2⟩ := (eachC (dI Tryz.underlying3) (eachC (dI Tryz.underlying3) (eachC decSFilter (eachC (dI Tryz.underlying3) (eachC (dI Tryz.underlying3) (eachC (dI Tryz.underlying3) (eachC (dI Tryz.underlying3) eachN))))))) hE
  exact ⟨⟨p.1, p.2.1, p.2.2.1, p.2.2.2.1, p.2.2.2.2.1, p.2.2.2.2.2.1, p.2.2.2.2.2.2.1⟩, h0.trans h1, h2⟩
def okSAbility (x : SAbility) : Prop := okI .i64 x.Kind ∧ okSFilter x.Filter ∧ okL 176 (okSMod) x.Mods ∧ okSPrice x.Price ∧ okB x.Slow ∧ okSTrigger x.Trigger ∧ okB x.May ∧ okL 144 (okSSpec) x.Specs ∧ okL 560 (okSEffect) x.Effects ∧ okSReplace x.Replace ∧ True
theorem decSAbility {n : Nat} {cs : List C} (h : typed Tryz.prog n 105 cs) : ∃ x : SAbility, cs = encSAbility x ∧ okSAbility x := by
  obtain ⟨m, dss, h0, hE⟩ := typed_struct (ts := [3, 94, 95, 97, 4, 99, 4, 100, 101, 103]) Tryz.underlying105 rfl h
  obtain ⟨p, h1, h2⟩ := (eachC (dI Tryz.underlying3) (eachC decSFilter (eachC (dL Tryz.underlying95 bytes152 decSMod) (eachC decSPrice (eachC (dB Tryz.underlying4) (eachC decSTrigger (eachC (dB Tryz.underlying4) (eachC (dL Tryz.underlying100 bytes156 decSSpec) (eachC (dL Tryz.underlying101 bytes113 decSEffect) (eachC decSReplace eachN)))))))))) hE
  exact ⟨⟨p.1, p.2.1, p.2.2.1, p.2.2.2.1, p.2.2.2.2.1, p.2.2.2.2.2.1, p.2.2.2.2.2.2.1, p.2.2.2.2.2.2.2.1, p.2.2.2.2.2.2.2.2.1, p.2.2.2.2.2.2.2.2.2.1⟩, h0.trans h1, h2⟩
def okSCard (x : SCard) : Prop := okS x.Name ∧ okB x.Token ∧ okSCost x.Cost ∧ okI .i64 x.Color ∧ okSLine x.Line ∧ okI .i64 x.Power ∧ okI .i64 x.Tough ∧ okI .i64 x.Keys ∧ okL 640 (okSAbility) x.Abilities ∧ True
theorem decSCard {n : Nat} {cs : List C} (h : typed Tryz.prog n 49 cs) : ∃ x : SCard, cs = encSCard x ∧ okSCard x := by
  obtain ⟨m, dss, h0, hE⟩ := typed_struct (ts := [9, 4, 46, 3, 43, 3, 3, 3, 47]) Tryz.underlying49 rfl h
  obtain ⟨p, h1, h2⟩ := (eachC (dS Tryz.underlying9) (eachC (dB Tryz.underlying4) (eachC decSCost (eachC (dI Tryz.underlying3) (eachC decSLine (eachC (dI Tryz.underlying3) (eachC (dI Tryz.underlying3) (eachC (dI Tryz.underlying3) (eachC (dL Tryz.underlying47 bytes105 decSAbility) eachN))))))))) hE
  exact ⟨⟨p.1, p.2.1, p.2.2.1, p.2.2.2.1, p.2.2.2.2.1, p.2.2.2.2.2.1, p.2.2.2.2.2.2.1, p.2.2.2.2.2.2.2.1, p.2.2.2.2.2.2.2.2.1⟩, h0.trans h1, h2⟩
def okSDeck (x : SDeck) : Prop := okL 8 (okI .i64) x.Cards ∧ okL 8 (okI .i64) x.Counts ∧ True
theorem decSDeck {n : Nat} {cs : List C} (h : typed Tryz.prog n 25 cs) : ∃ x : SDeck, cs = encSDeck x ∧ okSDeck x := by
  obtain ⟨m, dss, h0, hE⟩ := typed_struct (ts := [23, 23]) Tryz.underlying25 rfl h
  obtain ⟨p, h1, h2⟩ := (eachC (dL Tryz.underlying23 bytes3 (dI Tryz.underlying3)) (eachC (dL Tryz.underlying23 bytes3 (dI Tryz.underlying3)) eachN)) hE
  exact ⟨⟨p.1, p.2.1⟩, h0.trans h1, h2⟩
def okSFormat (x : SFormat) : Prop := okI .i64 x.Least ∧ okI .i64 x.Most ∧ okI .i64 x.Copies ∧ okL 16 (okS) x.Banned ∧ True
theorem decSFormat {n : Nat} {cs : List C} (h : typed Tryz.prog n 28 cs) : ∃ x : SFormat, cs = encSFormat x ∧ okSFormat x := by
  obtain ⟨m, dss, h0, hE⟩ := typed_struct (ts := [3, 3, 3, 26]) Tryz.underlying28 rfl h
  obtain ⟨p, h1, h2⟩ := (eachC (dI Tryz.underlying3) (eachC (dI Tryz.underlying3) (eachC (dI Tryz.underlying3) (eachC (dL Tryz.underlying26 bytes9 (dS Tryz.underlying9)) eachN)))) hE
  exact ⟨⟨p.1, p.2.1, p.2.2.1, p.2.2.2.1⟩, h0.trans h1, h2⟩
def okSAsk (x : SAsk) : Prop := okL 176 (okSCard) x.Cards ∧ okSDeck x.Deck ∧ okSFormat x.Format ∧ True
theorem decSAsk {n : Nat} {cs : List C} (h : typed Tryz.prog n 30 cs) : ∃ x : SAsk, cs = encSAsk x ∧ okSAsk x := by
  obtain ⟨m, dss, h0, hE⟩ := typed_struct (ts := [22, 25, 28]) Tryz.underlying30 rfl h
  obtain ⟨p, h1, h2⟩ := (eachC (dL Tryz.underlying22 bytes49 decSCard) (eachC decSDeck (eachC decSFormat eachN))) hE
  exact ⟨⟨p.1, p.2.1, p.2.2.1⟩, h0.trans h1, h2⟩
end Go.PL
