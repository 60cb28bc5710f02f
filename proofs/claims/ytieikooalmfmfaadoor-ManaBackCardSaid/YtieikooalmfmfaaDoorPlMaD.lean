/- Functions of the program, as partial functions in Lean, with proofs. -/
import Derived.Test.YtieikooalmfmfaaDoorPlRtoPlPd
import Derived.Test.YtieikooalmfmfaaDoorPlMaB
namespace Go.PL
open Go Go.RowKit Go.Proofs
set_option maxRecDepth 100000
set_option linter.all false
set_option maxHeartbeats 1000000
def okA5 {α : Type} (ok : α → Prop) (a : A5 α) : Prop := ∀ y ∈ a.l, ok y
theorem dA5 {P : Program} {t e : TypeId} {n : Nat} {cs : List C} {α : Type} {enc : α → List C} {ok : α → Prop} (hu : P.underlying t = some (.array 5 e)) (hd : ∀ {n ds}, typed P n e ds → ∃ x, ds = enc x ∧ ok x) (h : typed P n t cs) : ∃ a : A5 α, cs = eA5 enc a ∧ okA5 ok a := by
  obtain ⟨l, h1, h2, h3⟩ := dA hu hd h
  subst h2
  match l, h1, h3 with
  | [x0, x1, x2, x3, x4], _, h3 => exact ⟨⟨x0, x1, x2, x3, x4⟩, rfl, h3⟩
def okA6 {α : Type} (ok : α → Prop) (a : A6 α) : Prop := ∀ y ∈ a.l, ok y
theorem dA6 {P : Program} {t e : TypeId} {n : Nat} {cs : List C} {α : Type} {enc : α → List C} {ok : α → Prop} (hu : P.underlying t = some (.array 6 e)) (hd : ∀ {n ds}, typed P n e ds → ∃ x, ds = enc x ∧ ok x) (h : typed P n t cs) : ∃ a : A6 α, cs = eA6 enc a ∧ okA6 ok a := by
  obtain ⟨l, h1, h2, h3⟩ := dA hu hd h
  subst h2
  match l, h1, h3 with
  | [x0, x1, x2, x3, x4, x5], _, h3 => exact ⟨⟨x0, x1, x2, x3, x4, x5⟩, rfl, h3⟩
def okSCost (x : SCost) : Prop := okI .i64 x.Generic ∧ okI .i64 x.X ∧ okA5 (okI .i64) x.Color ∧ True
theorem decSCost {n : Nat} {cs : List C} (h : typed Tryd.prog n 34 cs) : ∃ x : SCost, cs = encSCost x ∧ okSCost x := by
  obtain ⟨m, dss, h0, hE⟩ := typed_struct (ts := [3, 3, 32]) Tryd.underlying34 rfl h
  obtain ⟨p, h1, h2⟩ := (eachC (dI Tryd.underlying3) (eachC (dI Tryd.underlying3) (eachC (dA5 Tryd.underlying32 (dI Tryd.underlying3)) eachN))) hE
  exact ⟨⟨p.1, p.2.1, p.2.2.1⟩, h0.trans h1, h2⟩
end Go.PL
