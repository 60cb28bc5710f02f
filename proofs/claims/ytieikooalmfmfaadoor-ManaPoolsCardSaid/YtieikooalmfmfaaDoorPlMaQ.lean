/- Plain laws of the mana chapter: cost, PoolText, Add; ManaPools. -/
import Derived.Test.YtieikooalmfmfaaDoorPlMaT
import Derived.Test.YtieikooalmfmfaaDoorPlMaP
namespace Go.PL
open Go
set_option maxRecDepth 100000
set_option linter.all false
def costS (p : A6 Int) : SCost := ⟨p.x0, 0, ⟨p.x1, p.x2, p.x3, p.x4, p.x5⟩⟩
theorem cost_eq (p : A6 Int) : mana_cost p = some (costS p) := by kernel_rfl
theorem cB0 (p : A6 Int) (g x a b c d e : Int) : r08_cost_B9 p 0 ⟨g, x, ⟨a, b, c, d, e⟩⟩ = some (.inl (1, ⟨g, x, ⟨p.x1, b, c, d, e⟩⟩)) := by kernel_rfl
theorem cB1 (p : A6 Int) (g x a b c d e : Int) : r08_cost_B9 p 1 ⟨g, x, ⟨a, b, c, d, e⟩⟩ = some (.inl (2, ⟨g, x, ⟨a, p.x2, c, d, e⟩⟩)) := by kernel_rfl
theorem cB2 (p : A6 Int) (g x a b c d e : Int) : r08_cost_B9 p 2 ⟨g, x, ⟨a, b, c, d, e⟩⟩ = some (.inl (3, ⟨g, x, ⟨a, b, p.x3, d, e⟩⟩)) := by kernel_rfl
theorem cB3 (p : A6 Int) (g x a b c d e : Int) : r08_cost_B9 p 3 ⟨g, x, ⟨a, b, c, d, e⟩⟩ = some (.inl (4, ⟨g, x, ⟨a, b, c, p.x4, e⟩⟩)) := by kernel_rfl
theorem cB4 (p : A6 Int) (g x a b c d e : Int) : r08_cost_B9 p 4 ⟨g, x, ⟨a, b, c, d, e⟩⟩ = some (.inl (5, ⟨g, x, ⟨a, b, c, d, p.x5⟩⟩)) := by kernel_rfl
theorem cB5 (p : A6 Int) (c : SCost) : r08_cost_B9 p 5 c = some (.inr c) := by kernel_rfl
theorem rcost_eq (p : A6 Int) : r08_cost p = some (costS p) := by
  have h0 : idx p.l 0 = some p.x0 := by kernel_rfl
  unfold r08_cost
  rw [h0]
  simp only [Option.bind_some]
  rw [FU7]
  simp only [iter, cB0, cB1, cB2, cB3, cB4, cB5, Option.bind_some]
  rfl
theorem poolText_eq (p : A6 Int) : mana_PoolText p = some (textS (costS p)) := by
  unfold mana_PoolText
  rw [cost_eq, Option.bind_some, text_eq]; rfl
theorem rpoolText_eq (p : A6 Int) : r08_PoolText p = some (textS (costS p)) := by
  unfold r08_PoolText
  rw [rcost_eq, Option.bind_some, rtextS_eq]; rfl
def addV (a b : Int) : Int := (r01_Add a b).getD 0
theorem radd_v (a b : Int) : r01_Add a b = some (addV a b) := by
  obtain ⟨r, h⟩ := radd_some a b
  unfold addV; rw [h]; rfl
theorem nadd_v (a b : Int) : num_Add a b = some (addV a b) := by rw [add_eq, radd_v]
def mz (r : Int) : Int := if (0 : Int) < r then r else 0
section
theorem dB0 (q : A6 Int) (a b c d e f : Int) : mana_Add_B8 q 0 ⟨a, b, c, d, e, f⟩ = (num_Add a q.x0).bind fun r => some (.inl (1, ⟨mz r, b, c, d, e, f⟩)) := by kernel_rfl
theorem dB1 (q : A6 Int) (a b c d e f : Int) : mana_Add_B8 q 1 ⟨a, b, c, d, e, f⟩ = (num_Add b q.x1).bind fun r => some (.inl (2, ⟨a, mz r, c, d, e, f⟩)) := by kernel_rfl
theorem dB2 (q : A6 Int) (a b c d e f : Int) : mana_Add_B8 q 2 ⟨a, b, c, d, e, f⟩ = (num_Add c q.x2).bind fun r => some (.inl (3, ⟨a, b, mz r, d, e, f⟩)) := by kernel_rfl
theorem dB3 (q : A6 Int) (a b c d e f : Int) : mana_Add_B8 q 3 ⟨a, b, c, d, e, f⟩ = (num_Add d q.x3).bind fun r => some (.inl (4, ⟨a, b, c, mz r, e, f⟩)) := by kernel_rfl
theorem dB4 (q : A6 Int) (a b c d e f : Int) : mana_Add_B8 q 4 ⟨a, b, c, d, e, f⟩ = (num_Add e q.x4).bind fun r => some (.inl (5, ⟨a, b, c, d, mz r, f⟩)) := by kernel_rfl
theorem dB5 (q : A6 Int) (a b c d e f : Int) : mana_Add_B8 q 5 ⟨a, b, c, d, e, f⟩ = (num_Add f q.x5).bind fun r => some (.inl (6, ⟨a, b, c, d, e, mz r⟩)) := by kernel_rfl
theorem dB6 (q p : A6 Int) : mana_Add_B8 q 6 p = some (.inr p) := by kernel_rfl
theorem eB0 (p q : A6 Int) (a b c d e f : Int) : r08_Add_B8 p q 0 ⟨a, b, c, d, e, f⟩ = (r01_Add p.x0 q.x0).bind fun r => some (.inl (1, ⟨mz r, b, c, d, e, f⟩)) := by kernel_rfl
theorem eB1 (p q : A6 Int) (a b c d e f : Int) : r08_Add_B8 p q 1 ⟨a, b, c, d, e, f⟩ = (r01_Add p.x1 q.x1).bind fun r => some (.inl (2, ⟨a, mz r, c, d, e, f⟩)) := by kernel_rfl
theorem eB2 (p q : A6 Int) (a b c d e f : Int) : r08_Add_B8 p q 2 ⟨a, b, c, d, e, f⟩ = (r01_Add p.x2 q.x2).bind fun r => some (.inl (3, ⟨a, b, mz r, d, e, f⟩)) := by kernel_rfl
theorem eB3 (p q : A6 Int) (a b c d e f : Int) : r08_Add_B8 p q 3 ⟨a, b, c, d, e, f⟩ = (r01_Add p.x3 q.x3).bind fun r => some (.inl (4, ⟨a, b, c, mz r, e, f⟩)) := by kernel_rfl
theorem eB4 (p q : A6 Int) (a b c d e f : Int) : r08_Add_B8 p q 4 ⟨a, b, c, d, e, f⟩ = (r01_Add p.x4 q.x4).bind fun r => some (.inl (5, ⟨a, b, c, d, mz r, f⟩)) := by kernel_rfl
theorem eB5 (p q : A6 Int) (a b c d e f : Int) : r08_Add_B8 p q 5 ⟨a, b, c, d, e, f⟩ = (r01_Add p.x5 q.x5).bind fun r => some (.inl (6, ⟨a, b, c, d, e, mz r⟩)) := by kernel_rfl
theorem eB6 (p q r : A6 Int) : r08_Add_B8 p q 6 r = some (.inr r) := by kernel_rfl
end
def addS (p q : A6 Int) : A6 Int := ⟨mz (addV p.x0 q.x0), mz (addV p.x1 q.x1), mz (addV p.x2 q.x2), mz (addV p.x3 q.x3), mz (addV p.x4 q.x4), mz (addV p.x5 q.x5)⟩
theorem madd_eq (p q : A6 Int) : mana_Add p q = some (addS p q) := by
  obtain ⟨p0, p1, p2, p3, p4, p5⟩ := p
  unfold mana_Add
  rw [FU7]
  simp only [iter, dB0, dB1, dB2, dB3, dB4, dB5, dB6, nadd_v, Option.bind_some, mana_Add_J2]
  rfl
theorem rmadd_eq (p q : A6 Int) : r08_Add p q = some (addS p q) := by
  unfold r08_Add
  rw [FU7]
  simp only [iter, eB0, eB1, eB2, eB3, eB4, eB5, eB6, radd_v, Option.bind_some, r08_Add_J2]
  rfl
theorem law_ManaPools (p q : A6 Int) : law08_ManaPools p q = some true := by
  unfold law08_ManaPools
  rw [wh_eq, rwh_eq, poolText_eq, rpoolText_eq, madd_eq, rmadd_eq, alive8]
  simp [gd]
end Go.PL
