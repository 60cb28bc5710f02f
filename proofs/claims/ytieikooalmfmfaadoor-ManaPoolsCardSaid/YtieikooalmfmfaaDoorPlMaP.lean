/- Plain laws of the mana chapter: Whole, Pay; ManaPaysAs, ManaPays. -/
import Derived.Test.YtieikooalmfmfaaDoorPlMaL
namespace Go.PL
open Go
set_option maxRecDepth 100000
set_option linter.all false
set_option maxHeartbeats 1000000
/-! Whole. -/
def wh (p : A6 Int) : Bool := bad 1000000 p.x0 || (bad 1000000 p.x1 || (bad 1000000 p.x2 || (bad 1000000 p.x3 || (bad 1000000 p.x4 || bad 1000000 p.x5))))
theorem whB (p : A6 Int) (k e : Int) (hk : k < 6) (h : idx p.l k = some e) : mana_Whole_B4 p k = (if bad 1000000 e = true then some (.inr (.inl ())) else some (.inl (wrap64 (k + 1)))) := by
  unfold mana_Whole_B4
  rw [if_pos (by simpa using hk), h]; rfl
theorem rwhB (p : A6 Int) (k e : Int) (hk : k < 6) (h : idx p.l k = some e) : r08_Whole_B4 p k = (if bad 1000000 e = true then some (.inr (.inl ())) else some (.inl (wrap64 (k + 1)))) := by
  unfold r08_Whole_B4
  rw [if_pos (by simpa using hk), h, Option.bind_some]
  exact rbg 1000000 e _ _ rfl
theorem wh_loop {B : Int → Option (Int ⊕ (Unit ⊕ Unit))} (p : A6 Int) (hB : ∀ k e, k < 6 → idx p.l k = some e → B k = (if bad 1000000 e = true then some (.inr (.inl ())) else some (.inl (wrap64 (k + 1))))) (h6 : B 6 = some (.inr (.inr ()))) :
    iter B FU 0 = some (if wh p = true then .inl () else .inr ()) := by
  have b0 : B 0 = (if bad 1000000 p.x0 = true then some (.inr (.inl ())) else some (.inl 1)) := hB 0 _ (by omega) (by kernel_rfl)
  have b1 : B 1 = (if bad 1000000 p.x1 = true then some (.inr (.inl ())) else some (.inl 2)) := hB 1 _ (by omega) (by kernel_rfl)
  have b2 : B 2 = (if bad 1000000 p.x2 = true then some (.inr (.inl ())) else some (.inl 3)) := hB 2 _ (by omega) (by kernel_rfl)
  have b3 : B 3 = (if bad 1000000 p.x3 = true then some (.inr (.inl ())) else some (.inl 4)) := hB 3 _ (by omega) (by kernel_rfl)
  have b4 : B 4 = (if bad 1000000 p.x4 = true then some (.inr (.inl ())) else some (.inl 5)) := hB 4 _ (by omega) (by kernel_rfl)
  have b5 : B 5 = (if bad 1000000 p.x5 = true then some (.inr (.inl ())) else some (.inl 6)) := hB 5 _ (by omega) (by kernel_rfl)
  rw [FU7]
  unfold wh
  cases h0 : bad 1000000 p.x0
  · cases h1 : bad 1000000 p.x1
    · cases h2 : bad 1000000 p.x2
      · cases h3 : bad 1000000 p.x3
        · cases h4 : bad 1000000 p.x4
          · cases h5 : bad 1000000 p.x5
            · simp [iter, b0, b1, b2, b3, b4, b5, h6, h0, h1, h2, h3, h4, h5]
            · simp [iter, b0, b1, b2, b3, b4, b5, h0, h1, h2, h3, h4, h5]
          · simp [iter, b0, b1, b2, b3, b4, h0, h1, h2, h3, h4]
        · simp [iter, b0, b1, b2, b3, h0, h1, h2, h3]
      · simp [iter, b0, b1, b2, h0, h1, h2]
    · simp [iter, b0, b1, h0, h1]
  · simp [iter, b0, h0]
theorem wh_eq (p : A6 Int) : mana_Whole p = some (!wh p) := by
  unfold mana_Whole
  rw [wh_loop p (whB p) (by kernel_rfl)]
  cases wh p <;> rfl
theorem rwh_eq (p : A6 Int) : r08_Whole p = some (!wh p) := by
  unfold r08_Whole
  rw [wh_loop p (rwhB p) (by kernel_rfl)]
  cases wh p <;> rfl
/-! Pay. -/
def nd (n b : Int) : Int := n - (if b < n then b else n)
section
end
/-! The generic mana. -/
section
variable {B : Int → Int → A6 Int → Option ((Int × Int × (A6 Int)) ⊕ (Int × (A6 Int)))}
end
end Go.PL
