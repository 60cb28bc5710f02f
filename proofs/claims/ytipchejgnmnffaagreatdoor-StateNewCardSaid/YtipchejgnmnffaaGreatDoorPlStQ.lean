/- Plain laws of the state chapter: a new state. -/
import Derived.Test.YtipchejgnmnffaaGreatDoorPlStP
namespace Go.PL
open Go
set_option maxRecDepth 100000
set_option linter.all false
set_option maxHeartbeats 1000000
def p20 : SPlayer := ⟨20, 0, 0, ⟨0, 0, 0, 0, 0, 0⟩, false, false, [], [], []⟩
def newS (n : Nat) (act seed : Int) : SState := ⟨List.replicate n p20, [], [], [], [], [], [], 0, act, 0, false, act, 0, 1, 1, seed, [], 0, -1⟩
def actOf (n : Int) (a : Int) : Int := if 0 ≤ a ∧ a < n then a else 0
theorem clamp (a : Int) : (if (4 : Int) < (if a < (2 : Int) then (2 : Int) else a) then (4 : Int) else (if a < (2 : Int) then (2 : Int) else a)) = 2 ∨ (if (4 : Int) < (if a < (2 : Int) then (2 : Int) else a) then (4 : Int) else (if a < (2 : Int) then (2 : Int) else a)) = 3 ∨ (if (4 : Int) < (if a < (2 : Int) then (2 : Int) else a) then (4 : Int) else (if a < (2 : Int) then (2 : Int) else a)) = 4 := by
  split <;> split at * <;> omega
theorem newJ1 (n : Int) (a1 a2 : Int) (l : List SPlayer) : ((some (if (decide ((0 : Int) < a1)) = true then decide (a1 < n) else false)).bind fun b8 => (if b8 = true then state_New_J7 a2 l a1 a1 else state_New_J7 a2 l (0 : Int) (0 : Int))) = state_New_J7 a2 l (actOf n a1) (actOf n a1) := by
  unfold actOf
  simp only [Option.bind_some, ifA]
  by_cases h : 0 ≤ a1 ∧ a1 < n
  · rw [if_pos h]
    by_cases h0 : a1 = 0
    · subst h0; simp
    · rw [if_pos (by simp; omega)]
  · rw [if_neg h, if_neg (by simp; omega)]
theorem newJ2 (n : Int) (a1 a2 : Int) (l : List SPlayer) : ((some (if (decide ((0 : Int) ≤ a1)) = true then decide (a1 < n) else false)).bind fun b8 => (if b8 = true then r26_New_J5 a2 l a1 a1 else r26_New_J5 a2 l (0 : Int) (0 : Int))) = r26_New_J5 a2 l (actOf n a1) (actOf n a1) := by
  unfold actOf
  simp only [Option.bind_some, ifA]
  by_cases h : 0 ≤ a1 ∧ a1 < n
  · rw [if_pos h, if_pos (by simp; omega)]
  · rw [if_neg h, if_neg (by simp; omega)]
theorem new_both (a0 a1 a2 : Int) : ∃ n : Nat, (n = 2 ∨ n = 3 ∨ n = 4) ∧ state_New a0 a1 a2 = some (newS n (actOf n a1) a2) ∧ r26_New a0 a1 a2 = some (newS n (actOf n a1) a2) := by
  have hc := clamp a0
  have e1 : state_New a0 a1 a2 = state_New a0 a1 a2 := rfl
  have e2 : r26_New a0 a1 a2 = r26_New a0 a1 a2 := rfl
  conv at e1 => rhs; unfold state_New state_New_J4
  conv at e2 => rhs; unfold r26_New r26_New_J2 r26_New_B13
  simp only [newJ1] at e1
  simp only [newJ2] at e2
  rw [e1, e2]
  clear e1 e2
  generalize (if (4 : Int) < (if a0 < (2 : Int) then (2 : Int) else a0) then (4 : Int) else (if a0 < (2 : Int) then (2 : Int) else a0)) = m at hc ⊢
  rcases hc with rfl | rfl | rfl
  · exact ⟨2, .inl rfl, rfl, rfl⟩
  · exact ⟨3, .inr (.inl rfl), rfl, rfl⟩
  · exact ⟨4, .inr (.inr rfl), rfl, rfl⟩
theorem newIs {n : Nat} (hn : n = 2 ∨ n = 3 ∨ n = 4) (a seed : Int) (cs : List SCard) : state_Is cs (newS n (actOf n a) seed) = some true ∧ r26_Is cs (newS n (actOf n a) seed) = some true := by
  have ha : actOf n a = 0 ∨ actOf n a = 1 ∨ (actOf n a = 2 ∧ 3 ≤ n) ∨ (actOf n a = 3 ∧ 4 ≤ n) := by
    unfold actOf; split <;> omega
  generalize actOf n a = x at ha
  rcases hn with rfl | rfl | rfl <;> rcases ha with rfl | rfl | ⟨rfl, h⟩ | ⟨rfl, h⟩ <;> first | exact ⟨rfl, rfl⟩ | (exfalso; omega)
theorem okNew {n : Nat} (hn : n = 2 ∨ n = 3 ∨ n = 4) (a : Int) {seed : Int} (hs : okI .u64 seed) : okSState (newS n (actOf n a) seed) := by
  have ha : okI .i64 (actOf n a) := by
    have : actOf n a = 0 ∨ actOf n a = 1 ∨ actOf n a = 2 ∨ actOf n a = 3 := by
      unfold actOf; split <;> omega
    rcases this with h | h | h | h <;> rw [h] <;> unfold okI <;> rfl
  have z : ∀ v ∈ [(0 : Int), 1, 20, -1], okI .i64 v := by
    intro v hv; simp only [List.mem_cons, List.not_mem_nil, or_false] at hv
    rcases hv with rfl | rfl | rfl | rfl <;> unfold okI <;> rfl
  have z0 := z 0 (by simp)
  have z1 := z 1 (by simp)
  have hp : okSPlayer p20 := by
    unfold okSPlayer p20
    refine ⟨z 20 (by simp), z0, z0, ?_, trivial, trivial, okNil, okNil, okNil, trivial⟩
    intro y hy
    have : y = 0 := by simpa [A6.l] using hy
    rw [this]; exact z0
  unfold okSState newS
  refine ⟨⟨?_, ?_⟩, okNil, okNil, okNil, okNil, okNil, okNil, z0, ha, z0, trivial, ha, z0, z1, z1, hs, okNil, z0, z (-1) (by simp), trivial⟩
  · rw [List.length_replicate]; unfold reachBytes; omega
  · intro y hy; rw [List.eq_of_mem_replicate hy]; exact hp
theorem law_StateNew {cs : List SCard} {ask : A2 Int} {seed : Int} (hs : okI .u64 seed) : law26_StateNew cs ask seed = some true := by
  unfold law26_StateNew
  have e1 : idx ask.l 0 = some ask.x0 := rfl
  have e2 : idx ask.l 1 = some ask.x1 := rfl
  rw [e1, e2]
  simp only [Option.bind_some, alive26]
  split
  · rfl
  · obtain ⟨n, hn, h1, h2⟩ := new_both ask.x0 ask.x1 seed
    rw [h1, h2]
    simp only [Option.bind_some]
    obtain ⟨h3, h4⟩ := newIs hn ask.x1 seed cs
    rw [refSame (okNew hn ask.x1 hs), h3, h4]
    simp [gdS]
end Go.PL
