/- Plain laws of the state chapter: light states have an answer; the examples; Same. -/
import Derived.Test.YtipchejgnmnffaaGreatDoorPlStM
namespace Go.PL
open Go
set_option maxRecDepth 100000
set_option linter.all false
set_option maxHeartbeats 1000000
theorem gdS {α : Type} [Inhabited α] (g : Bool) (x : α) : gd g (some x) = some (if g = true then x else default) := by cases g <;> rfl
theorem fin2 {b : Bool} {i : Nat} (hi : i < 9223372036854775807) : (if b = true then some (.inr (.inl ())) else some (.inl (wrap64 ((i : Int) + 1))) : Option (Int ⊕ (Unit ⊕ Unit))) = some (if b = true then .inr (.inl ()) else .inl ((i : Int) + 1)) := by
  rw [wrap64_id (by omega) (by omega)]
  cases b <;> rfl
abbrev T {α : Type} (o : Option α) : Prop := ∃ r, o = some r
theorem Tif {α : Type} {c : Bool} {a b : Option α} (h1 : T a) (h2 : T b) : T (if c = true then a else b) := by
  cases c
  · exact h2
  · exact h1
theorem totL {α : Type} {l : List α} {B : Int → Option (Int ⊕ (Unit ⊕ Unit))} {f g : Option Bool} (hn : l.length < 9223372036854775807) (hf : T f) (hg : T g) (hE : B (l.length : Int) = some (.inr (.inr ()))) (hB : ∀ (i : Nat) (h : i < l.length), ∃ b : Bool, B (i : Int) = some (if b = true then .inr (.inl ()) else .inl ((i : Int) + 1))) : T ((iter B FU 0).bind (Sum.elim (fun _ => f) (fun _ => g))) := by
  have : ∀ (k i N : Nat), i + k = l.length → k < N → T ((iter B N (i : Int)).bind (Sum.elim (fun _ => f) (fun _ => g))) := by
    intro k
    induction k with
    | zero =>
      intro i N hi hN
      obtain ⟨N, rfl⟩ : ∃ M, N = M + 1 := ⟨N - 1, by omega⟩
      obtain rfl : i = l.length := by omega
      rw [iter_end hE]; exact hg
    | succ k ih =>
      intro i N hi hN
      obtain ⟨N, rfl⟩ : ∃ M, N = M + 1 := ⟨N - 1, by omega⟩
      obtain ⟨b, hb⟩ := hB i (by omega)
      cases b
      · rw [if_neg (by simp)] at hb
        rw [iter_go hb]
        exact ih (i + 1) N (by omega) (by omega)
      · rw [if_pos rfl] at hb
        rw [iter_end hb]; exact hf
  exact this l.length 0 FU (by omega) (by unfold FU; omega)
theorem r17LightT {x : SEffect} (ho : okSEffect x) : T (r17_Light x) := by
  have ho2 := ho
  unfold okSEffect at ho2
  unfold r17_Light
  simp only [Option.bind_some]
  refine Tif ⟨_, rfl⟩ ?_
  · refine totL (okLen ho2.2.2.2.2.2.2.2.2.1) ⟨_, rfl⟩ ⟨_, rfl⟩ ?_ (fun i h => ?_)
    · unfold r17_Light_B9; rw [if_neg (by simp)]
    · unfold r17_Light_B9
      rw [if_pos (by simpa using h), idx_nat h]
      simp only [Option.bind_some, gdS]
      exact ⟨_, fin2 (Nat.lt_trans h (okLen ho2.2.2.2.2.2.2.2.2.1))⟩
theorem r17LightListT {l : List SEffect} (ho : okL 560 okSEffect l) : T (r17_LightList l) := by
  unfold r17_LightList
  refine totL (okLen ho) ⟨_, rfl⟩ ⟨_, rfl⟩ ?_ (fun i h => ?_)
  · unfold r17_LightList_B4; rw [if_neg (by simp)]
  · unfold r17_LightList_B4
    obtain ⟨r, hr⟩ := r17LightT (okAt ho h)
    rw [if_pos (by simpa using h), idx_nat h]
    simp only [Option.bind_some, hr]
    exact ⟨_, fin2 (Nat.lt_trans h (okLen ho))⟩
theorem r20LightT {x : SAbility} (h1 : okL 176 okSMod x.Mods) (h2 : okL 144 okSSpec x.Specs) (h3 : okL 560 okSEffect x.Effects) : T (r20_Light x) := by
  unfold r20_Light
  obtain ⟨r, hr⟩ := r17LightListT h3
  simp only [Option.bind_some, hr, gdS]
  refine Tif ⟨_, rfl⟩ ?_
  · refine totL (okLen h1) ⟨_, rfl⟩ ?_ ?_ (fun i h => ?_)
    · unfold r20_Light_J8
      refine totL (okLen h2) ⟨_, rfl⟩ ⟨_, rfl⟩ ?_ (fun i h => ?_)
      · unfold r20_Light_B12; rw [if_neg (by simp)]
      · unfold r20_Light_B12
        rw [if_pos (by simpa using h), idx_nat h]
        simp only [Option.bind_some]
        exact ⟨_, fin2 (Nat.lt_trans h (okLen h2))⟩
    · unfold r20_Light_B18; rw [if_neg (by simp)]
    · unfold r20_Light_B18
      rw [if_pos (by simpa using h), idx_nat h]
      simp only [Option.bind_some, gdS]
      exact ⟨_, fin2 (Nat.lt_trans h (okLen h1))⟩
theorem abT {x : SAbility} (h : okSAbility x) : T (r20_Light x) := by
  unfold okSAbility at h
  exact r20LightT h.2.2.1 h.2.2.2.2.2.2.2.1 h.2.2.2.2.2.2.2.2.1
theorem okNil {α : Type} {b : Nat} {ok : α → Prop} : okL b ok [] := ⟨by simp, fun y h => by cases h⟩
theorem smallT {s : SState} (ho : okSState s) : T (r26_Small s) := by
  have ho2 := ho
  unfold okSState at ho2
  have hp := okLen ho2.1
  have hc := okLen ho2.2.2.2.2.2.2.1
  have hw := okLen ho2.2.2.2.2.2.1
  have hk := okLen ho2.2.2.2.2.1
  have hJ6 : T (r26_Small_J6 s) := by
    unfold r26_Small_J6
    refine totL hc ⟨_, rfl⟩ ⟨_, rfl⟩ ?_ (fun i h => ?_)
    · unfold r26_Small_B10; rw [if_neg (by simp)]
    · have hx := okAt ho2.2.2.2.2.2.2.1 h
      unfold okSCont at hx
      unfold r26_Small_B10
      rw [if_pos (by simpa using h), idx_nat h]
      simp only [Option.bind_some, gdS]
      generalize hg : (decide ((300 : Int) < (s.Conts[i].Objects.length : Int))) = g
      cases g
      · have e : (false == false) = true := rfl
        rw [e, if_pos rfl, gd_true]
        obtain ⟨r, hr⟩ := r20LightT (x := ⟨(0 : Int), (⟨(0 : Int), (0 : Int), (0 : Int), (0 : Int), (0 : Int), (0 : Int), (0 : Int), [], (0 : Int), (0 : Int), (⟨(0 : Int), (0 : Int)⟩ : SBound), (⟨(0 : Int), (0 : Int)⟩ : SBound), (⟨(0 : Int), (0 : Int)⟩ : SBound)⟩ : SFilter), s.Conts[i].Mods, (⟨(⟨(0 : Int), (0 : Int), (⟨(0 : Int), (0 : Int), (0 : Int), (0 : Int), (0 : Int)⟩ : A5 (Int))⟩ : SCost), false, false, (0 : Int)⟩ : SPrice), false, (⟨(0 : Int), (0 : Int), (⟨(0 : Int), (0 : Int), (0 : Int), (0 : Int), (0 : Int), (0 : Int), (0 : Int), [], (0 : Int), (0 : Int), (⟨(0 : Int), (0 : Int)⟩ : SBound), (⟨(0 : Int), (0 : Int)⟩ : SBound), (⟨(0 : Int), (0 : Int)⟩ : SBound)⟩ : SFilter)⟩ : STrigger), false, ([] : List (SSpec)), ([] : List (SEffect)), (⟨(0 : Int), (0 : Int), (⟨(0 : Int), (0 : Int), (0 : Int), (0 : Int), (0 : Int), (0 : Int), (0 : Int), [], (0 : Int), (0 : Int), (⟨(0 : Int), (0 : Int)⟩ : SBound), (⟨(0 : Int), (0 : Int)⟩ : SBound), (⟨(0 : Int), (0 : Int)⟩ : SBound)⟩ : SFilter), (0 : Int), (0 : Int), (0 : Int), (0 : Int)⟩ : SReplace)⟩) hx.2.2.2.2.2.1 okNil okNil
        rw [hr]
        simp only [Option.bind_some]
        exact ⟨_, fin2 (Nat.lt_trans h hc)⟩
      · have e : (true == false) = false := rfl
        rw [e, gd_false]
        simp only [Option.bind_some]
        exact ⟨_, fin2 (Nat.lt_trans h hc)⟩
  have hJ5 : T (r26_Small_J5 s) := by
    unfold r26_Small_J5
    refine totL hw ⟨_, rfl⟩ hJ6 ?_ (fun i h => ?_)
    · unfold r26_Small_B19; rw [if_neg (by simp)]
    · have hx := okAt ho2.2.2.2.2.2.1 h
      unfold okSWaiting at hx
      unfold r26_Small_B19
      obtain ⟨r, hr⟩ := abT hx.2.2.1
      rw [if_pos (by simpa using h), idx_nat h]
      simp only [Option.bind_some, hr]
      exact ⟨_, fin2 (Nat.lt_trans h hw)⟩
  have hJ2 : ∀ v, T (r26_Small_J2 s v) := by
    intro v
    unfold r26_Small_J2
    simp only [Option.bind_some]
    refine Tif ⟨_, rfl⟩ ?_
    · refine totL hk ⟨_, rfl⟩ hJ5 ?_ (fun i h => ?_)
      · unfold r26_Small_B26; rw [if_neg (by simp)]
      · have hx := okAt ho2.2.2.2.2.1 h
        unfold okSItem at hx
        unfold r26_Small_B26
        rw [if_pos (by simpa using h), idx_nat h]
        simp only [Option.bind_some, gdS]
        generalize hg : (decide ((20 : Int) < (s.Stack[i].Targets.length : Int))) = g
        cases g
        · have e : (false == false) = true := rfl
          obtain ⟨r, hr⟩ := abT hx.2.2.2.2.2.2.1
          rw [e, if_pos rfl, gd_true, hr]
          simp only [Option.bind_some]
          exact ⟨_, fin2 (Nat.lt_trans h hk)⟩
        · have e : (true == false) = false := rfl
          rw [e, gd_false]
          simp only [Option.bind_some]
          exact ⟨_, fin2 (Nat.lt_trans h hk)⟩
  unfold r26_Small
  have : W ((iter (fun (v : Int × Int) => r26_Small_B38 s v.1 v.2) FU ((wrap64 ((wrap64 ((wrap64 ((wrap64 ((wrap64 ((wrap64 ((s.Objects.length : Int) + (s.Battlefield.length : Int))) + (s.Exile.length : Int))) + (s.Extra.length : Int))) + (wrap64 ((8 : Int) * (s.Stack.length : Int))))) + (wrap64 ((8 : Int) * (s.Waiting.length : Int))))) + (wrap64 ((4 : Int) * (s.Conts.length : Int))))), (0 : Int))).bind (fun o0 => r26_Small_J2 s o0)) (fun _ => True) := by
    refine W.it (fun v => 0 ≤ v.2 ∧ v.2 ≤ s.Players.length) (fun v => ((s.Players.length : Int) - v.2).toNat) ⟨by simp, by simp⟩ (by dsimp only; omega) (fun v hv => ?_)
    obtain ⟨a, i⟩ := v
    dsimp only at hv ⊢
    unfold r26_Small_B38
    simp only [Option.bind_some]
    refine W.if (fun hc => ?_) (fun hc => ?_)
    · have hi : 0 ≤ i ∧ i < s.Players.length := by
        refine ⟨hv.1, ?_⟩
        by_cases h : i < (s.Players.length : Int)
        · exact h
        · simp [h] at hc
      rw [idx_some hi]
      simp only [Option.bind_some]
      rw [wrap64_id (x := i + 1) (by omega) (by omega)]
      exact W.nx ⟨by dsimp only; omega, by dsimp only; omega⟩ (by dsimp only; omega)
    · refine W.ex ?_
      obtain ⟨r, hr⟩ := hJ2 a
      exact ⟨r, hr, trivial⟩
  obtain ⟨r, hr, _⟩ := this
  exact ⟨r, hr⟩
theorem lightT {s : SState} (ho : okSState s) : T (law26_light [] s) := by
  unfold law26_light
  obtain ⟨r, hr⟩ := smallT ho
  rw [hr, gdS]
  exact ⟨_, rfl⟩
theorem alive26 : law26_alive = some true := by rfl
end Go.PL
