/- Plain laws of the state chapter: whose turn comes next. -/
import Derived.Test.YtipchejgnmnffaaGreatDoorPlStN
namespace Go.PL
open Go
set_option maxRecDepth 100000
set_option linter.all false
set_option maxHeartbeats 1000000
def livN (l : List SPlayer) (k : Nat) : List Int := ((List.range k).filter (fun i => !(l.getD i default).Lost)).map (fun i : Nat => Int.ofNat i)
def liv (l : List SPlayer) : List Int := livN l l.length
theorem loopA {σ ρ β : Type} {B : σ → Option (σ ⊕ ρ)} {S : Nat → σ} {r : ρ} {k : ρ → Option β} {q : Option β} {s0 : σ} (j : Nat) (hj : j < 9223372036854775807) (h0 : s0 = S 0) (hs : ∀ i, i < j → B (S i) = some (.inl (S (i + 1)))) (he : B (S j) = some (.inr r)) (hk : k r = q) : (iter B FU s0).bind k = q := by
  rw [iter_at S j hj hs he h0]; exact hk
theorem okPl {s : SState} (ho : okSState s) : s.Players.length * 152 ≤ reachBytes := by
  unfold okSState at ho
  exact ho.1.1
/-- Those after p, then those before. -/
def oth (L : List Int) (p : Int) : List Int := L.filter (fun e => decide (p < e)) ++ L.filter (fun e => decide (e < p))
theorem inI (a b c : Int) : r26_in a b c = some (decide (b ≤ a) && decide (a ≤ c)) := by
  unfold r26_in
  simp only [ifA, Option.bind_some]
theorem plI {s : SState} (ho : okSState s) (p : Int) : r26_player s p = some (decide (0 ≤ p ∧ p < (s.Players.length : Int))) := by
  have hp := okPl ho
  unfold reachBytes at hp
  unfold r26_player
  rw [wrap64_id (by omega) (by omega), inI]
  simp only [Option.bind_some]
  refine congrArg some ?_
  rw [Bool.eq_iff_iff]
  simp only [Bool.and_eq_true, decide_eq_true_eq]
  omega
/-- Who is asked for. -/
def who (s : SState) (p : Int) : Int := if 0 ≤ p ∧ p < (s.Players.length : Int) then p else -1
/-- The next one. -/
def aft (s : SState) (p : Int) : Int := match oth (liv s.Players) (who s p) with
  | e :: _ => e
  | [] => if (0 ≤ p ∧ p < (s.Players.length : Int)) ∧ (s.Players.getD p.toNat default).Lost = false then p else -1
end Go.PL
