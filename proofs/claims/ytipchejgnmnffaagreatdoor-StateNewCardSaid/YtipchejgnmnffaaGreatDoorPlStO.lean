/- Plain laws of the state chapter: whose turn comes next. -/
import Derived.Test.YtipchejgnmnffaaGreatDoorPlStN
namespace Go.PL
open Go
set_option maxRecDepth 100000
set_option linter.all false
set_option maxHeartbeats 1000000
def livN (l : List SPlayer) (k : Nat) : List Int := ((List.range k).filter (fun i => !(l.getD i default).Lost)).map (fun i : Nat => Int.ofNat i)
def liv (l : List SPlayer) : List Int := livN l l.length
/-- Those after p, then those before. -/
def oth (L : List Int) (p : Int) : List Int := L.filter (fun e => decide (p < e)) ++ L.filter (fun e => decide (e < p))
/-- Who is asked for. -/
def who (s : SState) (p : Int) : Int := if 0 ≤ p ∧ p < (s.Players.length : Int) then p else -1
/-- The next one. -/
def aft (s : SState) (p : Int) : Int := match oth (liv s.Players) (who s p) with
  | e :: _ => e
  | [] => if (0 ≤ p ∧ p < (s.Players.length : Int)) ∧ (s.Players.getD p.toNat default).Lost = false then p else -1
end Go.PL
