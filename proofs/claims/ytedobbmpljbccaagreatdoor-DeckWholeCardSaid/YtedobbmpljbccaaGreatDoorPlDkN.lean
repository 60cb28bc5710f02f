/- Plain laws of the deck chapter: DeckChecks, DeckTexts, and the way back. -/
import Derived.Test.YtedobbmpljbccaaGreatDoorPlDkM
namespace Go.PL
open Go Go.Lib
set_option maxRecDepth 100000
set_option linter.all false
set_option maxHeartbeats 1000000
section
variable {l : List SCard} {d : SDeck}
end
/-! The laws. -/
theorem small_W {x : SAsk} (k : lkSAsk x) : W (law23_small x) (fun r => r = true → VC x.Cards ∧ x.Deck.Cards.length ≤ 300 ∧ x.Deck.Counts.length ≤ 300 ∧ x.Format.Banned.length ≤ 100) := by
  unfold law23_small
  refine W.lt (fun b1 h1 => ?_)
  refine W.lt (fun b2 h2 => ?_)
  refine W.lt (fun b3 h3 => ?_)
  refine W.if (fun _ => W.rt (fun h => by cases h)) (fun hh => ?_)
  simp only [h1, h2, h3, bz] at hh
  refine W.bd (valid_W (lkSAsk_Cards k)) (fun r hr => W.rt (fun h => ⟨hr h, by omega, by omega, by omega⟩))
end Go.PL
