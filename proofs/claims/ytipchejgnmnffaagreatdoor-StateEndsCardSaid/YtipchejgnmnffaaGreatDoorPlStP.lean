/- Plain laws of the state chapter: copies; a game's end. -/
import Derived.Test.YtipchejgnmnffaaGreatDoorPlStO
namespace Go.PL
open Go
set_option maxRecDepth 100000
set_option linter.all false
set_option maxHeartbeats 1000000
section
variable {α : Type} {b : Nat} {ok : α → Prop} {l : List α}
theorem okSz (h : okL b ok l) (hb : 1 ≤ b := by decide) : l.length * b ≤ 140737488355328 ∧ l.length ≤ maxLen := by
  have h1 := h.1
  have : l.length * 1 ≤ l.length * b := Nat.mul_le_mul_left _ hb
  unfold reachBytes at h1
  unfold maxLen
  omega
theorem appNil (h : okL b ok l) (hb : 1 ≤ b := by decide) : app b [] l = some l := by
  have := okSz h hb
  rw [app_some (by simpa using this)]; rfl
theorem appTake (h : okL b ok l) {i : Nat} (hi : i < l.length) {x : α} (hx : x = l[i]) (hb : 1 ≤ b := by decide) : app b (l.take i) [x] = some (l.take (i + 1)) := by
  have h1 := okSz h hb
  have h2 : (l.take i).length + [x].length ≤ l.length := by rw [List.length_take]; simp only [List.length_cons, List.length_nil]; omega
  rw [app_some ⟨Nat.le_trans (Nat.mul_le_mul_right b h2) h1.1, by omega⟩, List.take_succ_eq_append_getElem hi, hx]
theorem setSame {i : Nat} (hi : i < l.length) {x : α} (hx : x = l[i]) : l.set ((i : Int)).toNat x = l := by
  rw [Int.toNat_natCast, hx, List.set_getElem_self]
end
theorem clPlayer {l : List SPlayer} (h : okL 152 okSPlayer l) : slices_Clone_api_Player_api_Player l = some l := if_pos (okSz h)
theorem clInt {l : List Int} (h : okL 8 (okI .i64) l) : slices_Clone_int_int l = some l := if_pos (okSz h)
theorem clObject {l : List SObject} (h : okL 128 okSObject l) : slices_Clone_api_Object_api_Object l = some l := if_pos (okSz h)
theorem clItem {l : List SItem} (h : okL 824 okSItem l) : slices_Clone_api_Item_api_Item l = some l := if_pos (okSz h)
theorem clMod {l : List SMod} (h : okL 176 okSMod l) : slices_Clone_api_Mod_api_Mod l = some l := if_pos (okSz h)
theorem clSpec {l : List SSpec} (h : okL 144 okSSpec l) : slices_Clone_api_Spec_api_Spec l = some l := if_pos (okSz h)
theorem clEffect {l : List SEffect} (h : okL 560 okSEffect l) : slices_Clone_api_Effect_api_Effect l = some l := if_pos (okSz h)
theorem clTarget {l : List STarget} (h : okL 16 okSTarget l) : slices_Clone_api_Target_api_Target l = some l := if_pos (okSz h)
theorem clWaiting {l : List SWaiting} (h : okL 768 okSWaiting l) : slices_Clone_api_Waiting_api_Waiting l = some l := if_pos (okSz h)
theorem clCont {l : List SCont} (h : okL 80 okSCont l) : slices_Clone_api_Cont_api_Cont l = some l := if_pos (okSz h)
theorem cpPlayer {x : SPlayer} (h : okSPlayer x) : zone_copyPlayer x = some x := by
  unfold okSPlayer at h
  unfold zone_copyPlayer
  rw [clInt h.2.2.2.2.2.2.1]
  simp only [Option.bind_some]
  rw [clInt h.2.2.2.2.2.2.2.1]
  simp only [Option.bind_some]
  rw [clInt h.2.2.2.2.2.2.2.2.1]
  rfl
theorem cpAbility {x : SAbility} (h : okSAbility x) : zone_copyAbility x = some x := by
  unfold okSAbility at h
  have he := h.2.2.2.2.2.2.2.2.1
  unfold zone_copyAbility
  rw [clMod h.2.2.1]
  simp only [Option.bind_some]
  rw [clSpec h.2.2.2.2.2.2.2.1]
  simp only [Option.bind_some]
  rw [clEffect he]
  simp only [Option.bind_some]
  refine loopA (S := fun i => ((i : Int), x.Effects)) (r := x.Effects) x.Effects.length (okLen he) rfl (fun i hi => ?_) ?_ rfl
  · have hx := okAt he hi
    unfold okSEffect at hx
    dsimp only
    unfold zone_copyAbility_B11
    rw [if_pos (by simpa using hi), idx_nat hi]
    simp only [Option.bind_some]
    rw [clMod hx.2.2.2.2.2.2.2.2.1]
    simp only [Option.bind_some]
    rw [setSame hi rfl, wrap64_id (by omega) (by have := okLen he; omega)]
    rfl
  · dsimp only
    unfold zone_copyAbility_B11
    rw [if_neg (by simp)]
theorem rInts {l : List Int} (h : okL 8 (okI .i64) l) : r25_ints l = some l := by
  unfold r25_ints; rw [appNil h]; rfl
theorem rAbility {x : SAbility} (h : okSAbility x) : r25_ability x = some x := by
  unfold okSAbility at h
  have he := h.2.2.2.2.2.2.2.2.1
  unfold r25_ability
  rw [appNil h.2.2.1, appNil h.2.2.2.2.2.2.2.1]
  simp only [Option.bind_some]
  refine loopA (S := fun i => ((i : Int), x.Effects.take i)) (r := x.Effects) x.Effects.length (okLen he) rfl (fun i hi => ?_) ?_ rfl
  · have hx := okAt he hi
    unfold okSEffect at hx
    dsimp only
    unfold r25_ability_B10
    rw [if_pos (by simpa using hi), idx_nat hi]
    simp only [Option.bind_some]
    rw [appNil hx.2.2.2.2.2.2.2.2.1]
    simp only [Option.bind_some]
    rw [appTake he hi rfl, wrap64_id (by omega) (by have := okLen he; omega)]
    rfl
  · dsimp only
    unfold r25_ability_B10
    rw [if_neg (by simp), List.take_length]
theorem zCopy {s : SState} (ho : okSState s) : zone_Copy s = some s := by
  unfold okSState at ho
  obtain ⟨hp, hob, hbf, hex, hst, hwa, hco, _, _, _, _, _, _, _, _, _, hxt, _⟩ := ho
  unfold zone_Copy
  rw [clPlayer hp]
  simp only [Option.bind_some]
  refine loopA (S := fun i => ((i : Int), s.Players)) (r := s.Players) s.Players.length (okLen hp) rfl (fun i hi => ?_) ?_ ?_
  · dsimp only
    unfold zone_Copy_B63
    rw [if_pos (by simpa using hi), idx_nat hi]
    simp only [Option.bind_some]
    rw [cpPlayer (okAt hp hi)]
    simp only [Option.bind_some]
    rw [setSame hi rfl, wrap64_id (by omega) (by have := okLen hp; omega)]
    rfl
  · dsimp only
    unfold zone_Copy_B63
    rw [if_neg (by simp)]
  unfold zone_Copy_J3
  rw [clObject hob, clInt hbf, clInt hex, clItem hst]
  simp only [Option.bind_some]
  refine loopA (S := fun i => ((i : Int), s.Stack)) (r := s.Stack) s.Stack.length (okLen hst) rfl (fun i hi => ?_) ?_ ?_
  · have hx := okAt hst hi
    unfold okSItem at hx
    dsimp only
    unfold zone_Copy_B48
    rw [if_pos (by simpa using hi), idx_nat hi]
    simp only [Option.bind_some]
    rw [cpAbility hx.2.2.2.2.2.2.1]
    simp only [Option.bind_some]
    rw [setSame hi rfl, idx_nat hi]
    simp only [Option.bind_some]
    rw [clTarget hx.2.2.2.2.2.2.2.1]
    simp only [Option.bind_some]
    rw [setSame hi rfl, wrap64_id (by omega) (by have := okLen hst; omega)]
    rfl
  · dsimp only
    unfold zone_Copy_B48
    rw [if_neg (by simp)]
  unfold zone_Copy_J9
  rw [clWaiting hwa]
  simp only [Option.bind_some]
  refine loopA (S := fun i => ((i : Int), s.Waiting)) (r := s.Waiting) s.Waiting.length (okLen hwa) rfl (fun i hi => ?_) ?_ ?_
  · have hx := okAt hwa hi
    unfold okSWaiting at hx
    dsimp only
    unfold zone_Copy_B37
    rw [if_pos (by simpa using hi), idx_nat hi]
    simp only [Option.bind_some]
    rw [cpAbility hx.2.2.1]
    simp only [Option.bind_some]
    rw [setSame hi rfl, wrap64_id (by omega) (by have := okLen hwa; omega)]
    rfl
  · dsimp only
    unfold zone_Copy_B37
    rw [if_neg (by simp)]
  unfold zone_Copy_J12
  rw [clCont hco]
  simp only [Option.bind_some]
  refine loopA (S := fun i => ((i : Int), s.Conts)) (r := s.Conts) s.Conts.length (okLen hco) rfl (fun i hi => ?_) ?_ ?_
  · have hx := okAt hco hi
    unfold okSCont at hx
    dsimp only
    unfold zone_Copy_B22
    rw [if_pos (by simpa using hi), idx_nat hi]
    simp only [Option.bind_some]
    rw [clInt hx.2.2.2.2.1]
    simp only [Option.bind_some]
    rw [setSame hi rfl, idx_nat hi]
    simp only [Option.bind_some]
    rw [clMod hx.2.2.2.2.2.1]
    simp only [Option.bind_some]
    rw [setSame hi rfl, wrap64_id (by omega) (by have := okLen hco; omega)]
    rfl
  · dsimp only
    unfold zone_Copy_B22
    rw [if_neg (by simp)]
  unfold zone_Copy_J15
  rw [clInt hxt]
  rfl
theorem rCopy {s : SState} (ho : okSState s) : r25_Copy s = some s := by
  unfold okSState at ho
  obtain ⟨hp, hob, hbf, hex, hst, hwa, hco, _, _, _, _, _, _, _, _, _, hxt, _⟩ := ho
  unfold r25_Copy
  refine loopA (S := fun i => ((i : Int), s.Players.take i)) (r := s.Players) s.Players.length (okLen hp) rfl (fun i hi => ?_) ?_ ?_
  · have hx := okAt hp hi
    unfold okSPlayer at hx
    dsimp only
    unfold r25_Copy_B50
    rw [if_pos (by simpa using hi), idx_nat hi]
    simp only [Option.bind_some]
    rw [rInts hx.2.2.2.2.2.2.1]
    simp only [Option.bind_some]
    rw [rInts hx.2.2.2.2.2.2.2.1]
    simp only [Option.bind_some]
    rw [rInts hx.2.2.2.2.2.2.2.2.1]
    simp only [Option.bind_some]
    rw [appTake hp hi rfl, wrap64_id (by omega) (by have := okLen hp; omega)]
    rfl
  · dsimp only
    unfold r25_Copy_B50
    rw [if_neg (by simp), List.take_length]
  unfold r25_Copy_J2
  rw [appNil hob, rInts hbf, rInts hex]
  simp only [Option.bind_some]
  refine loopA (S := fun i => ((i : Int), s.Stack.take i)) (r := s.Stack) s.Stack.length (okLen hst) rfl (fun i hi => ?_) ?_ ?_
  · have hx := okAt hst hi
    unfold okSItem at hx
    dsimp only
    unfold r25_Copy_B39
    rw [if_pos (by simpa using hi), idx_nat hi]
    simp only [Option.bind_some]
    rw [rAbility hx.2.2.2.2.2.2.1]
    simp only [Option.bind_some]
    rw [appNil hx.2.2.2.2.2.2.2.1]
    simp only [Option.bind_some]
    rw [appTake hst hi rfl, wrap64_id (by omega) (by have := okLen hst; omega)]
    rfl
  · dsimp only
    unfold r25_Copy_B39
    rw [if_neg (by simp), List.take_length]
  unfold r25_Copy_J7
  refine loopA (S := fun i => ((i : Int), s.Waiting.take i)) (r := s.Waiting) s.Waiting.length (okLen hwa) rfl (fun i hi => ?_) ?_ ?_
  · have hx := okAt hwa hi
    unfold okSWaiting at hx
    dsimp only
    unfold r25_Copy_B29
    rw [if_pos (by simpa using hi), idx_nat hi]
    simp only [Option.bind_some]
    rw [rAbility hx.2.2.1]
    simp only [Option.bind_some]
    rw [appTake hwa hi rfl, wrap64_id (by omega) (by have := okLen hwa; omega)]
    rfl
  · dsimp only
    unfold r25_Copy_B29
    rw [if_neg (by simp), List.take_length]
  unfold r25_Copy_J9
  refine loopA (S := fun i => ((i : Int), s.Conts.take i)) (r := s.Conts) s.Conts.length (okLen hco) rfl (fun i hi => ?_) ?_ ?_
  · have hx := okAt hco hi
    unfold okSCont at hx
    dsimp only
    unfold r25_Copy_B18
    rw [if_pos (by simpa using hi), idx_nat hi]
    simp only [Option.bind_some]
    rw [rInts hx.2.2.2.2.1]
    simp only [Option.bind_some]
    rw [appNil hx.2.2.2.2.2.1]
    simp only [Option.bind_some]
    rw [appTake hco hi rfl, wrap64_id (by omega) (by have := okLen hco; omega)]
    rfl
  · dsimp only
    unfold r25_Copy_B18
    rw [if_neg (by simp), List.take_length]
  unfold r25_Copy_J11
  rw [rInts hxt]
  rfl
/-- A state with its end set. -/
def ended (s : SState) (o w : Int) : SState := { { s with Over := o } with Winner := w }
def winS (s : SState) (p : Int) : SState := if s.Over = 0 ∧ 0 ≤ p ∧ p < (s.Players.length : Int) then ended s 1 p else s
def drawS (s : SState) : SState := if s.Over = 0 then ended s 2 (-1) else s
theorem okEnded {s : SState} (ho : okSState s) {o w : Int} (h1 : okI .i64 o) (h2 : okI .i64 w) : okSState (ended s o w) := by
  unfold okSState ended at *
  obtain ⟨a1, a2, a3, a4, a5, a6, a7, a8, a9, a10, a11, a12, a13, a14, a15, a16, a17, a18, a19, a20⟩ := ho
  exact ⟨a1, a2, a3, a4, a5, a6, a7, a8, a9, a10, a11, a12, a13, a14, a15, a16, a17, h1, h2, a20⟩
theorem okWin {s : SState} (ho : okSState s) {p : Int} (hp : okI .i64 p) : okSState (winS s p) := by
  unfold winS
  split
  · exact okEnded ho (by unfold okI; rfl) hp
  · exact ho
theorem okDraw {s : SState} (ho : okSState s) : okSState (drawS s) := by
  unfold drawS
  split
  · exact okEnded ho (by unfold okI; rfl) (by unfold okI; rfl)
  · exact ho
theorem win1 {s : SState} (ho : okSState s) (p : Int) : state_Wins s p = some (winS s p) := by
  unfold state_Wins winS state_Wins_J3
  rw [zCopy ho]
  simp only [Option.bind_some, ifA]
  by_cases h : s.Over = 0 ∧ 0 ≤ p ∧ p < (s.Players.length : Int)
  · rw [if_pos h, if_pos (by simp; omega)]; rfl
  · rw [if_neg h, if_neg (by simp; omega)]
theorem win2 {s : SState} (ho : okSState s) (p : Int) : r26_Wins s p = some (winS s p) := by
  unfold r26_Wins winS r26_Wins_J3
  rw [rCopy ho, plI ho]
  simp only [Option.bind_some, ifA, gdB, bT]
  by_cases h : s.Over = 0 ∧ 0 ≤ p ∧ p < (s.Players.length : Int)
  · rw [if_pos h, if_pos (by simp; omega)]; rfl
  · rw [if_neg h, if_neg (by simp; omega)]
theorem draw1 {s : SState} (ho : okSState s) : state_Draws s = some (drawS s) := by
  unfold state_Draws drawS state_Draws_J3
  rw [zCopy ho]
  simp only [Option.bind_some]
  by_cases h : s.Over = 0
  · rw [if_pos h, if_pos (by simpa using h)]; rfl
  · rw [if_neg h, if_neg (by simpa using h)]
theorem draw2 {s : SState} (ho : okSState s) : r26_Draws s = some (drawS s) := by
  unfold r26_Draws drawS r26_Draws_J3
  rw [rCopy ho]
  simp only [Option.bind_some]
  by_cases h : s.Over = 0
  · rw [if_pos h, if_pos (by simpa using h)]; rfl
  · rw [if_neg h, if_neg (by simpa using h)]
theorem law_StateEnds {s : SState} {p : Int} (ho : okSState s) (hp : okI .i64 p) : law26_StateEnds s p = some true := by
  unfold law26_StateEnds
  obtain ⟨c, hc⟩ := lightT ho
  have hw := okWin ho hp
  have hw0 := okWin hw (p := 0) (by unfold okI; rfl)
  have hd := okDraw ho
  have hdw := okDraw hw
  simp only [hc, win1 ho, win2 ho, draw1 ho, draw2 ho, win1 hw, win2 hw, draw1 hw, draw2 hw, gdS, alive26, Option.bind_some]
  cases c
  · simp
  · simp only [refSame hw, refSame hw0, refSame hd, refSame hdw, gdS, Option.bind_some, Bool.not_true, Bool.not_false, Bool.false_eq_true, if_false, if_true, decide_true, beq_self_eq_true]
    have e : (if (s.Over != 0) = true then true else (drawS s).Over == 2) = true := by
      by_cases h : s.Over = 0
      · rw [if_neg (by simpa using h)]
        unfold drawS; rw [if_pos h]; rfl
      · rw [if_pos (by simpa using h)]
    rw [e]
    rfl
end Go.PL
