/- Plain law of EventTexts: names and texts of events. -/
import Derived.Test.YtlinpadogiggaaaDoorPlRtoPlPb
import Derived.Test.YtlinpadogiggaaaDoorPlTF6
import Derived.Test.YtlinpadogiggaaaDoorPlTD
namespace Go.PL
open Go
set_option maxRecDepth 100000
theorem alive_true : law32_alive = some true := by kernel_rfl
def nameB (k : Int) : Bool := (event_Name k == r32_Name k) && (match event_Name k with | some w => decide (w.length ≤ 10) | none => false)
theorem nameAll : ((List.range 17).all fun i => nameB ((i : Int) + 1)) = true := by kernel_rfl
theorem name_in {k : Int} (h : ¬ (k < 1 ∨ 17 < k)) : nameB k = true := by
  have := List.all_eq_true.1 nameAll (k - 1).toNat (by simp; omega)
  have e : (((k - 1).toNat : Nat) : Int) + 1 = k := by omega
  rwa [e] at this
theorem name_eq (k : Int) : event_Name k = r32_Name k := by
  by_cases h : k < 1 ∨ 17 < k
  · unfold event_Name r32_Name r32_names
    simp only [Option.bind_some]
    rcases h with h | h
    · simp [h]
    · have h2 : ¬ k < 1 := by omega
      have h3 : 18 ≤ k := by omega
      simp [h, h2, h3]
  · have := name_in h
    unfold nameB at this
    rw [Bool.and_eq_true] at this
    exact eq_of_beq this.1
theorem name_len (k : Int) : ∃ w, event_Name k = some w ∧ w.length ≤ 10 := by
  by_cases h : k < 1 ∨ 17 < k
  · refine ⟨[], ?_, by simp⟩
    unfold event_Name
    simp only [Option.bind_some]
    rcases h with h | h
    · simp [h]
    · have h2 : ¬ k < 1 := by omega
      simp [h, h2]
  · have := name_in h
    unfold nameB at this
    rw [Bool.and_eq_true] at this
    have h2 := this.2
    split at h2
    · rename_i w hw
      exact ⟨w, hw, of_decide_eq_true h2⟩
    · cases h2
theorem r01_text {n : Int} (h0 : -9223372036854775808 ≤ n) (h1 : n ≤ 9223372036854775807) : r01_Text n = some (Lib.itoa n) := by
  rw [← textN_eq h0 h1]; rfl
theorem num_text {n : Int} (h0 : -9223372036854775808 ≤ n) (h1 : n ≤ 9223372036854775807) : num_Text n = some (Lib.itoa n) := by
  unfold num_Text dItoa; rw [if_pos ⟨h0, h1⟩]; rfl
theorem alive_bd {n : Int} (h0 : -9223372036854775808 ≤ n) (h1 : n ≤ 9223372036854775807) : (Lib.itoa n).length ≤ 21 := itoa_le h0 h1
/-- The numbers of an event. -/
def evF (a : SEvent) : List Int := [a.Source, a.Object, a.Player, a.Amount, a.From, a.To, a.Cause, a.Counter, a.Card]
def evOk (a : SEvent) : Prop := ∀ n ∈ evF a, -9223372036854775808 ≤ n ∧ n ≤ 9223372036854775807
theorem evOk_of {a : SEvent} (h : okSEvent a) : evOk a := by
  obtain ⟨_, h1, h2, h3, h4, h5, h6, h7, h8, h9, _⟩ := h
  intro n hn
  simp only [evF, List.mem_cons, List.not_mem_nil, or_false] at hn
  rcases hn with rfl | rfl | rfl | rfl | rfl | rfl | rfl | rfl | rfl <;> exact okI_bd (by assumption)
def evT (a : SEvent) (i : Nat) : List (List UInt8) := ((evF a).take i).map Lib.itoa
def evW (a : SEvent) (w : List UInt8) (i : Nat) : List UInt8 := w ++ Lib.joinTail [32] (evT a i)
theorem evT_len (a : SEvent) {i : Nat} (h : i ≤ 9) : (evT a i).length = i := by simp [evT, evF]; omega
theorem evT_succ (a : SEvent) {i : Nat} (h : i < 9) : evT a (i + 1) = evT a i ++ [Lib.itoa ((evF a)[i]'(by simpa [evF] using h))] := by
  unfold evT
  rw [List.take_succ_eq_append_getElem (by simpa [evF] using h), List.map_append]; rfl
theorem evW_len (a : SEvent) (ok : evOk a) {w : List UInt8} (hw : w.length ≤ 10) : ∀ {i : Nat}, i ≤ 9 → (evW a w i).length ≤ 10 + 22 * i
  | 0, _ => by simpa [evW, evT, Lib.joinTail] using hw
  | i + 1, h => by
    have ih := evW_len a ok hw (i := i) (by omega)
    have hb := ok _ (List.getElem_mem (by simp [evF]; omega : i < (evF a).length))
    have := itoa_le hb.1 hb.2
    unfold evW at ih ⊢
    rw [evT_succ a (by omega)]
    simp only [Lib.joinTail, List.map_append, List.flatten_append, List.length_append, List.map_cons, List.map_nil, List.flatten_cons, List.flatten_nil, List.length_nil, List.length_cons] at ih ⊢
    omega
theorem event_loop (a : SEvent) (ok : evOk a) {w : List UInt8} (hw : w.length ≤ 10) : event_Text_J3 a [w] = some (evW a w 9) := by
  unfold event_Text_J3
  rw [iter_at (B := fun (v : Int × (List (List UInt8))) => event_Text_B12 a v.1 v.2) (fun i => ((i : Int), w :: evT a i)) (r := w :: evT a 9) 9 (by omega) ?_ ?_ (s0 := ((0 : Int), [w])) rfl]
  · simp only [Option.bind_some]
    unfold event_Text_J5 dJoin
    have e : Lib.join (w :: evT a 9) str_x20 = evW a w 9 := Lib.join_cons _ _ _
    have hl := evW_len a ok hw (i := 9) (by omega)
    rw [e, if_pos ⟨by simp [evT_len a (Nat.le_refl 9)], by omega⟩]
    rfl
  · intro i hi
    have hb := ok _ (List.getElem_mem (by simp [evF]; omega : i < (evF a).length))
    show event_Text_B12 a (i : Int) (w :: evT a i) = _
    unfold event_Text_B12
    rw [if_pos (by simp; omega)]
    have e1 : idx (⟨a.Source, a.Object, a.Player, a.Amount, a.From, a.To, a.Cause, a.Counter, a.Card⟩ : A9 (Int)).l (i : Int) = some ((evF a)[i]'(by simpa [evF] using hi)) := idx_nat (l := evF a) (by simpa [evF] using hi)
    rw [e1]
    simp only [Option.bind_some]
    rw [num_text hb.1 hb.2]
    simp only [Option.bind_some]
    rw [app_some (by simp [evT_len a (by omega : i ≤ 9), maxLen]; omega), wrap64_id (by omega) (by omega), evT_succ a hi]
    rfl
  · show event_Text_B12 a ((9 : Nat) : Int) (w :: evT a 9) = _
    rfl
theorem r32_loop (a : SEvent) (ok : evOk a) {w : List UInt8} (hw : w.length ≤ 10) : r32_Text_J3 a w = some (evW a w 9) := by
  unfold r32_Text_J3
  rw [iter_at (B := fun (v : (List UInt8) × Int) => r32_Text_B11 a v.1 v.2) (fun i => (evW a w i, (i : Int))) (r := evW a w 9) 9 (by omega) ?_ ?_ ?_]
  · rfl
  · intro i hi
    have hb := ok _ (List.getElem_mem (by simp [evF]; omega : i < (evF a).length))
    have hl := itoa_le hb.1 hb.2
    have hw' := evW_len a ok hw (i := i) (by omega)
    show r32_Text_B11 a (evW a w i) (i : Int) = _
    unfold r32_Text_B11
    rw [if_pos (by simp; omega)]
    have e1 : idx ([a.Source, a.Object, a.Player, a.Amount, a.From, a.To, a.Cause, a.Counter, a.Card] : List (Int)) (i : Int) = some ((evF a)[i]'(by simpa [evF] using hi)) := idx_nat (l := evF a) (by simpa [evF] using hi)
    rw [e1]
    simp only [Option.bind_some]
    rw [r01_text hb.1 hb.2]
    simp only [Option.bind_some]
    have hx : str_x20.length = 1 := rfl
    rw [cat_some (by rw [hx]; simp [maxLen]; omega)]
    simp only [Option.bind_some]
    rw [cat_some (by simp only [List.length_append, hx, maxLen]; omega), wrap64_id (by omega) (by omega)]
    simp only [Option.bind_some]
    have e2 : evW a w i ++ (str_x20 ++ Lib.itoa ((evF a)[i]'(by simpa [evF] using hi))) = evW a w (i + 1) := by
      unfold evW
      rw [evT_succ a hi]
      simp only [Lib.joinTail, List.map_append, List.flatten_append, List.map_cons, List.map_nil, List.flatten_cons, List.flatten_nil, List.append_nil, List.append_assoc]
      rfl
    rw [e2]
    rfl
  · show r32_Text_B11 a (evW a w 9) ((9 : Nat) : Int) = _
    rfl
  · simp [evW, evT, Lib.joinTail]
theorem text_eq (a : SEvent) (ok : evOk a) : ∃ t, event_Text a = some t ∧ r32_Text a = some t := by
  obtain ⟨w, hw, hl⟩ := name_len a.Kind
  have hw2 := hw; rw [name_eq] at hw2
  unfold event_Text r32_Text
  rw [hw, hw2]
  simp only [Option.bind_some]
  have e : idx ([w] : List (List UInt8)) (0 : Int) = some w := rfl
  rw [e]
  simp only [Option.bind_some]
  by_cases h : w = []
  · subst h
    have hx : (([] : List UInt8) == []) = true := rfl
    rw [if_pos hx, if_pos hx]
    exact ⟨_, event_loop a ok (w := str_x3f) (by decide), r32_loop a ok (w := str_x3f) (by decide)⟩
  · have hf : (w == []) = false := by simpa using h
    simp only [hf]
    exact ⟨_, event_loop a ok hl, r32_loop a ok hl⟩
theorem law_EventTexts (a : SEvent) (ok : evOk a) : law32_EventTexts a = some true := by
  obtain ⟨w, hw, _⟩ := name_len a.Kind
  have hw2 := hw; rw [name_eq] at hw2
  obtain ⟨t, h1, h2⟩ := text_eq a ok
  unfold law32_EventTexts
  rw [alive_true, hw, hw2, h1, h2]
  simp [gd]
end Go.PL
