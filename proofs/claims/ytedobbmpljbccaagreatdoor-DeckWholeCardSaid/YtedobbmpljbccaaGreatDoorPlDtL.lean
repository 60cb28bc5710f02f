/- Functions that answer: proofs. -/
import Derived.Test.YtedobbmpljbccaaGreatDoorPlPtoPlPn
import Derived.Test.YtedobbmpljbccaaGreatDoorPlDkD
namespace Go.PL
open Go
set_option maxRecDepth 100000
set_option linter.all false
set_option maxHeartbeats 2000000
def lkSLine (x : SLine) : Prop := lkL 16 lkS x.Subs ∧ True
theorem lkSLine_Subs {x : SLine} (h : lkSLine x) : lkL 16 lkS x.Subs := h.1
theorem lkSLine_ok {x : SLine} (h : okSLine x) : lkSLine x := ⟨(lkL_ok fun _ h => lkS_ok h) (h.2.2.1), trivial⟩
def lkSFilter (x : SFilter) : Prop := lkS x.Sub ∧ True
theorem lkSFilter_Sub {x : SFilter} (h : lkSFilter x) : lkS x.Sub := h.1
theorem lkSFilter_ok {x : SFilter} (h : okSFilter x) : lkSFilter x := ⟨lkS_ok (h.2.2.2.2.2.2.2.1), trivial⟩
def lkSMod (x : SMod) : Prop := lkS x.Sub ∧ lkSFilter x.Filter ∧ True
theorem lkSMod_Sub {x : SMod} (h : lkSMod x) : lkS x.Sub := h.1
theorem lkSMod_Filter {x : SMod} (h : lkSMod x) : lkSFilter x.Filter := h.2.1
theorem lkSMod_ok {x : SMod} (h : okSMod x) : lkSMod x := ⟨lkS_ok (h.2.2.2.1), lkSFilter_ok (h.2.2.2.2.1), trivial⟩
def lkSTrigger (x : STrigger) : Prop := lkSFilter x.Filter ∧ True
theorem lkSTrigger_Filter {x : STrigger} (h : lkSTrigger x) : lkSFilter x.Filter := h.1
theorem lkSTrigger_ok {x : STrigger} (h : okSTrigger x) : lkSTrigger x := ⟨lkSFilter_ok (h.2.2.1), trivial⟩
def lkSSpec (x : SSpec) : Prop := lkSFilter x.Filter ∧ True
theorem lkSSpec_Filter {x : SSpec} (h : lkSSpec x) : lkSFilter x.Filter := h.1
theorem lkSSpec_ok {x : SSpec} (h : okSSpec x) : lkSSpec x := ⟨lkSFilter_ok (h.2.2.1), trivial⟩
def lkSRef (x : SRef) : Prop := lkSFilter x.Filter ∧ True
theorem lkSRef_Filter {x : SRef} (h : lkSRef x) : lkSFilter x.Filter := h.1
theorem lkSRef_ok {x : SRef} (h : okSRef x) : lkSRef x := ⟨lkSFilter_ok (h.2.2.1), trivial⟩
def lkSAmount (x : SAmount) : Prop := lkSFilter x.Filter ∧ True
theorem lkSAmount_Filter {x : SAmount} (h : lkSAmount x) : lkSFilter x.Filter := h.1
theorem lkSAmount_ok {x : SAmount} (h : okSAmount x) : lkSAmount x := ⟨lkSFilter_ok (h.2.2.2.1), trivial⟩
def lkSEffect (x : SEffect) : Prop := lkSRef x.Ref ∧ lkSAmount x.Amount ∧ lkS x.Card ∧ lkSFilter x.Filter ∧ lkL 176 lkSMod x.Mods ∧ True
theorem lkSEffect_Ref {x : SEffect} (h : lkSEffect x) : lkSRef x.Ref := h.1
theorem lkSEffect_Amount {x : SEffect} (h : lkSEffect x) : lkSAmount x.Amount := h.2.1
theorem lkSEffect_Card {x : SEffect} (h : lkSEffect x) : lkS x.Card := h.2.2.1
theorem lkSEffect_Filter {x : SEffect} (h : lkSEffect x) : lkSFilter x.Filter := h.2.2.2.1
theorem lkSEffect_Mods {x : SEffect} (h : lkSEffect x) : lkL 176 lkSMod x.Mods := h.2.2.2.2.1
theorem lkSEffect_ok {x : SEffect} (h : okSEffect x) : lkSEffect x := ⟨lkSRef_ok (h.2.1), lkSAmount_ok (h.2.2.1), lkS_ok (h.2.2.2.2.2.1), lkSFilter_ok (h.2.2.2.2.2.2.1), (lkL_ok fun _ h => lkSMod_ok h) (h.2.2.2.2.2.2.2.2.1), trivial⟩
def lkSReplace (x : SReplace) : Prop := lkSFilter x.Filter ∧ True
theorem lkSReplace_Filter {x : SReplace} (h : lkSReplace x) : lkSFilter x.Filter := h.1
theorem lkSReplace_ok {x : SReplace} (h : okSReplace x) : lkSReplace x := ⟨lkSFilter_ok (h.2.2.1), trivial⟩
def lkSAbility (x : SAbility) : Prop := lkSFilter x.Filter ∧ lkL 176 lkSMod x.Mods ∧ lkSTrigger x.Trigger ∧ lkL 144 lkSSpec x.Specs ∧ lkL 560 lkSEffect x.Effects ∧ lkSReplace x.Replace ∧ True
theorem lkSAbility_Filter {x : SAbility} (h : lkSAbility x) : lkSFilter x.Filter := h.1
theorem lkSAbility_Mods {x : SAbility} (h : lkSAbility x) : lkL 176 lkSMod x.Mods := h.2.1
theorem lkSAbility_Trigger {x : SAbility} (h : lkSAbility x) : lkSTrigger x.Trigger := h.2.2.1
theorem lkSAbility_Specs {x : SAbility} (h : lkSAbility x) : lkL 144 lkSSpec x.Specs := h.2.2.2.1
theorem lkSAbility_Effects {x : SAbility} (h : lkSAbility x) : lkL 560 lkSEffect x.Effects := h.2.2.2.2.1
theorem lkSAbility_Replace {x : SAbility} (h : lkSAbility x) : lkSReplace x.Replace := h.2.2.2.2.2.1
theorem lkSAbility_ok {x : SAbility} (h : okSAbility x) : lkSAbility x := ⟨lkSFilter_ok (h.2.1), (lkL_ok fun _ h => lkSMod_ok h) (h.2.2.1), lkSTrigger_ok (h.2.2.2.2.2.1), (lkL_ok fun _ h => lkSSpec_ok h) (h.2.2.2.2.2.2.2.1), (lkL_ok fun _ h => lkSEffect_ok h) (h.2.2.2.2.2.2.2.2.1), lkSReplace_ok (h.2.2.2.2.2.2.2.2.2.1), trivial⟩
def lkSCard (x : SCard) : Prop := lkS x.Name ∧ lkSLine x.Line ∧ lkL 640 lkSAbility x.Abilities ∧ True
theorem lkSCard_Name {x : SCard} (h : lkSCard x) : lkS x.Name := h.1
theorem lkSCard_Line {x : SCard} (h : lkSCard x) : lkSLine x.Line := h.2.1
theorem lkSCard_Abilities {x : SCard} (h : lkSCard x) : lkL 640 lkSAbility x.Abilities := h.2.2.1
theorem lkSCard_ok {x : SCard} (h : okSCard x) : lkSCard x := ⟨lkS_ok (h.1), lkSLine_ok (h.2.2.2.2.1), (lkL_ok fun _ h => lkSAbility_ok h) (h.2.2.2.2.2.2.2.2.1), trivial⟩
def lkSDeck (x : SDeck) : Prop := lkL 8 lkT x.Cards ∧ lkL 8 lkT x.Counts ∧ True
theorem lkSDeck_ok {x : SDeck} (h : okSDeck x) : lkSDeck x := ⟨(lkL_ok fun _ _ => trivial) (h.1), (lkL_ok fun _ _ => trivial) (h.2.1), trivial⟩
def lkSFormat (x : SFormat) : Prop := lkL 16 lkS x.Banned ∧ True
theorem lkSFormat_ok {x : SFormat} (h : okSFormat x) : lkSFormat x := ⟨(lkL_ok fun _ h => lkS_ok h) (h.2.2.2.1), trivial⟩
def lkSAsk (x : SAsk) : Prop := lkL 176 lkSCard x.Cards ∧ lkSDeck x.Deck ∧ lkSFormat x.Format ∧ True
theorem lkSAsk_Cards {x : SAsk} (h : lkSAsk x) : lkL 176 lkSCard x.Cards := h.1
theorem lkSAsk_ok {x : SAsk} (h : okSAsk x) : lkSAsk x := ⟨(lkL_ok fun _ h => lkSCard_ok h) (h.1), lkSDeck_ok (h.2.1), lkSFormat_ok (h.2.2.1), trivial⟩
end Go.PL
