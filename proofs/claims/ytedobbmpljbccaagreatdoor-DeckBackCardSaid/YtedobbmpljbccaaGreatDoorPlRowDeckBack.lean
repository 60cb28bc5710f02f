/- The row and the card of DeckBack. -/
import Derived.Test.YtedobbmpljbccaaGreatDoorPlDkO
import Derived.Test.YtedobbmpljbccaaGreatDoorPlDkD
import Derived.Test.YtedobbmpljbccaaGreatDoorPlPtoPlPn
import Derived.Test.YtedobbmpljbccaaGreatDoorPlPotoPlPd
import Derived.Test.YtedobbmpljbccaaGreatDoorTie
import Derived.Test.YtedobbmpljbccaaGreatDoorCards
namespace Go.Proofs.YtedobbmpljbccaaGreatDoor
open Go.ChangeShapes Go.WideShapes Go.ChangeAt Go.RowKit Go.PL Go.ChangeMaps
set_option linter.all false
theorem own : ownKnob Tryz.prog.godebug = none := by kernel_rfl
theorem laidOut : laidOutB Tryz.prog = true := by kernel_rfl
theorem gPow : Tryz.prog.globalNamed "internal/strconv.uint64pow10" = some 3 := by kernel_rfl
theorem tPow : (Tryz.prog.globals[3]?).map (·.type) = some 159 := by kernel_rfl
theorem cPow : Tryz.prog.cellsOf 159 = 20 := by kernel_rfl
theorem cPe : Tryz.prog.cellsOf 77 = 1 := by kernel_rfl
theorem gSyntax : Tryz.prog.globalNamed "strconv.ErrSyntax" = some 1 := by kernel_rfl
theorem gRange : Tryz.prog.globalNamed "strconv.ErrRange" = some 2 := by kernel_rfl
theorem tSyntax : (Tryz.prog.globals[1]?).map (·.type) = some 58 := by kernel_rfl
theorem tRange : (Tryz.prog.globals[2]?).map (·.type) = some 58 := by kernel_rfl
theorem inv_of_laid {W : World} (h : laidMetH Tryz.prog Rows.deckBackRow.laid W) : I0 W := by
  rw [MakeChecks.laidMetH_plain _ _ _ (by kernel_rfl)] at h
  have hp := h.filter (fun x => x.1 == "internal/strconv.uint64pow10")
  have hs := h.filter (fun x => x.1 == "strconv.ErrSyntax")
  have hr := h.filter (fun x => x.1 == "strconv.ErrRange")
  exact ⟨Lib.tabIs_of_head (rest := []) gPow tPow Tryz.underlying159 Tryz.underlying77 cPe cPow hp, var_iface (rest := []) gSyntax tSyntax Tryz.underlying58 hs, var_iface (rest := []) gRange tRange Tryz.underlying58 hr⟩
theorem deckBack_q0 : (Rows.deckBackRow.wf (OpenSpec.ofChange Rows.deckBackSpec)) = true := by kernel_rfl
theorem deckBack_q1 : (laidOutB Tryz.prog) = true := by kernel_rfl
theorem deckBack_q2 : (mapsRowed Tryz.prog) = true := by kernel_rfl
theorem deckBack_q3 : (Tryz.f5.params.all (Tryz.prog.readableRec ·)) = true := by kernel_rfl
theorem deckBack_q4 : (namedTie Tryz.prog Rows.deckBackRow.named Rows.deckBackSpec.vars) = true := by kernel_rfl
theorem deckBack_q5 : ((Rows.deckBackRow.stops == [])) = true := by kernel_rfl
theorem deckBack_q6 : ((Tryz.prog.stops == [])) = true := by kernel_rfl
theorem deckBack_q7 : ((Rows.deckBackRow.knobs == [])) = true := by kernel_rfl
theorem deckBack_q8 : ((Tryz.prog.stopKnobs == [])) = true := by kernel_rfl
theorem deckBack_q9 : ((Rows.deckBackRow.inPlace == Tryz.prog.inPlace 5)) = true := by kernel_rfl
theorem deckBack_q10 : ((Rows.deckBackRow.unfollowed == Tryz.prog.unfollowed 5)) = true := by kernel_rfl
theorem deckBack_q11 : ((Rows.deckBackRow.recurses == Tryz.prog.recurses 5)) = true := by kernel_rfl
theorem deckBack_q12 : ((Rows.deckBackRow.named == Tryz.prog.varsNamed 5)) = true := by kernel_rfl
theorem deckBack_q13 : ((Rows.deckBackRow.maps == (Tryz.f5.params.toList ++ Rows.deckBackSpec.plain.varTypes Tryz.prog).any (Tryz.prog.mapsRec ·))) = true := by kernel_rfl
theorem deckBack_q14 : ((Rows.deckBackRow.ifaces == (Tryz.f5.params.toList ++ Rows.deckBackSpec.plain.varTypes Tryz.prog).any (Tryz.prog.ifacesRec ·))) = true := by kernel_rfl
theorem deckBack_q15 : ((Rows.deckBackRow.mapsOut == Tryz.prog.mapsAmong Tryz.f5.resultTypes.toList)) = true := by kernel_rfl
theorem deckBack_q16 : ((Rows.deckBackRow.loops == (Tryz.f5.params.toList ++ Rows.deckBackSpec.plain.varTypes Tryz.prog).any (Tryz.prog.loopsFrom ·))) = true := by kernel_rfl
theorem deckBack_q17 : ((Rows.deckBackRow.wideKeys == (Tryz.f5.params.toList ++ Rows.deckBackSpec.plain.varTypes Tryz.prog ++ Tryz.f5.resultTypes.toList).any (Tryz.prog.wideKeysFrom ·))) = true := by kernel_rfl
theorem deckBack_q18 : (Rows.deckBackSpec.vars.all (Tryz.prog.varReadable ·)) = true := by kernel_rfl
theorem deckBack_q19 : (Tryz.f5.resultTypes.all (fun t => Tryz.prog.readableRec t && decide (t < Tryz.prog.types.size))) = true := by kernel_rfl
theorem deckBack_q20 : ((Rows.deckBackRow.ifacesOut == Tryz.f5.resultTypes.toList.any (Tryz.prog.ifacesRec ·))) = true := by kernel_rfl
theorem deckBack_q21 : ((Rows.deckBackRow.loopsOut == Tryz.f5.resultTypes.toList.any (Tryz.prog.loopsFrom ·))) = true := by kernel_rfl
theorem deckBack_q22 : ((Rows.deckBackRow.plainKeys == Tryz.prog.plainKeys)) = true := by kernel_rfl
theorem deckBack_q23 : (Rows.deckBackRow.shortTexts.isNone) = true := by kernel_rfl
theorem deckBack_q24 : (Tryz.prog.stopsHeard) = true := by kernel_rfl
theorem deckBack_q25 : (Tryz.prog.mayEnter) = true := by kernel_rfl
theorem deckBack_q26 : ((Rows.deckBackRow.lifted == Tryz.prog.liftsFinal)) = true := by kernel_rfl
theorem deckBack_q27 : ((Tryz.prog.make == some Rows.deckBackRow.make)) = true := by kernel_rfl
theorem deckBack_q28 : (Rows.deckBackRow.domain.isEmpty && (Rows.deckBackRow.kinds == [])) = true := by kernel_rfl
theorem deckBack_q29 : ((Rows.deckBackRow.pinned == Rows.deckBackRow.pinnedBy)) = true := by kernel_rfl
theorem deckBack_q30 : ((Rows.deckBackRow.veiled == (Tryz.f5.params.toList ++ Rows.deckBackSpec.plain.varTypes Tryz.prog ++ Tryz.f5.resultTypes.toList).any (Tryz.prog.veiledRec ·))) = true := by kernel_rfl
theorem deckBack_q31 : (Rows.deckBackRow.veiledFits Tryz.prog Tryz.f5.params.toList (Tryz.f5.params.toList ++ Rows.deckBackSpec.plain.varTypes Tryz.prog ++ Tryz.f5.resultTypes.toList)) = true := by kernel_rfl
theorem deckBack_joined : joinedFacts Tryz.prog 5 Tryz.f5 Rows.deckBackSpec Rows.deckBackRow = true := joined_of deckBack_q0 deckBack_q1 deckBack_q2 deckBack_q3 deckBack_q4 deckBack_q5 deckBack_q6 deckBack_q7 deckBack_q8 deckBack_q9 deckBack_q10 deckBack_q11 deckBack_q12 deckBack_q13 deckBack_q14 deckBack_q15 deckBack_q16 deckBack_q17 deckBack_q18 deckBack_q19 deckBack_q20 deckBack_q21 deckBack_q22 deckBack_q23 deckBack_q24 deckBack_q25 deckBack_q26 deckBack_q27 deckBack_q28 deckBack_q29 deckBack_q30 deckBack_q31

theorem deckBack_rd : (Tryz.f5.params.toList.all fun t => Tryz.prog.readableRec t && decide (t < Tryz.prog.types.size)) = true := by kernel_rfl
set_option maxRecDepth 100000 in
theorem deckBack_lifted (os : Os) (started : os.Started) (H : Type) (enc : TypeId × Value → H) :
    ReturnsInHanded {} Tryz.checked os 5 .any (fun w args => (Rows.deckBackSpec.pre enc Tryz.prog Tryz.f5 [] false w args ∧ laidMetH Tryz.prog Rows.deckBackRow.laid w) ∧ sizedMet enc Tryz.prog Tryz.f5 (OpenSpec.ofChange Rows.deckBackSpec) false w args)
      (Rows.deckBackSpec.post enc Tryz.prog Tryz.f5 false true false false) := by
  refine returnsInHanded_of_change_and (C := Tryz.checked) (X := fun w _ => laidMetH Tryz.prog Rows.deckBackRow.laid w) (fun _ _ _ hh h => h.of_heap hh) own started (by kernel_rfl) Tryz.func5
    (ChangeSpec.witness_shaped (enc := enc) (C := Tryz.checked) (os := os) (X := fun w _ => laidMetH Tryz.prog Rows.deckBackRow.laid w) false (World.laidAll Tryz.prog os Rows.deckBackRow.laid) #[.agg #[.slice none 0 0, .slice none 0 0, .slice none 0 0, .int .i64 0, .int .i64 0, .int .i64 0, .slice none 0 0]] 8 (World.laidAll_os _ _ _)
      (World.shaped_of_ZipB (by kernel_rfl) (by kernel_rfl)) (by kernel_rfl) (by kernel_rfl) (by kernel_rfl)
      (by rw [MakeChecks.laidMetH_plain _ _ _ (by kernel_rfl)]; exact laidMet_laidAll _ (by kernel_rfl) (by kernel_rfl))) ?_
  intro W base args ds gs before hval0 hW _ hS hL _
  have hval : ∀ (j : Nat) t v, Tryz.f5.params[j]? = some t → args[j]? = some v → Value.okWide Tryz.prog W .any base t v := hval0
  have hW' := hW
  obtain ⟨p, q, hA0, hV, rfl, _, _⟩ := hW
  have hA : DataW.TrodAll enc Tryz.prog W 0 (fun _ => true) true Tryz.f5.params.toList args.toList ds p := hA0
  have hA1 := hA
  obtain ⟨rfl, rfl⟩ := trodVars_none hV
  simp only [List.append_nil] at hW'
  have hlt : ∀ x ∈ p, x.block < W.heap.size := fun x hx => by simpa using hW'.lt x hx
  rw [Tryz.params5] at hA hval
  obtain ⟨v0, vs0, d0, ds0, p0, q0, hargs, rfl, rfl, h0, r0⟩ := trodAll_cons hA
  obtain ⟨rfl, rfl, rfl⟩ := trodAll_nil r0
  obtain rfl : args = #[v0] := by cases args; simp_all
  have hS1 : (DataW.weightsEach Tryz.prog Tryz.f5.params.toList [d0]).all (· ≤ reachBytes) = true := hS
  rw [Tryz.params5] at hS1
  obtain ⟨s0, hS1⟩ := sized_cons hS1
  obtain ⟨x0, ok0, R0⟩ := arg_agg (e := encSAsk) 20 (by kernel_rfl) Tryz.underlying30 decSAsk (hval 0 30 v0 rfl rfl) h0 s0
  refine (PCall.law (law23_DeckBack_ok (law_DeckBack (lkSAsk_ok ok0))) (inv_of_laid hL) (args := _) (by simp only [RelVs]; exact ⟨_, _, rfl, R0, rfl⟩)).mono fun e W' ⟨he, hb⟩ => ?_
  subst he
  have hB := trodAll_below laidOut hb deckBack_rd hA1 hlt
  exact ⟨_, rfl, _, _, _, [], _, [], hW', trodAll_mk1 (shut_bool Tryz.underlying4 _), hB, rfl, hb.frame _, fun h => by cases h⟩
theorem deckBack_holds : Rows.DeckBackSaid :=
  OpenClaim.holds_of_wide 5 Tryz.f5 rfl rfl rfl rfl rfl rfl rfl ⟨rfl, rfl, rfl, rfl, rfl⟩ rfl rfl rfl rfl rfl (by kernel_rfl) Tryz.func5 deckBack_joined
    (of_decide_eq_true (by kernel_rfl)) (by unfold Func.isWrapper; first | (rw [if_pos (by decide +kernel)]; kernel_rfl) | (rw [if_neg (by decide +kernel)]; exact ⟨rfl, rfl⟩))
    (fun os started H enc _ => deckBack_lifted os started H enc)
theorem deckBack_card : Rows.DeckBackCardSaid :=
  Claim7.holds_tied_plain_at .later [] _ _ _ _ deckBack_holds (fun _ h => by cases h) (by kernel_rfl) (fun _ h => by cases h) deckBack_row_tie rfl ⟨rfl, rfl⟩ (by kernel_rfl) rfl
    (fun f fn hf hfn => by
      obtain rfl : f = 5 := Option.some.inj ((show Tryz.prog.funcNamed "cardgame/cardgamelaw23.DeckBack" = some 5 by kernel_rfl).symm.trans hf) |>.symm
      obtain rfl : fn = Tryz.f5 := (Option.some.inj (Tryz.func5.symm.trans hfn)).symm
      exact ⟨by kernel_rfl, fun j t ht => by
        rw [Tryz.params5] at ht
        have hm : t ∈ [30] := by simpa using Array.mem_of_getElem? ht
        have hall : ([30].all fun u => !Tryz.prog.wantsStandIn u) = true := by kernel_rfl
        exact (show Tryz.prog.wantsStandIn t = false by simpa using List.all_eq_true.1 hall t hm)⟩)
    (by kernel_rfl)
end Go.Proofs.YtedobbmpljbccaaGreatDoor
