/- The row and the card of DeckTexts. -/
import Derived.Test.YtedobbmpljbccaaGreatDoorPlDkN
import Derived.Test.YtedobbmpljbccaaGreatDoorPlDkD
import Derived.Test.YtedobbmpljbccaaGreatDoorPlPtoPlPn
import Derived.Test.YtedobbmpljbccaaGreatDoorPlPotoPlPd
import Derived.Test.YtedobbmpljbccaaGreatDoorTie
import Derived.Test.YtedobbmpljbccaaGreatDoorCards
namespace Go.Proofs.YtedobbmpljbccaaGreatDoor
open Go.ChangeShapes Go.WideShapes Go.ChangeAt Go.RowKit Go.PL Go.ChangeMaps
set_option linter.all false
theorem own : ownKnob Tryz.prog.godebug = none := by kernel_rfl
theorem laidOut : laidOutB Tryz.prog = true := by kernel_rfl
theorem gPow : Tryz.prog.globalNamed "internal/strconv.uint64pow10" = some 3 := by kernel_rfl
theorem tPow : (Tryz.prog.globals[3]?).map (·.type) = some 159 := by kernel_rfl
theorem cPow : Tryz.prog.cellsOf 159 = 20 := by kernel_rfl
theorem cPe : Tryz.prog.cellsOf 77 = 1 := by kernel_rfl
theorem gSyntax : Tryz.prog.globalNamed "strconv.ErrSyntax" = some 1 := by kernel_rfl
theorem gRange : Tryz.prog.globalNamed "strconv.ErrRange" = some 2 := by kernel_rfl
theorem tSyntax : (Tryz.prog.globals[1]?).map (·.type) = some 58 := by kernel_rfl
theorem tRange : (Tryz.prog.globals[2]?).map (·.type) = some 58 := by kernel_rfl
theorem inv_of_laid {W : World} (h : laidMetH Tryz.prog Rows.deckTextsRow.laid W) : I0 W := by
  rw [MakeChecks.laidMetH_plain _ _ _ (by kernel_rfl)] at h
  have hp := h.filter (fun x => x.1 == "internal/strconv.uint64pow10")
  have hs := h.filter (fun x => x.1 == "strconv.ErrSyntax")
  have hr := h.filter (fun x => x.1 == "strconv.ErrRange")
  exact ⟨Lib.tabIs_of_head (rest := []) gPow tPow Tryz.underlying159 Tryz.underlying77 cPe cPow hp, var_iface (rest := []) gSyntax tSyntax Tryz.underlying58 hs, var_iface (rest := []) gRange tRange Tryz.underlying58 hr⟩
theorem deckTexts_q0 : (Rows.deckTextsRow.wf (OpenSpec.ofChange Rows.deckTextsSpec)) = true := by kernel_rfl
theorem deckTexts_q1 : (laidOutB Tryz.prog) = true := by kernel_rfl
theorem deckTexts_q2 : (mapsRowed Tryz.prog) = true := by kernel_rfl
theorem deckTexts_q3 : (Tryz.f4.params.all (Tryz.prog.readableRec ·)) = true := by kernel_rfl
theorem deckTexts_q4 : (namedTie Tryz.prog Rows.deckTextsRow.named Rows.deckTextsSpec.vars) = true := by kernel_rfl
theorem deckTexts_q5 : ((Rows.deckTextsRow.stops == [])) = true := by kernel_rfl
theorem deckTexts_q6 : ((Tryz.prog.stops == [])) = true := by kernel_rfl
theorem deckTexts_q7 : ((Rows.deckTextsRow.knobs == [])) = true := by kernel_rfl
theorem deckTexts_q8 : ((Tryz.prog.stopKnobs == [])) = true := by kernel_rfl
theorem deckTexts_q9 : ((Rows.deckTextsRow.inPlace == Tryz.prog.inPlace 4)) = true := by kernel_rfl
theorem deckTexts_q10 : ((Rows.deckTextsRow.unfollowed == Tryz.prog.unfollowed 4)) = true := by kernel_rfl
theorem deckTexts_q11 : ((Rows.deckTextsRow.recurses == Tryz.prog.recurses 4)) = true := by kernel_rfl
theorem deckTexts_q12 : ((Rows.deckTextsRow.named == Tryz.prog.varsNamed 4)) = true := by kernel_rfl
theorem deckTexts_q13 : ((Rows.deckTextsRow.maps == (Tryz.f4.params.toList ++ Rows.deckTextsSpec.plain.varTypes Tryz.prog).any (Tryz.prog.mapsRec ·))) = true := by kernel_rfl
theorem deckTexts_q14 : ((Rows.deckTextsRow.ifaces == (Tryz.f4.params.toList ++ Rows.deckTextsSpec.plain.varTypes Tryz.prog).any (Tryz.prog.ifacesRec ·))) = true := by kernel_rfl
theorem deckTexts_q15 : ((Rows.deckTextsRow.mapsOut == Tryz.prog.mapsAmong Tryz.f4.resultTypes.toList)) = true := by kernel_rfl
theorem deckTexts_q16 : ((Rows.deckTextsRow.loops == (Tryz.f4.params.toList ++ Rows.deckTextsSpec.plain.varTypes Tryz.prog).any (Tryz.prog.loopsFrom ·))) = true := by kernel_rfl
theorem deckTexts_q17 : ((Rows.deckTextsRow.wideKeys == (Tryz.f4.params.toList ++ Rows.deckTextsSpec.plain.varTypes Tryz.prog ++ Tryz.f4.resultTypes.toList).any (Tryz.prog.wideKeysFrom ·))) = true := by kernel_rfl
theorem deckTexts_q18 : (Rows.deckTextsSpec.vars.all (Tryz.prog.varReadable ·)) = true := by kernel_rfl
theorem deckTexts_q19 : (Tryz.f4.resultTypes.all (fun t => Tryz.prog.readableRec t && decide (t < Tryz.prog.types.size))) = true := by kernel_rfl
theorem deckTexts_q20 : ((Rows.deckTextsRow.ifacesOut == Tryz.f4.resultTypes.toList.any (Tryz.prog.ifacesRec ·))) = true := by kernel_rfl
theorem deckTexts_q21 : ((Rows.deckTextsRow.loopsOut == Tryz.f4.resultTypes.toList.any (Tryz.prog.loopsFrom ·))) = true := by kernel_rfl
theorem deckTexts_q22 : ((Rows.deckTextsRow.plainKeys == Tryz.prog.plainKeys)) = true := by kernel_rfl
theorem deckTexts_q23 : (Rows.deckTextsRow.shortTexts.isNone) = true := by kernel_rfl
theorem deckTexts_q24 : (Tryz.prog.stopsHeard) = true := by kernel_rfl
theorem deckTexts_q25 : (Tryz.prog.mayEnter) = true := by kernel_rfl
theorem deckTexts_q26 : ((Rows.deckTextsRow.lifted == Tryz.prog.liftsFinal)) = true := by kernel_rfl
theorem deckTexts_q27 : ((Tryz.prog.make == some Rows.deckTextsRow.make)) = true := by kernel_rfl
theorem deckTexts_q28 : (Rows.deckTextsRow.domain.isEmpty && (Rows.deckTextsRow.kinds == [])) = true := by kernel_rfl
theorem deckTexts_q29 : ((Rows.deckTextsRow.pinned == Rows.deckTextsRow.pinnedBy)) = true := by kernel_rfl
theorem deckTexts_q30 : ((Rows.deckTextsRow.veiled == (Tryz.f4.params.toList ++ Rows.deckTextsSpec.plain.varTypes Tryz.prog ++ Tryz.f4.resultTypes.toList).any (Tryz.prog.veiledRec ·))) = true := by kernel_rfl
theorem deckTexts_q31 : (Rows.deckTextsRow.veiledFits Tryz.prog Tryz.f4.params.toList (Tryz.f4.params.toList ++ Rows.deckTextsSpec.plain.varTypes Tryz.prog ++ Tryz.f4.resultTypes.toList)) = true := by kernel_rfl
theorem deckTexts_joined : joinedFacts Tryz.prog 4 Tryz.f4 Rows.deckTextsSpec Rows.deckTextsRow = true := joined_of deckTexts_q0 deckTexts_q1 deckTexts_q2 deckTexts_q3 deckTexts_q4 deckTexts_q5 deckTexts_q6 deckTexts_q7 deckTexts_q8 deckTexts_q9 deckTexts_q10 deckTexts_q11 deckTexts_q12 deckTexts_q13 deckTexts_q14 deckTexts_q15 deckTexts_q16 deckTexts_q17 deckTexts_q18 deckTexts_q19 deckTexts_q20 deckTexts_q21 deckTexts_q22 deckTexts_q23 deckTexts_q24 deckTexts_q25 deckTexts_q26 deckTexts_q27 deckTexts_q28 deckTexts_q29 deckTexts_q30 deckTexts_q31

theorem deckTexts_rd : (Tryz.f4.params.toList.all fun t => Tryz.prog.readableRec t && decide (t < Tryz.prog.types.size)) = true := by kernel_rfl
set_option maxRecDepth 100000 in
theorem deckTexts_lifted (os : Os) (started : os.Started) (H : Type) (enc : TypeId × Value → H) :
    ReturnsInHanded {} Tryz.checked os 4 .any (fun w args => (Rows.deckTextsSpec.pre enc Tryz.prog Tryz.f4 [] false w args ∧ laidMetH Tryz.prog Rows.deckTextsRow.laid w) ∧ sizedMet enc Tryz.prog Tryz.f4 (OpenSpec.ofChange Rows.deckTextsSpec) false w args)
      (Rows.deckTextsSpec.post enc Tryz.prog Tryz.f4 false true false false) := by
  refine returnsInHanded_of_change_and (C := Tryz.checked) (X := fun w _ => laidMetH Tryz.prog Rows.deckTextsRow.laid w) (fun _ _ _ hh h => h.of_heap hh) own started (by kernel_rfl) Tryz.func4
    (ChangeSpec.witness_shaped (enc := enc) (C := Tryz.checked) (os := os) (X := fun w _ => laidMetH Tryz.prog Rows.deckTextsRow.laid w) false (World.laidAll Tryz.prog os Rows.deckTextsRow.laid) #[.agg #[.slice none 0 0, .slice none 0 0, .slice none 0 0, .int .i64 0, .int .i64 0, .int .i64 0, .slice none 0 0]] 8 (World.laidAll_os _ _ _)
      (World.shaped_of_ZipB (by kernel_rfl) (by kernel_rfl)) (by kernel_rfl) (by kernel_rfl) (by kernel_rfl)
      (by rw [MakeChecks.laidMetH_plain _ _ _ (by kernel_rfl)]; exact laidMet_laidAll _ (by kernel_rfl) (by kernel_rfl))) ?_
  intro W base args ds gs before hval0 hW _ hS hL _
  have hval : ∀ (j : Nat) t v, Tryz.f4.params[j]? = some t → args[j]? = some v → Value.okWide Tryz.prog W .any base t v := hval0
  have hW' := hW
  obtain ⟨p, q, hA0, hV, rfl, _, _⟩ := hW
  have hA : DataW.TrodAll enc Tryz.prog W 0 (fun _ => true) true Tryz.f4.params.toList args.toList ds p := hA0
  have hA1 := hA
  obtain ⟨rfl, rfl⟩ := trodVars_none hV
  simp only [List.append_nil] at hW'
  have hlt : ∀ x ∈ p, x.block < W.heap.size := fun x hx => by simpa using hW'.lt x hx
  rw [Tryz.params4] at hA hval
  obtain ⟨v0, vs0, d0, ds0, p0, q0, hargs, rfl, rfl, h0, r0⟩ := trodAll_cons hA
  obtain ⟨rfl, rfl, rfl⟩ := trodAll_nil r0
  obtain rfl : args = #[v0] := by cases args; simp_all
  have hS1 : (DataW.weightsEach Tryz.prog Tryz.f4.params.toList [d0]).all (· ≤ reachBytes) = true := hS
  rw [Tryz.params4] at hS1
  obtain ⟨s0, hS1⟩ := sized_cons hS1
  obtain ⟨x0, ok0, R0⟩ := arg_agg (e := encSAsk) 20 (by kernel_rfl) Tryz.underlying30 decSAsk (hval 0 30 v0 rfl rfl) h0 s0
  refine (PCall.law (law23_DeckTexts_ok (law_DeckTexts (lkSAsk_ok ok0))) (inv_of_laid hL) (args := _) (by simp only [RelVs]; exact ⟨_, _, rfl, R0, rfl⟩)).mono fun e W' ⟨he, hb⟩ => ?_
  subst he
  have hB := trodAll_below laidOut hb deckTexts_rd hA1 hlt
  exact ⟨_, rfl, _, _, _, [], _, [], hW', trodAll_mk1 (shut_bool Tryz.underlying4 _), hB, rfl, hb.frame _, fun h => by cases h⟩
theorem deckTexts_holds : Rows.DeckTextsSaid :=
  OpenClaim.holds_of_wide 4 Tryz.f4 rfl rfl rfl rfl rfl rfl rfl ⟨rfl, rfl, rfl, rfl, rfl⟩ rfl rfl rfl rfl rfl (by kernel_rfl) Tryz.func4 deckTexts_joined
    (of_decide_eq_true (by kernel_rfl)) (by unfold Func.isWrapper; first | (rw [if_pos (by decide +kernel)]; kernel_rfl) | (rw [if_neg (by decide +kernel)]; exact ⟨rfl, rfl⟩))
    (fun os started H enc _ => deckTexts_lifted os started H enc)
theorem deckTexts_card : Rows.DeckTextsCardSaid :=
  Claim7.holds_tied_plain_at .later [] _ _ _ _ deckTexts_holds (fun _ h => by cases h) (by kernel_rfl) (fun _ h => by cases h) deckTexts_row_tie rfl ⟨rfl, rfl⟩ (by kernel_rfl) rfl
    (fun f fn hf hfn => by
      obtain rfl : f = 4 := Option.some.inj ((show Tryz.prog.funcNamed "cardgame/cardgamelaw23.DeckTexts" = some 4 by kernel_rfl).symm.trans hf) |>.symm
      obtain rfl : fn = Tryz.f4 := (Option.some.inj (Tryz.func4.symm.trans hfn)).symm
      exact ⟨by kernel_rfl, fun j t ht => by
        rw [Tryz.params4] at ht
        have hm : t ∈ [30] := by simpa using Array.mem_of_getElem? ht
        have hall : ([30].all fun u => !Tryz.prog.wantsStandIn u) = true := by kernel_rfl
        exact (show Tryz.prog.wantsStandIn t = false by simpa using List.all_eq_true.1 hall t hm)⟩)
    (by kernel_rfl)
end Go.Proofs.YtedobbmpljbccaaGreatDoor
