/- The row and the card of EventPossible. -/
import Derived.Test.YtlinpadogiggaaaGreatDoorPlEvPossL
import Derived.Test.YtlinpadogiggaaaGreatDoorPlEvD
import Derived.Test.YtlinpadogiggaaaGreatDoorPlWtoPlPd
import Derived.Test.YtlinpadogiggaaaGreatDoorPlWtoPlPd
import Derived.Test.YtlinpadogiggaaaGreatDoorTie
import Derived.Test.YtlinpadogiggaaaGreatDoorCards
namespace Go.Proofs.YtlinpadogiggaaaGreatDoor
open Go.ChangeShapes Go.WideShapes Go.ChangeAt Go.RowKit Go.PL Go.ChangeMaps
set_option linter.all false
theorem own : ownKnob Tryz.prog.godebug = none := by kernel_rfl
theorem laidOut : laidOutB Tryz.prog = true := by kernel_rfl
theorem gPow : Tryz.prog.globalNamed "internal/strconv.uint64pow10" = some 1 := by kernel_rfl
theorem tPow : (Tryz.prog.globals[1]?).map (·.type) = some 231 := by kernel_rfl
theorem cPow : Tryz.prog.cellsOf 231 = 20 := by kernel_rfl
theorem cPe : Tryz.prog.cellsOf 29 = 1 := by kernel_rfl
theorem inv_of_laid {W : World} (h : laidMetH Tryz.prog Rows.eventPossibleRow.laid W) : I0 W := by
  rw [MakeChecks.laidMetH_plain _ _ _ (by kernel_rfl)] at h
  have hp := h.filter (fun x => x.1 == "internal/strconv.uint64pow10")
  exact Lib.tabIs_of_head (rest := []) gPow tPow Tryz.underlying231 Tryz.underlying29 cPe cPow hp
theorem bytes67 : Tryz.prog.bytesOf 67 = 176 := by kernel_rfl
theorem eventPossible_q0 : (Rows.eventPossibleRow.wf (OpenSpec.ofChange Rows.eventPossibleSpec)) = true := by kernel_rfl
theorem eventPossible_q1 : (laidOutB Tryz.prog) = true := by kernel_rfl
theorem eventPossible_q2 : (mapsRowed Tryz.prog) = true := by kernel_rfl
theorem eventPossible_q3 : (Tryz.f5.params.all (Tryz.prog.readableRec ·)) = true := by kernel_rfl
theorem eventPossible_q4 : (namedTie Tryz.prog Rows.eventPossibleRow.named Rows.eventPossibleSpec.vars) = true := by kernel_rfl
theorem eventPossible_q5 : ((Rows.eventPossibleRow.stops == [])) = true := by kernel_rfl
theorem eventPossible_q6 : ((Tryz.prog.stops == [])) = true := by kernel_rfl
theorem eventPossible_q7 : ((Rows.eventPossibleRow.knobs == [])) = true := by kernel_rfl
theorem eventPossible_q8 : ((Tryz.prog.stopKnobs == [])) = true := by kernel_rfl
theorem eventPossible_q9 : ((Rows.eventPossibleRow.inPlace == Tryz.prog.inPlace 5)) = true := by kernel_rfl
theorem eventPossible_q10 : ((Rows.eventPossibleRow.unfollowed == Tryz.prog.unfollowed 5)) = true := by kernel_rfl
theorem eventPossible_q11 : ((Rows.eventPossibleRow.recurses == Tryz.prog.recurses 5)) = true := by kernel_rfl
theorem eventPossible_q12 : ((Rows.eventPossibleRow.named == Tryz.prog.varsNamed 5)) = true := by kernel_rfl
theorem eventPossible_q13 : ((Rows.eventPossibleRow.maps == (Tryz.f5.params.toList ++ Rows.eventPossibleSpec.plain.varTypes Tryz.prog).any (Tryz.prog.mapsRec ·))) = true := by kernel_rfl
theorem eventPossible_q14 : ((Rows.eventPossibleRow.ifaces == (Tryz.f5.params.toList ++ Rows.eventPossibleSpec.plain.varTypes Tryz.prog).any (Tryz.prog.ifacesRec ·))) = true := by kernel_rfl
theorem eventPossible_q15 : ((Rows.eventPossibleRow.mapsOut == Tryz.prog.mapsAmong Tryz.f5.resultTypes.toList)) = true := by kernel_rfl
theorem eventPossible_q16 : ((Rows.eventPossibleRow.loops == (Tryz.f5.params.toList ++ Rows.eventPossibleSpec.plain.varTypes Tryz.prog).any (Tryz.prog.loopsFrom ·))) = true := by kernel_rfl
theorem eventPossible_q17 : ((Rows.eventPossibleRow.wideKeys == (Tryz.f5.params.toList ++ Rows.eventPossibleSpec.plain.varTypes Tryz.prog ++ Tryz.f5.resultTypes.toList).any (Tryz.prog.wideKeysFrom ·))) = true := by kernel_rfl
theorem eventPossible_q18 : (Rows.eventPossibleSpec.vars.all (Tryz.prog.varReadable ·)) = true := by kernel_rfl
theorem eventPossible_q19 : (Tryz.f5.resultTypes.all (fun t => Tryz.prog.readableRec t && decide (t < Tryz.prog.types.size))) = true := by kernel_rfl
theorem eventPossible_q20 : ((Rows.eventPossibleRow.ifacesOut == Tryz.f5.resultTypes.toList.any (Tryz.prog.ifacesRec ·))) = true := by kernel_rfl
theorem eventPossible_q21 : ((Rows.eventPossibleRow.loopsOut == Tryz.f5.resultTypes.toList.any (Tryz.prog.loopsFrom ·))) = true := by kernel_rfl
theorem eventPossible_q22 : ((Rows.eventPossibleRow.plainKeys == Tryz.prog.plainKeys)) = true := by kernel_rfl
theorem eventPossible_q23 : (Rows.eventPossibleRow.shortTexts.isNone) = true := by kernel_rfl
theorem eventPossible_q24 : (Tryz.prog.stopsHeard) = true := by kernel_rfl
theorem eventPossible_q25 : (Tryz.prog.mayEnter) = true := by kernel_rfl
theorem eventPossible_q26 : ((Rows.eventPossibleRow.lifted == Tryz.prog.liftsFinal)) = true := by kernel_rfl
theorem eventPossible_q27 : ((Tryz.prog.make == some Rows.eventPossibleRow.make)) = true := by kernel_rfl
theorem eventPossible_q28 : (Rows.eventPossibleRow.domain.isEmpty && (Rows.eventPossibleRow.kinds == [])) = true := by kernel_rfl
theorem eventPossible_q29 : ((Rows.eventPossibleRow.pinned == Rows.eventPossibleRow.pinnedBy)) = true := by kernel_rfl
theorem eventPossible_q30 : ((Rows.eventPossibleRow.veiled == (Tryz.f5.params.toList ++ Rows.eventPossibleSpec.plain.varTypes Tryz.prog ++ Tryz.f5.resultTypes.toList).any (Tryz.prog.veiledRec ·))) = true := by kernel_rfl
theorem eventPossible_q31 : (Rows.eventPossibleRow.veiledFits Tryz.prog Tryz.f5.params.toList (Tryz.f5.params.toList ++ Rows.eventPossibleSpec.plain.varTypes Tryz.prog ++ Tryz.f5.resultTypes.toList)) = true := by kernel_rfl
theorem eventPossible_joined : joinedFacts Tryz.prog 5 Tryz.f5 Rows.eventPossibleSpec Rows.eventPossibleRow = true := joined_of eventPossible_q0 eventPossible_q1 eventPossible_q2 eventPossible_q3 eventPossible_q4 eventPossible_q5 eventPossible_q6 eventPossible_q7 eventPossible_q8 eventPossible_q9 eventPossible_q10 eventPossible_q11 eventPossible_q12 eventPossible_q13 eventPossible_q14 eventPossible_q15 eventPossible_q16 eventPossible_q17 eventPossible_q18 eventPossible_q19 eventPossible_q20 eventPossible_q21 eventPossible_q22 eventPossible_q23 eventPossible_q24 eventPossible_q25 eventPossible_q26 eventPossible_q27 eventPossible_q28 eventPossible_q29 eventPossible_q30 eventPossible_q31

theorem eventPossible_rd : (Tryz.f5.params.toList.all fun t => Tryz.prog.readableRec t && decide (t < Tryz.prog.types.size)) = true := by kernel_rfl
set_option maxRecDepth 100000 in
theorem eventPossible_lifted (os : Os) (started : os.Started) (H : Type) (enc : TypeId × Value → H) :
    ReturnsInHanded {} Tryz.checked os 5 .any (fun w args => (Rows.eventPossibleSpec.pre enc Tryz.prog Tryz.f5 [] false w args ∧ laidMetH Tryz.prog Rows.eventPossibleRow.laid w) ∧ sizedMet enc Tryz.prog Tryz.f5 (OpenSpec.ofChange Rows.eventPossibleSpec) false w args)
      (Rows.eventPossibleSpec.post enc Tryz.prog Tryz.f5 false true false false) := by
  refine returnsInHanded_of_change_and (C := Tryz.checked) (X := fun w _ => laidMetH Tryz.prog Rows.eventPossibleRow.laid w) (fun _ _ _ hh h => h.of_heap hh) own started (by kernel_rfl) Tryz.func5
    (ChangeSpec.witness_shaped (enc := enc) (C := Tryz.checked) (os := os) (X := fun w _ => laidMetH Tryz.prog Rows.eventPossibleRow.laid w) false (World.laidAll Tryz.prog os Rows.eventPossibleRow.laid) #[.slice none 0 0, .agg #[.slice none 0 0, .slice none 0 0, .slice none 0 0, .slice none 0 0, .slice none 0 0, .slice none 0 0, .slice none 0 0, .int .i64 0, .int .i64 0, .int .i64 0, .bool false, .int .i64 0, .int .i64 0, .int .i64 0, .int .i64 0, .int .u64 0, .slice none 0 0, .int .i64 0, .int .i64 0], .agg #[.int .i64 0, .int .i64 0, .int .i64 0, .int .i64 0, .int .i64 0, .int .i64 0, .int .i64 0, .int .i64 0, .int .i64 0, .int .i64 0, .bool false, .bool false, .int .i64 0, .int .i64 0, .int .i64 0]] 8 (World.laidAll_os _ _ _)
      (World.shaped_of_ZipB (by kernel_rfl) (by kernel_rfl)) (by kernel_rfl) (by kernel_rfl) (by kernel_rfl)
      (by rw [MakeChecks.laidMetH_plain _ _ _ (by kernel_rfl)]; exact laidMet_laidAll _ (by kernel_rfl) (by kernel_rfl))) ?_
  intro W base args ds gs before hval0 hW _ hS hL _
  have hval : ∀ (j : Nat) t v, Tryz.f5.params[j]? = some t → args[j]? = some v → Value.okWide Tryz.prog W .any base t v := hval0
  have hW' := hW
  obtain ⟨p, q, hA0, hV, rfl, _, _⟩ := hW
  have hA : DataW.TrodAll enc Tryz.prog W 0 (fun _ => true) true Tryz.f5.params.toList args.toList ds p := hA0
  have hA1 := hA
  obtain ⟨rfl, rfl⟩ := trodVars_none hV
  simp only [List.append_nil] at hW'
  have hlt : ∀ x ∈ p, x.block < W.heap.size := fun x hx => by simpa using hW'.lt x hx
  rw [Tryz.params5] at hA hval
  obtain ⟨v0, vs0, d0, ds0, p0, q0, hargs, rfl, rfl, h0, r0⟩ := trodAll_cons hA
  obtain ⟨v1, vs1, d1, ds1, p1, q1, rfl, rfl, rfl, h1, r1⟩ := trodAll_cons r0
  obtain ⟨v2, vs2, d2, ds2, p2, q2, rfl, rfl, rfl, h2, r2⟩ := trodAll_cons r1
  obtain ⟨rfl, rfl, rfl⟩ := trodAll_nil r2
  obtain rfl : args = #[v0, v1, v2] := by cases args; simp_all
  have hS1 : (DataW.weightsEach Tryz.prog Tryz.f5.params.toList [d0, d1, d2]).all (· ≤ reachBytes) = true := hS
  rw [Tryz.params5] at hS1
  obtain ⟨s0, hS1⟩ := sized_cons hS1
  obtain ⟨x0, ok0, R0⟩ := arg_sl (e := encSCard) 20 (by kernel_rfl) Tryz.underlying22 (dL Tryz.underlying22 bytes67 decSCard) (hval 0 22 v0 rfl rfl) h0 s0
  obtain ⟨s1, hS1⟩ := sized_cons hS1
  obtain ⟨x1, ok1, R1⟩ := arg_agg (e := encSState) 20 (by kernel_rfl) Tryz.underlying31 decSState (hval 1 31 v1 rfl rfl) h1 s1
  obtain ⟨s2, hS1⟩ := sized_cons hS1
  obtain ⟨x2, ok2, R2⟩ := arg_agg (e := encSEvent) 20 (by kernel_rfl) Tryz.underlying34 decSEvent (hval 2 34 v2 rfl rfl) h2 s2
  refine (PCall.law (law32_EventPossible_ok (law_EventPossible (lkL_ok (fun _ h => lkSCard_ok h) ok0) (lkSState_ok ok1))) (inv_of_laid hL) (args := _) (by simp only [RelVs]; exact ⟨_, _, rfl, R0, ⟨_, _, rfl, R1, ⟨_, _, rfl, R2, rfl⟩⟩⟩)).mono fun e W' ⟨he, hb⟩ => ?_
  subst he
  have hB := trodAll_below laidOut hb eventPossible_rd hA1 hlt
  exact ⟨_, rfl, _, _, _, [], _, [], hW', trodAll_mk1 (shut_bool Tryz.underlying4 _), hB, rfl, hb.frame _, fun h => by cases h⟩
theorem eventPossible_holds : Rows.EventPossibleSaid :=
  OpenClaim.holds_of_wide 5 Tryz.f5 rfl rfl rfl rfl rfl rfl rfl ⟨rfl, rfl, rfl, rfl, rfl⟩ rfl rfl rfl rfl rfl (by kernel_rfl) Tryz.func5 eventPossible_joined
    (of_decide_eq_true (by kernel_rfl)) (by unfold Func.isWrapper; first | (rw [if_pos (by decide +kernel)]; kernel_rfl) | (rw [if_neg (by decide +kernel)]; exact ⟨rfl, rfl⟩))
    (fun os started H enc _ => eventPossible_lifted os started H enc)
theorem eventPossible_card : Rows.EventPossibleCardSaid :=
  Claim7.holds_tied_plain_at .later [] _ _ _ _ eventPossible_holds (fun _ h => by cases h) (by kernel_rfl) (fun _ h => by cases h) eventPossible_row_tie rfl ⟨rfl, rfl⟩ (by kernel_rfl) rfl
    (fun f fn hf hfn => by
      obtain rfl : f = 5 := Option.some.inj ((show Tryz.prog.funcNamed "cardgame/cardgamelaw32.EventPossible" = some 5 by kernel_rfl).symm.trans hf) |>.symm
      obtain rfl : fn = Tryz.f5 := (Option.some.inj (Tryz.func5.symm.trans hfn)).symm
      exact ⟨by kernel_rfl, fun j t ht => by
        rw [Tryz.params5] at ht
        have hm : t ∈ [22, 31, 34] := by simpa using Array.mem_of_getElem? ht
        have hall : ([22, 31, 34].all fun u => !Tryz.prog.wantsStandIn u) = true := by kernel_rfl
        exact (show Tryz.prog.wantsStandIn t = false by simpa using List.all_eq_true.1 hall t hm)⟩)
    (by kernel_rfl)
end Go.Proofs.YtlinpadogiggaaaGreatDoor
