/- The row and the card of EventIs. -/
import Derived.Test.YtlinpadogiggaaaGreatDoorPlEvIsL
import Derived.Test.YtlinpadogiggaaaGreatDoorPlEvD
import Derived.Test.YtlinpadogiggaaaGreatDoorPlWtoPlPd
import Derived.Test.YtlinpadogiggaaaGreatDoorPlWtoPlPd
import Derived.Test.YtlinpadogiggaaaGreatDoorTie
import Derived.Test.YtlinpadogiggaaaGreatDoorCards
namespace Go.Proofs.YtlinpadogiggaaaGreatDoor
open Go.ChangeShapes Go.WideShapes Go.ChangeAt Go.RowKit Go.PL Go.ChangeMaps
set_option linter.all false
theorem own : ownKnob Tryz.prog.godebug = none := by kernel_rfl
theorem laidOut : laidOutB Tryz.prog = true := by kernel_rfl
theorem gPow : Tryz.prog.globalNamed "internal/strconv.uint64pow10" = some 1 := by kernel_rfl
theorem tPow : (Tryz.prog.globals[1]?).map (·.type) = some 231 := by kernel_rfl
theorem cPow : Tryz.prog.cellsOf 231 = 20 := by kernel_rfl
theorem cPe : Tryz.prog.cellsOf 29 = 1 := by kernel_rfl
theorem inv_of_laid {W : World} (h : laidMetH Tryz.prog Rows.eventIsRow.laid W) : I0 W := by
  rw [MakeChecks.laidMetH_plain _ _ _ (by kernel_rfl)] at h
  have hp := h.filter (fun x => x.1 == "internal/strconv.uint64pow10")
  exact Lib.tabIs_of_head (rest := []) gPow tPow Tryz.underlying231 Tryz.underlying29 cPe cPow hp
theorem bytes67 : Tryz.prog.bytesOf 67 = 176 := by kernel_rfl
theorem eventIs_q0 : (Rows.eventIsRow.wf (OpenSpec.ofChange Rows.eventIsSpec)) = true := by kernel_rfl
theorem eventIs_q1 : (laidOutB Tryz.prog) = true := by kernel_rfl
theorem eventIs_q2 : (mapsRowed Tryz.prog) = true := by kernel_rfl
theorem eventIs_q3 : (Tryz.f3.params.all (Tryz.prog.readableRec ·)) = true := by kernel_rfl
theorem eventIs_q4 : (namedTie Tryz.prog Rows.eventIsRow.named Rows.eventIsSpec.vars) = true := by kernel_rfl
theorem eventIs_q5 : ((Rows.eventIsRow.stops == [])) = true := by kernel_rfl
theorem eventIs_q6 : ((Tryz.prog.stops == [])) = true := by kernel_rfl
theorem eventIs_q7 : ((Rows.eventIsRow.knobs == [])) = true := by kernel_rfl
theorem eventIs_q8 : ((Tryz.prog.stopKnobs == [])) = true := by kernel_rfl
theorem eventIs_q9 : ((Rows.eventIsRow.inPlace == Tryz.prog.inPlace 3)) = true := by kernel_rfl
theorem eventIs_q10 : ((Rows.eventIsRow.unfollowed == Tryz.prog.unfollowed 3)) = true := by kernel_rfl
theorem eventIs_q11 : ((Rows.eventIsRow.recurses == Tryz.prog.recurses 3)) = true := by kernel_rfl
theorem eventIs_q12 : ((Rows.eventIsRow.named == Tryz.prog.varsNamed 3)) = true := by kernel_rfl
theorem eventIs_q13 : ((Rows.eventIsRow.maps == (Tryz.f3.params.toList ++ Rows.eventIsSpec.plain.varTypes Tryz.prog).any (Tryz.prog.mapsRec ·))) = true := by kernel_rfl
theorem eventIs_q14 : ((Rows.eventIsRow.ifaces == (Tryz.f3.params.toList ++ Rows.eventIsSpec.plain.varTypes Tryz.prog).any (Tryz.prog.ifacesRec ·))) = true := by kernel_rfl
theorem eventIs_q15 : ((Rows.eventIsRow.mapsOut == Tryz.prog.mapsAmong Tryz.f3.resultTypes.toList)) = true := by kernel_rfl
theorem eventIs_q16 : ((Rows.eventIsRow.loops == (Tryz.f3.params.toList ++ Rows.eventIsSpec.plain.varTypes Tryz.prog).any (Tryz.prog.loopsFrom ·))) = true := by kernel_rfl
theorem eventIs_q17 : ((Rows.eventIsRow.wideKeys == (Tryz.f3.params.toList ++ Rows.eventIsSpec.plain.varTypes Tryz.prog ++ Tryz.f3.resultTypes.toList).any (Tryz.prog.wideKeysFrom ·))) = true := by kernel_rfl
theorem eventIs_q18 : (Rows.eventIsSpec.vars.all (Tryz.prog.varReadable ·)) = true := by kernel_rfl
theorem eventIs_q19 : (Tryz.f3.resultTypes.all (fun t => Tryz.prog.readableRec t && decide (t < Tryz.prog.types.size))) = true := by kernel_rfl
theorem eventIs_q20 : ((Rows.eventIsRow.ifacesOut == Tryz.f3.resultTypes.toList.any (Tryz.prog.ifacesRec ·))) = true := by kernel_rfl
theorem eventIs_q21 : ((Rows.eventIsRow.loopsOut == Tryz.f3.resultTypes.toList.any (Tryz.prog.loopsFrom ·))) = true := by kernel_rfl
theorem eventIs_q22 : ((Rows.eventIsRow.plainKeys == Tryz.prog.plainKeys)) = true := by kernel_rfl
theorem eventIs_q23 : (Rows.eventIsRow.shortTexts.isNone) = true := by kernel_rfl
theorem eventIs_q24 : (Tryz.prog.stopsHeard) = true := by kernel_rfl
theorem eventIs_q25 : (Tryz.prog.mayEnter) = true := by kernel_rfl
theorem eventIs_q26 : ((Rows.eventIsRow.lifted == Tryz.prog.liftsFinal)) = true := by kernel_rfl
theorem eventIs_q27 : ((Tryz.prog.make == some Rows.eventIsRow.make)) = true := by kernel_rfl
theorem eventIs_q28 : (Rows.eventIsRow.domain.isEmpty && (Rows.eventIsRow.kinds == [])) = true := by kernel_rfl
theorem eventIs_q29 : ((Rows.eventIsRow.pinned == Rows.eventIsRow.pinnedBy)) = true := by kernel_rfl
theorem eventIs_q30 : ((Rows.eventIsRow.veiled == (Tryz.f3.params.toList ++ Rows.eventIsSpec.plain.varTypes Tryz.prog ++ Tryz.f3.resultTypes.toList).any (Tryz.prog.veiledRec ·))) = true := by kernel_rfl
theorem eventIs_q31 : (Rows.eventIsRow.veiledFits Tryz.prog Tryz.f3.params.toList (Tryz.f3.params.toList ++ Rows.eventIsSpec.plain.varTypes Tryz.prog ++ Tryz.f3.resultTypes.toList)) = true := by kernel_rfl
theorem eventIs_joined : joinedFacts Tryz.prog 3 Tryz.f3 Rows.eventIsSpec Rows.eventIsRow = true := joined_of eventIs_q0 eventIs_q1 eventIs_q2 eventIs_q3 eventIs_q4 eventIs_q5 eventIs_q6 eventIs_q7 eventIs_q8 eventIs_q9 eventIs_q10 eventIs_q11 eventIs_q12 eventIs_q13 eventIs_q14 eventIs_q15 eventIs_q16 eventIs_q17 eventIs_q18 eventIs_q19 eventIs_q20 eventIs_q21 eventIs_q22 eventIs_q23 eventIs_q24 eventIs_q25 eventIs_q26 eventIs_q27 eventIs_q28 eventIs_q29 eventIs_q30 eventIs_q31

theorem eventIs_rd : (Tryz.f3.params.toList.all fun t => Tryz.prog.readableRec t && decide (t < Tryz.prog.types.size)) = true := by kernel_rfl
set_option maxRecDepth 100000 in
theorem eventIs_lifted (os : Os) (started : os.Started) (H : Type) (enc : TypeId × Value → H) :
    ReturnsInHanded {} Tryz.checked os 3 .any (fun w args => (Rows.eventIsSpec.pre enc Tryz.prog Tryz.f3 [] false w args ∧ laidMetH Tryz.prog Rows.eventIsRow.laid w) ∧ sizedMet enc Tryz.prog Tryz.f3 (OpenSpec.ofChange Rows.eventIsSpec) false w args)
      (Rows.eventIsSpec.post enc Tryz.prog Tryz.f3 false true false false) := by
  refine returnsInHanded_of_change_and (C := Tryz.checked) (X := fun w _ => laidMetH Tryz.prog Rows.eventIsRow.laid w) (fun _ _ _ hh h => h.of_heap hh) own started (by kernel_rfl) Tryz.func3
    (ChangeSpec.witness_shaped (enc := enc) (C := Tryz.checked) (os := os) (X := fun w _ => laidMetH Tryz.prog Rows.eventIsRow.laid w) false (World.laidAll Tryz.prog os Rows.eventIsRow.laid) #[.slice none 0 0, .agg #[.slice none 0 0, .slice none 0 0, .slice none 0 0, .slice none 0 0, .slice none 0 0, .slice none 0 0, .slice none 0 0, .int .i64 0, .int .i64 0, .int .i64 0, .bool false, .int .i64 0, .int .i64 0, .int .i64 0, .int .i64 0, .int .u64 0, .slice none 0 0, .int .i64 0, .int .i64 0], .agg #[.int .i64 0, .int .i64 0, .int .i64 0, .int .i64 0, .int .i64 0, .int .i64 0, .int .i64 0, .int .i64 0, .int .i64 0, .int .i64 0, .bool false, .bool false, .int .i64 0, .int .i64 0, .int .i64 0]] 8 (World.laidAll_os _ _ _)
      (World.shaped_of_ZipB (by kernel_rfl) (by kernel_rfl)) (by kernel_rfl) (by kernel_rfl) (by kernel_rfl)
      (by rw [MakeChecks.laidMetH_plain _ _ _ (by kernel_rfl)]; exact laidMet_laidAll _ (by kernel_rfl) (by kernel_rfl))) ?_
  intro W base args ds gs before hval0 hW _ hS hL _
  have hval : ∀ (j : Nat) t v, Tryz.f3.params[j]? = some t → args[j]? = some v → Value.okWide Tryz.prog W .any base t v := hval0
  have hW' := hW
  obtain ⟨p, q, hA0, hV, rfl, _, _⟩ := hW
  have hA : DataW.TrodAll enc Tryz.prog W 0 (fun _ => true) true Tryz.f3.params.toList args.toList ds p := hA0
  have hA1 := hA
  obtain ⟨rfl, rfl⟩ := trodVars_none hV
  simp only [List.append_nil] at hW'
  have hlt : ∀ x ∈ p, x.block < W.heap.size := fun x hx => by simpa using hW'.lt x hx
  rw [Tryz.params3] at hA hval
  obtain ⟨v0, vs0, d0, ds0, p0, q0, hargs, rfl, rfl, h0, r0⟩ := trodAll_cons hA
  obtain ⟨v1, vs1, d1, ds1, p1, q1, rfl, rfl, rfl, h1, r1⟩ := trodAll_cons r0
  obtain ⟨v2, vs2, d2, ds2, p2, q2, rfl, rfl, rfl, h2, r2⟩ := trodAll_cons r1
  obtain ⟨rfl, rfl, rfl⟩ := trodAll_nil r2
  obtain rfl : args = #[v0, v1, v2] := by cases args; simp_all
  have hS1 : (DataW.weightsEach Tryz.prog Tryz.f3.params.toList [d0, d1, d2]).all (· ≤ reachBytes) = true := hS
  rw [Tryz.params3] at hS1
  obtain ⟨s0, hS1⟩ := sized_cons hS1
  obtain ⟨x0, ok0, R0⟩ := arg_sl (e := encSCard) 20 (by kernel_rfl) Tryz.underlying22 (dL Tryz.underlying22 bytes67 decSCard) (hval 0 22 v0 rfl rfl) h0 s0
  obtain ⟨s1, hS1⟩ := sized_cons hS1
  obtain ⟨x1, ok1, R1⟩ := arg_agg (e := encSState) 20 (by kernel_rfl) Tryz.underlying31 decSState (hval 1 31 v1 rfl rfl) h1 s1
  obtain ⟨s2, hS1⟩ := sized_cons hS1
  obtain ⟨x2, ok2, R2⟩ := arg_agg (e := encSEvent) 20 (by kernel_rfl) Tryz.underlying34 decSEvent (hval 2 34 v2 rfl rfl) h2 s2
  refine (PCall.law (law32_EventIs_ok (law_EventIs (lkL_ok (fun _ h => lkSCard_ok h) ok0) (lkSState_ok ok1))) (inv_of_laid hL) (args := _) (by simp only [RelVs]; exact ⟨_, _, rfl, R0, ⟨_, _, rfl, R1, ⟨_, _, rfl, R2, rfl⟩⟩⟩)).mono fun e W' ⟨he, hb⟩ => ?_
  subst he
  have hB := trodAll_below laidOut hb eventIs_rd hA1 hlt
  exact ⟨_, rfl, _, _, _, [], _, [], hW', trodAll_mk1 (shut_bool Tryz.underlying4 _), hB, rfl, hb.frame _, fun h => by cases h⟩
theorem eventIs_holds : Rows.EventIsSaid :=
  OpenClaim.holds_of_wide 3 Tryz.f3 rfl rfl rfl rfl rfl rfl rfl ⟨rfl, rfl, rfl, rfl, rfl⟩ rfl rfl rfl rfl rfl (by kernel_rfl) Tryz.func3 eventIs_joined
    (of_decide_eq_true (by kernel_rfl)) (by unfold Func.isWrapper; first | (rw [if_pos (by decide +kernel)]; kernel_rfl) | (rw [if_neg (by decide +kernel)]; exact ⟨rfl, rfl⟩))
    (fun os started H enc _ => eventIs_lifted os started H enc)
theorem eventIs_card : Rows.EventIsCardSaid :=
  Claim7.holds_tied_plain_at .later [] _ _ _ _ eventIs_holds (fun _ h => by cases h) (by kernel_rfl) (fun _ h => by cases h) eventIs_row_tie rfl ⟨rfl, rfl⟩ (by kernel_rfl) rfl
    (fun f fn hf hfn => by
      obtain rfl : f = 3 := Option.some.inj ((show Tryz.prog.funcNamed "cardgame/cardgamelaw32.EventIs" = some 3 by kernel_rfl).symm.trans hf) |>.symm
      obtain rfl : fn = Tryz.f3 := (Option.some.inj (Tryz.func3.symm.trans hfn)).symm
      exact ⟨by kernel_rfl, fun j t ht => by
        rw [Tryz.params3] at ht
        have hm : t ∈ [22, 31, 34] := by simpa using Array.mem_of_getElem? ht
        have hall : ([22, 31, 34].all fun u => !Tryz.prog.wantsStandIn u) = true := by kernel_rfl
        exact (show Tryz.prog.wantsStandIn t = false by simpa using List.all_eq_true.1 hall t hm)⟩)
    (by kernel_rfl)
end Go.Proofs.YtlinpadogiggaaaGreatDoor
