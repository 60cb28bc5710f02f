/- The row and the card of StateRound. -/
import Derived.Test.YtipchejgnmnffaaGreatDoorPlStO
import Derived.Test.YtipchejgnmnffaaGreatDoorPlStD
import Derived.Test.YtipchejgnmnffaaGreatDoorPlStF15
import Derived.Test.YtipchejgnmnffaaGreatDoorPlPtoPlPd
import Derived.Test.YtipchejgnmnffaaGreatDoorPlPtoPlPd
import Derived.Test.YtipchejgnmnffaaGreatDoorTie
import Derived.Test.YtipchejgnmnffaaGreatDoorCards
namespace Go.Proofs.YtipchejgnmnffaaGreatDoor
open Go.ChangeShapes Go.WideShapes Go.ChangeAt Go.RowKit Go.PL Go.ChangeMaps
set_option linter.all false
theorem own : ownKnob Tryz.prog.godebug = none := by kernel_rfl
theorem laidOut : laidOutB Tryz.prog = true := by kernel_rfl
theorem inv_of_laid {W : World} (h : laidMetH Tryz.prog Rows.stateRoundRow.laid W) : I0 W := trivial
theorem stateRound_q0 : (Rows.stateRoundRow.wf (OpenSpec.ofChange Rows.stateRoundSpec)) = true := by kernel_rfl
theorem stateRound_q1 : (laidOutB Tryz.prog) = true := by kernel_rfl
theorem stateRound_q2 : (mapsRowed Tryz.prog) = true := by kernel_rfl
theorem stateRound_q3 : (Tryz.f6.params.all (Tryz.prog.readableRec ·)) = true := by kernel_rfl
theorem stateRound_q4 : (namedTie Tryz.prog Rows.stateRoundRow.named Rows.stateRoundSpec.vars) = true := by kernel_rfl
theorem stateRound_q5 : ((Rows.stateRoundRow.stops == [])) = true := by kernel_rfl
theorem stateRound_q6 : ((Tryz.prog.stops == [])) = true := by kernel_rfl
theorem stateRound_q7 : ((Rows.stateRoundRow.knobs == [])) = true := by kernel_rfl
theorem stateRound_q8 : ((Tryz.prog.stopKnobs == [])) = true := by kernel_rfl
theorem stateRound_q9 : ((Rows.stateRoundRow.inPlace == Tryz.prog.inPlace 6)) = true := by kernel_rfl
theorem stateRound_q10 : ((Rows.stateRoundRow.unfollowed == Tryz.prog.unfollowed 6)) = true := by kernel_rfl
theorem stateRound_q11 : ((Rows.stateRoundRow.recurses == Tryz.prog.recurses 6)) = true := by kernel_rfl
theorem stateRound_q12 : ((Rows.stateRoundRow.named == Tryz.prog.varsNamed 6)) = true := by kernel_rfl
theorem stateRound_q13 : ((Rows.stateRoundRow.maps == (Tryz.f6.params.toList ++ Rows.stateRoundSpec.plain.varTypes Tryz.prog).any (Tryz.prog.mapsRec ·))) = true := by kernel_rfl
theorem stateRound_q14 : ((Rows.stateRoundRow.ifaces == (Tryz.f6.params.toList ++ Rows.stateRoundSpec.plain.varTypes Tryz.prog).any (Tryz.prog.ifacesRec ·))) = true := by kernel_rfl
theorem stateRound_q15 : ((Rows.stateRoundRow.mapsOut == Tryz.prog.mapsAmong Tryz.f6.resultTypes.toList)) = true := by kernel_rfl
theorem stateRound_q16 : ((Rows.stateRoundRow.loops == (Tryz.f6.params.toList ++ Rows.stateRoundSpec.plain.varTypes Tryz.prog).any (Tryz.prog.loopsFrom ·))) = true := by kernel_rfl
theorem stateRound_q17 : ((Rows.stateRoundRow.wideKeys == (Tryz.f6.params.toList ++ Rows.stateRoundSpec.plain.varTypes Tryz.prog ++ Tryz.f6.resultTypes.toList).any (Tryz.prog.wideKeysFrom ·))) = true := by kernel_rfl
theorem stateRound_q18 : (Rows.stateRoundSpec.vars.all (Tryz.prog.varReadable ·)) = true := by kernel_rfl
theorem stateRound_q19 : (Tryz.f6.resultTypes.all (fun t => Tryz.prog.readableRec t && decide (t < Tryz.prog.types.size))) = true := by kernel_rfl
theorem stateRound_q20 : ((Rows.stateRoundRow.ifacesOut == Tryz.f6.resultTypes.toList.any (Tryz.prog.ifacesRec ·))) = true := by kernel_rfl
theorem stateRound_q21 : ((Rows.stateRoundRow.loopsOut == Tryz.f6.resultTypes.toList.any (Tryz.prog.loopsFrom ·))) = true := by kernel_rfl
theorem stateRound_q22 : ((Rows.stateRoundRow.plainKeys == Tryz.prog.plainKeys)) = true := by kernel_rfl
theorem stateRound_q23 : (Rows.stateRoundRow.shortTexts.isNone) = true := by kernel_rfl
theorem stateRound_q24 : (Tryz.prog.stopsHeard) = true := by kernel_rfl
theorem stateRound_q25 : (Tryz.prog.mayEnter) = true := by kernel_rfl
theorem stateRound_q26 : ((Rows.stateRoundRow.lifted == Tryz.prog.liftsFinal)) = true := by kernel_rfl
theorem stateRound_q27 : ((Tryz.prog.make == some Rows.stateRoundRow.make)) = true := by kernel_rfl
theorem stateRound_q28 : (Rows.stateRoundRow.domain.isEmpty && (Rows.stateRoundRow.kinds == [])) = true := by kernel_rfl
theorem stateRound_q29 : ((Rows.stateRoundRow.pinned == Rows.stateRoundRow.pinnedBy)) = true := by kernel_rfl
theorem stateRound_q30 : ((Rows.stateRoundRow.veiled == (Tryz.f6.params.toList ++ Rows.stateRoundSpec.plain.varTypes Tryz.prog ++ Tryz.f6.resultTypes.toList).any (Tryz.prog.veiledRec ·))) = true := by kernel_rfl
theorem stateRound_q31 : (Rows.stateRoundRow.veiledFits Tryz.prog Tryz.f6.params.toList (Tryz.f6.params.toList ++ Rows.stateRoundSpec.plain.varTypes Tryz.prog ++ Tryz.f6.resultTypes.toList)) = true := by kernel_rfl
theorem stateRound_joined : joinedFacts Tryz.prog 6 Tryz.f6 Rows.stateRoundSpec Rows.stateRoundRow = true := joined_of stateRound_q0 stateRound_q1 stateRound_q2 stateRound_q3 stateRound_q4 stateRound_q5 stateRound_q6 stateRound_q7 stateRound_q8 stateRound_q9 stateRound_q10 stateRound_q11 stateRound_q12 stateRound_q13 stateRound_q14 stateRound_q15 stateRound_q16 stateRound_q17 stateRound_q18 stateRound_q19 stateRound_q20 stateRound_q21 stateRound_q22 stateRound_q23 stateRound_q24 stateRound_q25 stateRound_q26 stateRound_q27 stateRound_q28 stateRound_q29 stateRound_q30 stateRound_q31

theorem stateRound_rd : (Tryz.f6.params.toList.all fun t => Tryz.prog.readableRec t && decide (t < Tryz.prog.types.size)) = true := by kernel_rfl
set_option maxRecDepth 100000 in
theorem stateRound_lifted (os : Os) (started : os.Started) (H : Type) (enc : TypeId × Value → H) :
    ReturnsInHanded {} Tryz.checked os 6 .any (fun w args => (Rows.stateRoundSpec.pre enc Tryz.prog Tryz.f6 [] false w args ∧ laidMetH Tryz.prog Rows.stateRoundRow.laid w) ∧ sizedMet enc Tryz.prog Tryz.f6 (OpenSpec.ofChange Rows.stateRoundSpec) false w args)
      (Rows.stateRoundSpec.post enc Tryz.prog Tryz.f6 false true false false) := by
  refine returnsInHanded_of_change_and (C := Tryz.checked) (X := fun w _ => laidMetH Tryz.prog Rows.stateRoundRow.laid w) (fun _ _ _ hh h => h.of_heap hh) own started (by kernel_rfl) Tryz.func6
    (ChangeSpec.witness_shaped (enc := enc) (C := Tryz.checked) (os := os) (X := fun w _ => laidMetH Tryz.prog Rows.stateRoundRow.laid w) false (World.laidAll Tryz.prog os Rows.stateRoundRow.laid) #[.agg #[.slice none 0 0, .slice none 0 0, .slice none 0 0, .slice none 0 0, .slice none 0 0, .slice none 0 0, .slice none 0 0, .int .i64 0, .int .i64 0, .int .i64 0, .bool false, .int .i64 0, .int .i64 0, .int .i64 0, .int .i64 0, .int .u64 0, .slice none 0 0, .int .i64 0, .int .i64 0]] 8 (World.laidAll_os _ _ _)
      (World.shaped_of_ZipB (by kernel_rfl) (by kernel_rfl)) (by kernel_rfl) (by kernel_rfl) (by kernel_rfl)
      (by rw [MakeChecks.laidMetH_plain _ _ _ (by kernel_rfl)]; exact laidMet_laidAll _ (by kernel_rfl) (by kernel_rfl))) ?_
  intro W base args ds gs before hval0 hW _ hS hL _
  have hval : ∀ (j : Nat) t v, Tryz.f6.params[j]? = some t → args[j]? = some v → Value.okWide Tryz.prog W .any base t v := hval0
  have hW' := hW
  obtain ⟨p, q, hA0, hV, rfl, _, _⟩ := hW
  have hA : DataW.TrodAll enc Tryz.prog W 0 (fun _ => true) true Tryz.f6.params.toList args.toList ds p := hA0
  have hA1 := hA
  obtain ⟨rfl, rfl⟩ := trodVars_none hV
  simp only [List.append_nil] at hW'
  have hlt : ∀ x ∈ p, x.block < W.heap.size := fun x hx => by simpa using hW'.lt x hx
  rw [Tryz.params6] at hA hval
  obtain ⟨v0, vs0, d0, ds0, p0, q0, hargs, rfl, rfl, h0, r0⟩ := trodAll_cons hA
  obtain ⟨rfl, rfl, rfl⟩ := trodAll_nil r0
  obtain rfl : args = #[v0] := by cases args; simp_all
  have hS1 : (DataW.weightsEach Tryz.prog Tryz.f6.params.toList [d0]).all (· ≤ reachBytes) = true := hS
  rw [Tryz.params6] at hS1
  obtain ⟨s0, hS1⟩ := sized_cons hS1
  obtain ⟨x0, ok0, R0⟩ := arg_agg (e := encSState) 20 (by kernel_rfl) Tryz.underlying33 decSState (hval 0 33 v0 rfl rfl) h0 s0
  refine (PCall.law (law26_StateRound_ok (law_StateRound ok0)) (inv_of_laid hL) (args := _) (by simp only [RelVs]; exact ⟨_, _, rfl, R0, rfl⟩)).mono fun e W' ⟨he, hb⟩ => ?_
  subst he
  have hB := trodAll_below laidOut hb stateRound_rd hA1 hlt
  exact ⟨_, rfl, _, _, _, [], _, [], hW', trodAll_mk1 (shut_bool Tryz.underlying4 _), hB, rfl, hb.frame _, fun h => by cases h⟩
theorem stateRound_holds : Rows.StateRoundSaid :=
  OpenClaim.holds_of_wide 6 Tryz.f6 rfl rfl rfl rfl rfl rfl rfl ⟨rfl, rfl, rfl, rfl, rfl⟩ rfl rfl rfl rfl rfl (by kernel_rfl) Tryz.func6 stateRound_joined
    (of_decide_eq_true (by kernel_rfl)) (by unfold Func.isWrapper; first | (rw [if_pos (by decide +kernel)]; kernel_rfl) | (rw [if_neg (by decide +kernel)]; exact ⟨rfl, rfl⟩))
    (fun os started H enc _ => stateRound_lifted os started H enc)
theorem stateRound_card : Rows.StateRoundCardSaid :=
  Claim7.holds_tied_plain_at .later [] _ _ _ _ stateRound_holds (fun _ h => by cases h) (by kernel_rfl) (fun _ h => by cases h) stateRound_row_tie rfl ⟨rfl, rfl⟩ (by kernel_rfl) rfl
    (fun f fn hf hfn => by
      obtain rfl : f = 6 := Option.some.inj ((show Tryz.prog.funcNamed "cardgame/cardgamelaw26.StateRound" = some 6 by kernel_rfl).symm.trans hf) |>.symm
      obtain rfl : fn = Tryz.f6 := (Option.some.inj (Tryz.func6.symm.trans hfn)).symm
      exact ⟨by kernel_rfl, fun j t ht => by
        rw [Tryz.params6] at ht
        have hm : t ∈ [33] := by simpa using Array.mem_of_getElem? ht
        have hall : ([33].all fun u => !Tryz.prog.wantsStandIn u) = true := by kernel_rfl
        exact (show Tryz.prog.wantsStandIn t = false by simpa using List.all_eq_true.1 hall t hm)⟩)
    (by kernel_rfl)
end Go.Proofs.YtipchejgnmnffaaGreatDoor
