/- The row and the card of StateSame. -/
import Derived.Test.YtipchejgnmnffaaGreatDoorPlStN
import Derived.Test.YtipchejgnmnffaaGreatDoorPlStD
import Derived.Test.YtipchejgnmnffaaGreatDoorPlStF15
import Derived.Test.YtipchejgnmnffaaGreatDoorPlPtoPlPd
import Derived.Test.YtipchejgnmnffaaGreatDoorPlPtoPlPd
import Derived.Test.YtipchejgnmnffaaGreatDoorTie
import Derived.Test.YtipchejgnmnffaaGreatDoorCards
namespace Go.Proofs.YtipchejgnmnffaaGreatDoor
open Go.ChangeShapes Go.WideShapes Go.ChangeAt Go.RowKit Go.PL Go.ChangeMaps
set_option linter.all false
theorem own : ownKnob Tryz.prog.godebug = none := by kernel_rfl
theorem laidOut : laidOutB Tryz.prog = true := by kernel_rfl
theorem inv_of_laid {W : World} (h : laidMetH Tryz.prog Rows.stateSameRow.laid W) : I0 W := trivial
theorem stateSame_q0 : (Rows.stateSameRow.wf (OpenSpec.ofChange Rows.stateSameSpec)) = true := by kernel_rfl
theorem stateSame_q1 : (laidOutB Tryz.prog) = true := by kernel_rfl
theorem stateSame_q2 : (mapsRowed Tryz.prog) = true := by kernel_rfl
theorem stateSame_q3 : (Tryz.f4.params.all (Tryz.prog.readableRec ·)) = true := by kernel_rfl
theorem stateSame_q4 : (namedTie Tryz.prog Rows.stateSameRow.named Rows.stateSameSpec.vars) = true := by kernel_rfl
theorem stateSame_q5 : ((Rows.stateSameRow.stops == [])) = true := by kernel_rfl
theorem stateSame_q6 : ((Tryz.prog.stops == [])) = true := by kernel_rfl
theorem stateSame_q7 : ((Rows.stateSameRow.knobs == [])) = true := by kernel_rfl
theorem stateSame_q8 : ((Tryz.prog.stopKnobs == [])) = true := by kernel_rfl
theorem stateSame_q9 : ((Rows.stateSameRow.inPlace == Tryz.prog.inPlace 4)) = true := by kernel_rfl
theorem stateSame_q10 : ((Rows.stateSameRow.unfollowed == Tryz.prog.unfollowed 4)) = true := by kernel_rfl
theorem stateSame_q11 : ((Rows.stateSameRow.recurses == Tryz.prog.recurses 4)) = true := by kernel_rfl
theorem stateSame_q12 : ((Rows.stateSameRow.named == Tryz.prog.varsNamed 4)) = true := by kernel_rfl
theorem stateSame_q13 : ((Rows.stateSameRow.maps == (Tryz.f4.params.toList ++ Rows.stateSameSpec.plain.varTypes Tryz.prog).any (Tryz.prog.mapsRec ·))) = true := by kernel_rfl
theorem stateSame_q14 : ((Rows.stateSameRow.ifaces == (Tryz.f4.params.toList ++ Rows.stateSameSpec.plain.varTypes Tryz.prog).any (Tryz.prog.ifacesRec ·))) = true := by kernel_rfl
theorem stateSame_q15 : ((Rows.stateSameRow.mapsOut == Tryz.prog.mapsAmong Tryz.f4.resultTypes.toList)) = true := by kernel_rfl
theorem stateSame_q16 : ((Rows.stateSameRow.loops == (Tryz.f4.params.toList ++ Rows.stateSameSpec.plain.varTypes Tryz.prog).any (Tryz.prog.loopsFrom ·))) = true := by kernel_rfl
theorem stateSame_q17 : ((Rows.stateSameRow.wideKeys == (Tryz.f4.params.toList ++ Rows.stateSameSpec.plain.varTypes Tryz.prog ++ Tryz.f4.resultTypes.toList).any (Tryz.prog.wideKeysFrom ·))) = true := by kernel_rfl
theorem stateSame_q18 : (Rows.stateSameSpec.vars.all (Tryz.prog.varReadable ·)) = true := by kernel_rfl
theorem stateSame_q19 : (Tryz.f4.resultTypes.all (fun t => Tryz.prog.readableRec t && decide (t < Tryz.prog.types.size))) = true := by kernel_rfl
theorem stateSame_q20 : ((Rows.stateSameRow.ifacesOut == Tryz.f4.resultTypes.toList.any (Tryz.prog.ifacesRec ·))) = true := by kernel_rfl
theorem stateSame_q21 : ((Rows.stateSameRow.loopsOut == Tryz.f4.resultTypes.toList.any (Tryz.prog.loopsFrom ·))) = true := by kernel_rfl
theorem stateSame_q22 : ((Rows.stateSameRow.plainKeys == Tryz.prog.plainKeys)) = true := by kernel_rfl
theorem stateSame_q23 : (Rows.stateSameRow.shortTexts.isNone) = true := by kernel_rfl
theorem stateSame_q24 : (Tryz.prog.stopsHeard) = true := by kernel_rfl
theorem stateSame_q25 : (Tryz.prog.mayEnter) = true := by kernel_rfl
theorem stateSame_q26 : ((Rows.stateSameRow.lifted == Tryz.prog.liftsFinal)) = true := by kernel_rfl
theorem stateSame_q27 : ((Tryz.prog.make == some Rows.stateSameRow.make)) = true := by kernel_rfl
theorem stateSame_q28 : (Rows.stateSameRow.domain.isEmpty && (Rows.stateSameRow.kinds == [])) = true := by kernel_rfl
theorem stateSame_q29 : ((Rows.stateSameRow.pinned == Rows.stateSameRow.pinnedBy)) = true := by kernel_rfl
theorem stateSame_q30 : ((Rows.stateSameRow.veiled == (Tryz.f4.params.toList ++ Rows.stateSameSpec.plain.varTypes Tryz.prog ++ Tryz.f4.resultTypes.toList).any (Tryz.prog.veiledRec ·))) = true := by kernel_rfl
theorem stateSame_q31 : (Rows.stateSameRow.veiledFits Tryz.prog Tryz.f4.params.toList (Tryz.f4.params.toList ++ Rows.stateSameSpec.plain.varTypes Tryz.prog ++ Tryz.f4.resultTypes.toList)) = true := by kernel_rfl
theorem stateSame_joined : joinedFacts Tryz.prog 4 Tryz.f4 Rows.stateSameSpec Rows.stateSameRow = true := joined_of stateSame_q0 stateSame_q1 stateSame_q2 stateSame_q3 stateSame_q4 stateSame_q5 stateSame_q6 stateSame_q7 stateSame_q8 stateSame_q9 stateSame_q10 stateSame_q11 stateSame_q12 stateSame_q13 stateSame_q14 stateSame_q15 stateSame_q16 stateSame_q17 stateSame_q18 stateSame_q19 stateSame_q20 stateSame_q21 stateSame_q22 stateSame_q23 stateSame_q24 stateSame_q25 stateSame_q26 stateSame_q27 stateSame_q28 stateSame_q29 stateSame_q30 stateSame_q31

theorem stateSame_rd : (Tryz.f4.params.toList.all fun t => Tryz.prog.readableRec t && decide (t < Tryz.prog.types.size)) = true := by kernel_rfl
set_option maxRecDepth 100000 in
theorem stateSame_lifted (os : Os) (started : os.Started) (H : Type) (enc : TypeId × Value → H) :
    ReturnsInHanded {} Tryz.checked os 4 .any (fun w args => (Rows.stateSameSpec.pre enc Tryz.prog Tryz.f4 [] false w args ∧ laidMetH Tryz.prog Rows.stateSameRow.laid w) ∧ sizedMet enc Tryz.prog Tryz.f4 (OpenSpec.ofChange Rows.stateSameSpec) false w args)
      (Rows.stateSameSpec.post enc Tryz.prog Tryz.f4 false true false false) := by
  refine returnsInHanded_of_change_and (C := Tryz.checked) (X := fun w _ => laidMetH Tryz.prog Rows.stateSameRow.laid w) (fun _ _ _ hh h => h.of_heap hh) own started (by kernel_rfl) Tryz.func4
    (ChangeSpec.witness_shaped (enc := enc) (C := Tryz.checked) (os := os) (X := fun w _ => laidMetH Tryz.prog Rows.stateSameRow.laid w) false (World.laidAll Tryz.prog os Rows.stateSameRow.laid) #[.agg #[.slice none 0 0, .slice none 0 0, .slice none 0 0, .slice none 0 0, .slice none 0 0, .slice none 0 0, .slice none 0 0, .int .i64 0, .int .i64 0, .int .i64 0, .bool false, .int .i64 0, .int .i64 0, .int .i64 0, .int .i64 0, .int .u64 0, .slice none 0 0, .int .i64 0, .int .i64 0], .agg #[.slice none 0 0, .slice none 0 0, .slice none 0 0, .slice none 0 0, .slice none 0 0, .slice none 0 0, .slice none 0 0, .int .i64 0, .int .i64 0, .int .i64 0, .bool false, .int .i64 0, .int .i64 0, .int .i64 0, .int .i64 0, .int .u64 0, .slice none 0 0, .int .i64 0, .int .i64 0]] 8 (World.laidAll_os _ _ _)
      (World.shaped_of_ZipB (by kernel_rfl) (by kernel_rfl)) (by kernel_rfl) (by kernel_rfl) (by kernel_rfl)
      (by rw [MakeChecks.laidMetH_plain _ _ _ (by kernel_rfl)]; exact laidMet_laidAll _ (by kernel_rfl) (by kernel_rfl))) ?_
  intro W base args ds gs before hval0 hW _ hS hL _
  have hval : ∀ (j : Nat) t v, Tryz.f4.params[j]? = some t → args[j]? = some v → Value.okWide Tryz.prog W .any base t v := hval0
  have hW' := hW
  obtain ⟨p, q, hA0, hV, rfl, _, _⟩ := hW
  have hA : DataW.TrodAll enc Tryz.prog W 0 (fun _ => true) true Tryz.f4.params.toList args.toList ds p := hA0
  have hA1 := hA
  obtain ⟨rfl, rfl⟩ := trodVars_none hV
  simp only [List.append_nil] at hW'
  have hlt : ∀ x ∈ p, x.block < W.heap.size := fun x hx => by simpa using hW'.lt x hx
  rw [Tryz.params4] at hA hval
  obtain ⟨v0, vs0, d0, ds0, p0, q0, hargs, rfl, rfl, h0, r0⟩ := trodAll_cons hA
  obtain ⟨v1, vs1, d1, ds1, p1, q1, rfl, rfl, rfl, h1, r1⟩ := trodAll_cons r0
  obtain ⟨rfl, rfl, rfl⟩ := trodAll_nil r1
  obtain rfl : args = #[v0, v1] := by cases args; simp_all
  have hS1 : (DataW.weightsEach Tryz.prog Tryz.f4.params.toList [d0, d1]).all (· ≤ reachBytes) = true := hS
  rw [Tryz.params4] at hS1
  obtain ⟨s0, hS1⟩ := sized_cons hS1
  obtain ⟨x0, ok0, R0⟩ := arg_agg (e := encSState) 20 (by kernel_rfl) Tryz.underlying33 decSState (hval 0 33 v0 rfl rfl) h0 s0
  obtain ⟨s1, hS1⟩ := sized_cons hS1
  obtain ⟨x1, ok1, R1⟩ := arg_agg (e := encSState) 20 (by kernel_rfl) Tryz.underlying33 decSState (hval 1 33 v1 rfl rfl) h1 s1
  refine (PCall.law (law26_StateSame_ok (law_StateSame ok0 ok1)) (inv_of_laid hL) (args := _) (by simp only [RelVs]; exact ⟨_, _, rfl, R0, ⟨_, _, rfl, R1, rfl⟩⟩)).mono fun e W' ⟨he, hb⟩ => ?_
  subst he
  have hB := trodAll_below laidOut hb stateSame_rd hA1 hlt
  exact ⟨_, rfl, _, _, _, [], _, [], hW', trodAll_mk1 (shut_bool Tryz.underlying4 _), hB, rfl, hb.frame _, fun h => by cases h⟩
theorem stateSame_holds : Rows.StateSameSaid :=
  OpenClaim.holds_of_wide 4 Tryz.f4 rfl rfl rfl rfl rfl rfl rfl ⟨rfl, rfl, rfl, rfl, rfl⟩ rfl rfl rfl rfl rfl (by kernel_rfl) Tryz.func4 stateSame_joined
    (of_decide_eq_true (by kernel_rfl)) (by unfold Func.isWrapper; first | (rw [if_pos (by decide +kernel)]; kernel_rfl) | (rw [if_neg (by decide +kernel)]; exact ⟨rfl, rfl⟩))
    (fun os started H enc _ => stateSame_lifted os started H enc)
theorem stateSame_card : Rows.StateSameCardSaid :=
  Claim7.holds_tied_plain_at .later [] _ _ _ _ stateSame_holds (fun _ h => by cases h) (by kernel_rfl) (fun _ h => by cases h) stateSame_row_tie rfl ⟨rfl, rfl⟩ (by kernel_rfl) rfl
    (fun f fn hf hfn => by
      obtain rfl : f = 4 := Option.some.inj ((show Tryz.prog.funcNamed "cardgame/cardgamelaw26.StateSame" = some 4 by kernel_rfl).symm.trans hf) |>.symm
      obtain rfl : fn = Tryz.f4 := (Option.some.inj (Tryz.func4.symm.trans hfn)).symm
      exact ⟨by kernel_rfl, fun j t ht => by
        rw [Tryz.params4] at ht
        have hm : t ∈ [33, 33] := by simpa using Array.mem_of_getElem? ht
        have hall : ([33, 33].all fun u => !Tryz.prog.wantsStandIn u) = true := by kernel_rfl
        exact (show Tryz.prog.wantsStandIn t = false by simpa using List.all_eq_true.1 hall t hm)⟩)
    (by kernel_rfl)
end Go.Proofs.YtipchejgnmnffaaGreatDoor
