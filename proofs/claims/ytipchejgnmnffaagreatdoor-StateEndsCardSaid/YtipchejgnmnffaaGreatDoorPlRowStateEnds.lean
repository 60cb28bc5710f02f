/- The row and the card of StateEnds. -/
import Derived.Test.YtipchejgnmnffaaGreatDoorPlStP
import Derived.Test.YtipchejgnmnffaaGreatDoorPlStD
import Derived.Test.YtipchejgnmnffaaGreatDoorPlStF15
import Derived.Test.YtipchejgnmnffaaGreatDoorPlPtoPlPd
import Derived.Test.YtipchejgnmnffaaGreatDoorPlPtoPlPd
import Derived.Test.YtipchejgnmnffaaGreatDoorTie
import Derived.Test.YtipchejgnmnffaaGreatDoorCards
namespace Go.Proofs.YtipchejgnmnffaaGreatDoor
open Go.ChangeShapes Go.WideShapes Go.ChangeAt Go.RowKit Go.PL Go.ChangeMaps
set_option linter.all false
theorem own : ownKnob Tryz.prog.godebug = none := by kernel_rfl
theorem laidOut : laidOutB Tryz.prog = true := by kernel_rfl
theorem inv_of_laid {W : World} (h : laidMetH Tryz.prog Rows.stateEndsRow.laid W) : I0 W := trivial
theorem stateEnds_q0 : (Rows.stateEndsRow.wf (OpenSpec.ofChange Rows.stateEndsSpec)) = true := by kernel_rfl
theorem stateEnds_q1 : (laidOutB Tryz.prog) = true := by kernel_rfl
theorem stateEnds_q2 : (mapsRowed Tryz.prog) = true := by kernel_rfl
theorem stateEnds_q3 : (Tryz.f7.params.all (Tryz.prog.readableRec ·)) = true := by kernel_rfl
theorem stateEnds_q4 : (namedTie Tryz.prog Rows.stateEndsRow.named Rows.stateEndsSpec.vars) = true := by kernel_rfl
theorem stateEnds_q5 : ((Rows.stateEndsRow.stops == [])) = true := by kernel_rfl
theorem stateEnds_q6 : ((Tryz.prog.stops == [])) = true := by kernel_rfl
theorem stateEnds_q7 : ((Rows.stateEndsRow.knobs == [])) = true := by kernel_rfl
theorem stateEnds_q8 : ((Tryz.prog.stopKnobs == [])) = true := by kernel_rfl
theorem stateEnds_q9 : ((Rows.stateEndsRow.inPlace == Tryz.prog.inPlace 7)) = true := by kernel_rfl
theorem stateEnds_q10 : ((Rows.stateEndsRow.unfollowed == Tryz.prog.unfollowed 7)) = true := by kernel_rfl
theorem stateEnds_q11 : ((Rows.stateEndsRow.recurses == Tryz.prog.recurses 7)) = true := by kernel_rfl
theorem stateEnds_q12 : ((Rows.stateEndsRow.named == Tryz.prog.varsNamed 7)) = true := by kernel_rfl
theorem stateEnds_q13 : ((Rows.stateEndsRow.maps == (Tryz.f7.params.toList ++ Rows.stateEndsSpec.plain.varTypes Tryz.prog).any (Tryz.prog.mapsRec ·))) = true := by kernel_rfl
theorem stateEnds_q14 : ((Rows.stateEndsRow.ifaces == (Tryz.f7.params.toList ++ Rows.stateEndsSpec.plain.varTypes Tryz.prog).any (Tryz.prog.ifacesRec ·))) = true := by kernel_rfl
theorem stateEnds_q15 : ((Rows.stateEndsRow.mapsOut == Tryz.prog.mapsAmong Tryz.f7.resultTypes.toList)) = true := by kernel_rfl
theorem stateEnds_q16 : ((Rows.stateEndsRow.loops == (Tryz.f7.params.toList ++ Rows.stateEndsSpec.plain.varTypes Tryz.prog).any (Tryz.prog.loopsFrom ·))) = true := by kernel_rfl
theorem stateEnds_q17 : ((Rows.stateEndsRow.wideKeys == (Tryz.f7.params.toList ++ Rows.stateEndsSpec.plain.varTypes Tryz.prog ++ Tryz.f7.resultTypes.toList).any (Tryz.prog.wideKeysFrom ·))) = true := by kernel_rfl
theorem stateEnds_q18 : (Rows.stateEndsSpec.vars.all (Tryz.prog.varReadable ·)) = true := by kernel_rfl
theorem stateEnds_q19 : (Tryz.f7.resultTypes.all (fun t => Tryz.prog.readableRec t && decide (t < Tryz.prog.types.size))) = true := by kernel_rfl
theorem stateEnds_q20 : ((Rows.stateEndsRow.ifacesOut == Tryz.f7.resultTypes.toList.any (Tryz.prog.ifacesRec ·))) = true := by kernel_rfl
theorem stateEnds_q21 : ((Rows.stateEndsRow.loopsOut == Tryz.f7.resultTypes.toList.any (Tryz.prog.loopsFrom ·))) = true := by kernel_rfl
theorem stateEnds_q22 : ((Rows.stateEndsRow.plainKeys == Tryz.prog.plainKeys)) = true := by kernel_rfl
theorem stateEnds_q23 : (Rows.stateEndsRow.shortTexts.isNone) = true := by kernel_rfl
theorem stateEnds_q24 : (Tryz.prog.stopsHeard) = true := by kernel_rfl
theorem stateEnds_q25 : (Tryz.prog.mayEnter) = true := by kernel_rfl
theorem stateEnds_q26 : ((Rows.stateEndsRow.lifted == Tryz.prog.liftsFinal)) = true := by kernel_rfl
theorem stateEnds_q27 : ((Tryz.prog.make == some Rows.stateEndsRow.make)) = true := by kernel_rfl
theorem stateEnds_q28 : (Rows.stateEndsRow.domain.isEmpty && (Rows.stateEndsRow.kinds == [])) = true := by kernel_rfl
theorem stateEnds_q29 : ((Rows.stateEndsRow.pinned == Rows.stateEndsRow.pinnedBy)) = true := by kernel_rfl
theorem stateEnds_q30 : ((Rows.stateEndsRow.veiled == (Tryz.f7.params.toList ++ Rows.stateEndsSpec.plain.varTypes Tryz.prog ++ Tryz.f7.resultTypes.toList).any (Tryz.prog.veiledRec ·))) = true := by kernel_rfl
theorem stateEnds_q31 : (Rows.stateEndsRow.veiledFits Tryz.prog Tryz.f7.params.toList (Tryz.f7.params.toList ++ Rows.stateEndsSpec.plain.varTypes Tryz.prog ++ Tryz.f7.resultTypes.toList)) = true := by kernel_rfl
theorem stateEnds_joined : joinedFacts Tryz.prog 7 Tryz.f7 Rows.stateEndsSpec Rows.stateEndsRow = true := joined_of stateEnds_q0 stateEnds_q1 stateEnds_q2 stateEnds_q3 stateEnds_q4 stateEnds_q5 stateEnds_q6 stateEnds_q7 stateEnds_q8 stateEnds_q9 stateEnds_q10 stateEnds_q11 stateEnds_q12 stateEnds_q13 stateEnds_q14 stateEnds_q15 stateEnds_q16 stateEnds_q17 stateEnds_q18 stateEnds_q19 stateEnds_q20 stateEnds_q21 stateEnds_q22 stateEnds_q23 stateEnds_q24 stateEnds_q25 stateEnds_q26 stateEnds_q27 stateEnds_q28 stateEnds_q29 stateEnds_q30 stateEnds_q31

theorem stateEnds_rd : (Tryz.f7.params.toList.all fun t => Tryz.prog.readableRec t && decide (t < Tryz.prog.types.size)) = true := by kernel_rfl
set_option maxRecDepth 100000 in
theorem stateEnds_lifted (os : Os) (started : os.Started) (H : Type) (enc : TypeId × Value → H) :
    ReturnsInHanded {} Tryz.checked os 7 .any (fun w args => (Rows.stateEndsSpec.pre enc Tryz.prog Tryz.f7 [] false w args ∧ laidMetH Tryz.prog Rows.stateEndsRow.laid w) ∧ sizedMet enc Tryz.prog Tryz.f7 (OpenSpec.ofChange Rows.stateEndsSpec) false w args)
      (Rows.stateEndsSpec.post enc Tryz.prog Tryz.f7 false true false false) := by
  refine returnsInHanded_of_change_and (C := Tryz.checked) (X := fun w _ => laidMetH Tryz.prog Rows.stateEndsRow.laid w) (fun _ _ _ hh h => h.of_heap hh) own started (by kernel_rfl) Tryz.func7
    (ChangeSpec.witness_shaped (enc := enc) (C := Tryz.checked) (os := os) (X := fun w _ => laidMetH Tryz.prog Rows.stateEndsRow.laid w) false (World.laidAll Tryz.prog os Rows.stateEndsRow.laid) #[.agg #[.slice none 0 0, .slice none 0 0, .slice none 0 0, .slice none 0 0, .slice none 0 0, .slice none 0 0, .slice none 0 0, .int .i64 0, .int .i64 0, .int .i64 0, .bool false, .int .i64 0, .int .i64 0, .int .i64 0, .int .i64 0, .int .u64 0, .slice none 0 0, .int .i64 0, .int .i64 0], .int .i64 0] 8 (World.laidAll_os _ _ _)
      (World.shaped_of_ZipB (by kernel_rfl) (by kernel_rfl)) (by kernel_rfl) (by kernel_rfl) (by kernel_rfl)
      (by rw [MakeChecks.laidMetH_plain _ _ _ (by kernel_rfl)]; exact laidMet_laidAll _ (by kernel_rfl) (by kernel_rfl))) ?_
  intro W base args ds gs before hval0 hW _ hS hL _
  have hval : ∀ (j : Nat) t v, Tryz.f7.params[j]? = some t → args[j]? = some v → Value.okWide Tryz.prog W .any base t v := hval0
  have hW' := hW
  obtain ⟨p, q, hA0, hV, rfl, _, _⟩ := hW
  have hA : DataW.TrodAll enc Tryz.prog W 0 (fun _ => true) true Tryz.f7.params.toList args.toList ds p := hA0
  have hA1 := hA
  obtain ⟨rfl, rfl⟩ := trodVars_none hV
  simp only [List.append_nil] at hW'
  have hlt : ∀ x ∈ p, x.block < W.heap.size := fun x hx => by simpa using hW'.lt x hx
  rw [Tryz.params7] at hA hval
  obtain ⟨v0, vs0, d0, ds0, p0, q0, hargs, rfl, rfl, h0, r0⟩ := trodAll_cons hA
  obtain ⟨v1, vs1, d1, ds1, p1, q1, rfl, rfl, rfl, h1, r1⟩ := trodAll_cons r0
  obtain ⟨rfl, rfl, rfl⟩ := trodAll_nil r1
  obtain rfl : args = #[v0, v1] := by cases args; simp_all
  have hS1 : (DataW.weightsEach Tryz.prog Tryz.f7.params.toList [d0, d1]).all (· ≤ reachBytes) = true := hS
  rw [Tryz.params7] at hS1
  obtain ⟨s0, hS1⟩ := sized_cons hS1
  obtain ⟨x0, ok0, R0⟩ := arg_agg (e := encSState) 20 (by kernel_rfl) Tryz.underlying33 decSState (hval 0 33 v0 rfl rfl) h0 s0
  obtain ⟨s1, hS1⟩ := sized_cons hS1
  obtain ⟨x1, ok1, R1⟩ := arg_int 20 (by kernel_rfl) Tryz.underlying3 (hval 1 3 v1 rfl rfl) h1 s1
  refine (PCall.law (law26_StateEnds_ok (law_StateEnds ok0 ok1)) (inv_of_laid hL) (args := _) (by simp only [RelVs]; exact ⟨_, _, rfl, R0, ⟨_, _, rfl, R1, rfl⟩⟩)).mono fun e W' ⟨he, hb⟩ => ?_
  subst he
  have hB := trodAll_below laidOut hb stateEnds_rd hA1 hlt
  exact ⟨_, rfl, _, _, _, [], _, [], hW', trodAll_mk1 (shut_bool Tryz.underlying4 _), hB, rfl, hb.frame _, fun h => by cases h⟩
theorem stateEnds_holds : Rows.StateEndsSaid :=
  OpenClaim.holds_of_wide 7 Tryz.f7 rfl rfl rfl rfl rfl rfl rfl ⟨rfl, rfl, rfl, rfl, rfl⟩ rfl rfl rfl rfl rfl (by kernel_rfl) Tryz.func7 stateEnds_joined
    (of_decide_eq_true (by kernel_rfl)) (by unfold Func.isWrapper; first | (rw [if_pos (by decide +kernel)]; kernel_rfl) | (rw [if_neg (by decide +kernel)]; exact ⟨rfl, rfl⟩))
    (fun os started H enc _ => stateEnds_lifted os started H enc)
theorem stateEnds_card : Rows.StateEndsCardSaid :=
  Claim7.holds_tied_plain_at .later [] _ _ _ _ stateEnds_holds (fun _ h => by cases h) (by kernel_rfl) (fun _ h => by cases h) stateEnds_row_tie rfl ⟨rfl, rfl⟩ (by kernel_rfl) rfl
    (fun f fn hf hfn => by
      obtain rfl : f = 7 := Option.some.inj ((show Tryz.prog.funcNamed "cardgame/cardgamelaw26.StateEnds" = some 7 by kernel_rfl).symm.trans hf) |>.symm
      obtain rfl : fn = Tryz.f7 := (Option.some.inj (Tryz.func7.symm.trans hfn)).symm
      exact ⟨by kernel_rfl, fun j t ht => by
        rw [Tryz.params7] at ht
        have hm : t ∈ [33, 3] := by simpa using Array.mem_of_getElem? ht
        have hall : ([33, 3].all fun u => !Tryz.prog.wantsStandIn u) = true := by kernel_rfl
        exact (show Tryz.prog.wantsStandIn t = false by simpa using List.all_eq_true.1 hall t hm)⟩)
    (by kernel_rfl)
end Go.Proofs.YtipchejgnmnffaaGreatDoor
