/- The row and the card of StateTurns. -/
import Derived.Test.YtipchejgnmnffaaGreatDoorPlStO
import Derived.Test.YtipchejgnmnffaaGreatDoorPlStD
import Derived.Test.YtipchejgnmnffaaGreatDoorPlStF15
import Derived.Test.YtipchejgnmnffaaGreatDoorPlPtoPlPd
import Derived.Test.YtipchejgnmnffaaGreatDoorPlPtoPlPd
import Derived.Test.YtipchejgnmnffaaGreatDoorTie
import Derived.Test.YtipchejgnmnffaaGreatDoorCards
namespace Go.Proofs.YtipchejgnmnffaaGreatDoor
open Go.ChangeShapes Go.WideShapes Go.ChangeAt Go.RowKit Go.PL Go.ChangeMaps
set_option linter.all false
theorem own : ownKnob Tryz.prog.godebug = none := by kernel_rfl
theorem laidOut : laidOutB Tryz.prog = true := by kernel_rfl
theorem inv_of_laid {W : World} (h : laidMetH Tryz.prog Rows.stateTurnsRow.laid W) : I0 W := trivial
theorem stateTurns_q0 : (Rows.stateTurnsRow.wf (OpenSpec.ofChange Rows.stateTurnsSpec)) = true := by kernel_rfl
theorem stateTurns_q1 : (laidOutB Tryz.prog) = true := by kernel_rfl
theorem stateTurns_q2 : (mapsRowed Tryz.prog) = true := by kernel_rfl
theorem stateTurns_q3 : (Tryz.f5.params.all (Tryz.prog.readableRec ·)) = true := by kernel_rfl
theorem stateTurns_q4 : (namedTie Tryz.prog Rows.stateTurnsRow.named Rows.stateTurnsSpec.vars) = true := by kernel_rfl
theorem stateTurns_q5 : ((Rows.stateTurnsRow.stops == [])) = true := by kernel_rfl
theorem stateTurns_q6 : ((Tryz.prog.stops == [])) = true := by kernel_rfl
theorem stateTurns_q7 : ((Rows.stateTurnsRow.knobs == [])) = true := by kernel_rfl
theorem stateTurns_q8 : ((Tryz.prog.stopKnobs == [])) = true := by kernel_rfl
theorem stateTurns_q9 : ((Rows.stateTurnsRow.inPlace == Tryz.prog.inPlace 5)) = true := by kernel_rfl
theorem stateTurns_q10 : ((Rows.stateTurnsRow.unfollowed == Tryz.prog.unfollowed 5)) = true := by kernel_rfl
theorem stateTurns_q11 : ((Rows.stateTurnsRow.recurses == Tryz.prog.recurses 5)) = true := by kernel_rfl
theorem stateTurns_q12 : ((Rows.stateTurnsRow.named == Tryz.prog.varsNamed 5)) = true := by kernel_rfl
theorem stateTurns_q13 : ((Rows.stateTurnsRow.maps == (Tryz.f5.params.toList ++ Rows.stateTurnsSpec.plain.varTypes Tryz.prog).any (Tryz.prog.mapsRec ·))) = true := by kernel_rfl
theorem stateTurns_q14 : ((Rows.stateTurnsRow.ifaces == (Tryz.f5.params.toList ++ Rows.stateTurnsSpec.plain.varTypes Tryz.prog).any (Tryz.prog.ifacesRec ·))) = true := by kernel_rfl
theorem stateTurns_q15 : ((Rows.stateTurnsRow.mapsOut == Tryz.prog.mapsAmong Tryz.f5.resultTypes.toList)) = true := by kernel_rfl
theorem stateTurns_q16 : ((Rows.stateTurnsRow.loops == (Tryz.f5.params.toList ++ Rows.stateTurnsSpec.plain.varTypes Tryz.prog).any (Tryz.prog.loopsFrom ·))) = true := by kernel_rfl
theorem stateTurns_q17 : ((Rows.stateTurnsRow.wideKeys == (Tryz.f5.params.toList ++ Rows.stateTurnsSpec.plain.varTypes Tryz.prog ++ Tryz.f5.resultTypes.toList).any (Tryz.prog.wideKeysFrom ·))) = true := by kernel_rfl
theorem stateTurns_q18 : (Rows.stateTurnsSpec.vars.all (Tryz.prog.varReadable ·)) = true := by kernel_rfl
theorem stateTurns_q19 : (Tryz.f5.resultTypes.all (fun t => Tryz.prog.readableRec t && decide (t < Tryz.prog.types.size))) = true := by kernel_rfl
theorem stateTurns_q20 : ((Rows.stateTurnsRow.ifacesOut == Tryz.f5.resultTypes.toList.any (Tryz.prog.ifacesRec ·))) = true := by kernel_rfl
theorem stateTurns_q21 : ((Rows.stateTurnsRow.loopsOut == Tryz.f5.resultTypes.toList.any (Tryz.prog.loopsFrom ·))) = true := by kernel_rfl
theorem stateTurns_q22 : ((Rows.stateTurnsRow.plainKeys == Tryz.prog.plainKeys)) = true := by kernel_rfl
theorem stateTurns_q23 : (Rows.stateTurnsRow.shortTexts.isNone) = true := by kernel_rfl
theorem stateTurns_q24 : (Tryz.prog.stopsHeard) = true := by kernel_rfl
theorem stateTurns_q25 : (Tryz.prog.mayEnter) = true := by kernel_rfl
theorem stateTurns_q26 : ((Rows.stateTurnsRow.lifted == Tryz.prog.liftsFinal)) = true := by kernel_rfl
theorem stateTurns_q27 : ((Tryz.prog.make == some Rows.stateTurnsRow.make)) = true := by kernel_rfl
theorem stateTurns_q28 : (Rows.stateTurnsRow.domain.isEmpty && (Rows.stateTurnsRow.kinds == [])) = true := by kernel_rfl
theorem stateTurns_q29 : ((Rows.stateTurnsRow.pinned == Rows.stateTurnsRow.pinnedBy)) = true := by kernel_rfl
theorem stateTurns_q30 : ((Rows.stateTurnsRow.veiled == (Tryz.f5.params.toList ++ Rows.stateTurnsSpec.plain.varTypes Tryz.prog ++ Tryz.f5.resultTypes.toList).any (Tryz.prog.veiledRec ·))) = true := by kernel_rfl
theorem stateTurns_q31 : (Rows.stateTurnsRow.veiledFits Tryz.prog Tryz.f5.params.toList (Tryz.f5.params.toList ++ Rows.stateTurnsSpec.plain.varTypes Tryz.prog ++ Tryz.f5.resultTypes.toList)) = true := by kernel_rfl
theorem stateTurns_joined : joinedFacts Tryz.prog 5 Tryz.f5 Rows.stateTurnsSpec Rows.stateTurnsRow = true := joined_of stateTurns_q0 stateTurns_q1 stateTurns_q2 stateTurns_q3 stateTurns_q4 stateTurns_q5 stateTurns_q6 stateTurns_q7 stateTurns_q8 stateTurns_q9 stateTurns_q10 stateTurns_q11 stateTurns_q12 stateTurns_q13 stateTurns_q14 stateTurns_q15 stateTurns_q16 stateTurns_q17 stateTurns_q18 stateTurns_q19 stateTurns_q20 stateTurns_q21 stateTurns_q22 stateTurns_q23 stateTurns_q24 stateTurns_q25 stateTurns_q26 stateTurns_q27 stateTurns_q28 stateTurns_q29 stateTurns_q30 stateTurns_q31

theorem stateTurns_rd : (Tryz.f5.params.toList.all fun t => Tryz.prog.readableRec t && decide (t < Tryz.prog.types.size)) = true := by kernel_rfl
set_option maxRecDepth 100000 in
theorem stateTurns_lifted (os : Os) (started : os.Started) (H : Type) (enc : TypeId × Value → H) :
    ReturnsInHanded {} Tryz.checked os 5 .any (fun w args => (Rows.stateTurnsSpec.pre enc Tryz.prog Tryz.f5 [] false w args ∧ laidMetH Tryz.prog Rows.stateTurnsRow.laid w) ∧ sizedMet enc Tryz.prog Tryz.f5 (OpenSpec.ofChange Rows.stateTurnsSpec) false w args)
      (Rows.stateTurnsSpec.post enc Tryz.prog Tryz.f5 false true false false) := by
  refine returnsInHanded_of_change_and (C := Tryz.checked) (X := fun w _ => laidMetH Tryz.prog Rows.stateTurnsRow.laid w) (fun _ _ _ hh h => h.of_heap hh) own started (by kernel_rfl) Tryz.func5
    (ChangeSpec.witness_shaped (enc := enc) (C := Tryz.checked) (os := os) (X := fun w _ => laidMetH Tryz.prog Rows.stateTurnsRow.laid w) false (World.laidAll Tryz.prog os Rows.stateTurnsRow.laid) #[.agg #[.slice none 0 0, .slice none 0 0, .slice none 0 0, .slice none 0 0, .slice none 0 0, .slice none 0 0, .slice none 0 0, .int .i64 0, .int .i64 0, .int .i64 0, .bool false, .int .i64 0, .int .i64 0, .int .i64 0, .int .i64 0, .int .u64 0, .slice none 0 0, .int .i64 0, .int .i64 0], .int .i64 0] 8 (World.laidAll_os _ _ _)
      (World.shaped_of_ZipB (by kernel_rfl) (by kernel_rfl)) (by kernel_rfl) (by kernel_rfl) (by kernel_rfl)
      (by rw [MakeChecks.laidMetH_plain _ _ _ (by kernel_rfl)]; exact laidMet_laidAll _ (by kernel_rfl) (by kernel_rfl))) ?_
  intro W base args ds gs before hval0 hW _ hS hL _
  have hval : ∀ (j : Nat) t v, Tryz.f5.params[j]? = some t → args[j]? = some v → Value.okWide Tryz.prog W .any base t v := hval0
  have hW' := hW
  obtain ⟨p, q, hA0, hV, rfl, _, _⟩ := hW
  have hA : DataW.TrodAll enc Tryz.prog W 0 (fun _ => true) true Tryz.f5.params.toList args.toList ds p := hA0
  have hA1 := hA
  obtain ⟨rfl, rfl⟩ := trodVars_none hV
  simp only [List.append_nil] at hW'
  have hlt : ∀ x ∈ p, x.block < W.heap.size := fun x hx => by simpa using hW'.lt x hx
  rw [Tryz.params5] at hA hval
  obtain ⟨v0, vs0, d0, ds0, p0, q0, hargs, rfl, rfl, h0, r0⟩ := trodAll_cons hA
  obtain ⟨v1, vs1, d1, ds1, p1, q1, rfl, rfl, rfl, h1, r1⟩ := trodAll_cons r0
  obtain ⟨rfl, rfl, rfl⟩ := trodAll_nil r1
  obtain rfl : args = #[v0, v1] := by cases args; simp_all
  have hS1 : (DataW.weightsEach Tryz.prog Tryz.f5.params.toList [d0, d1]).all (· ≤ reachBytes) = true := hS
  rw [Tryz.params5] at hS1
  obtain ⟨s0, hS1⟩ := sized_cons hS1
  obtain ⟨x0, ok0, R0⟩ := arg_agg (e := encSState) 20 (by kernel_rfl) Tryz.underlying33 decSState (hval 0 33 v0 rfl rfl) h0 s0
  obtain ⟨s1, hS1⟩ := sized_cons hS1
  obtain ⟨x1, ok1, R1⟩ := arg_int 20 (by kernel_rfl) Tryz.underlying3 (hval 1 3 v1 rfl rfl) h1 s1
  refine (PCall.law (law26_StateTurns_ok (law_StateTurns ok0)) (inv_of_laid hL) (args := _) (by simp only [RelVs]; exact ⟨_, _, rfl, R0, ⟨_, _, rfl, R1, rfl⟩⟩)).mono fun e W' ⟨he, hb⟩ => ?_
  subst he
  have hB := trodAll_below laidOut hb stateTurns_rd hA1 hlt
  exact ⟨_, rfl, _, _, _, [], _, [], hW', trodAll_mk1 (shut_bool Tryz.underlying4 _), hB, rfl, hb.frame _, fun h => by cases h⟩
theorem stateTurns_holds : Rows.StateTurnsSaid :=
  OpenClaim.holds_of_wide 5 Tryz.f5 rfl rfl rfl rfl rfl rfl rfl ⟨rfl, rfl, rfl, rfl, rfl⟩ rfl rfl rfl rfl rfl (by kernel_rfl) Tryz.func5 stateTurns_joined
    (of_decide_eq_true (by kernel_rfl)) (by unfold Func.isWrapper; first | (rw [if_pos (by decide +kernel)]; kernel_rfl) | (rw [if_neg (by decide +kernel)]; exact ⟨rfl, rfl⟩))
    (fun os started H enc _ => stateTurns_lifted os started H enc)
theorem stateTurns_card : Rows.StateTurnsCardSaid :=
  Claim7.holds_tied_plain_at .later [] _ _ _ _ stateTurns_holds (fun _ h => by cases h) (by kernel_rfl) (fun _ h => by cases h) stateTurns_row_tie rfl ⟨rfl, rfl⟩ (by kernel_rfl) rfl
    (fun f fn hf hfn => by
      obtain rfl : f = 5 := Option.some.inj ((show Tryz.prog.funcNamed "cardgame/cardgamelaw26.StateTurns" = some 5 by kernel_rfl).symm.trans hf) |>.symm
      obtain rfl : fn = Tryz.f5 := (Option.some.inj (Tryz.func5.symm.trans hfn)).symm
      exact ⟨by kernel_rfl, fun j t ht => by
        rw [Tryz.params5] at ht
        have hm : t ∈ [33, 3] := by simpa using Array.mem_of_getElem? ht
        have hall : ([33, 3].all fun u => !Tryz.prog.wantsStandIn u) = true := by kernel_rfl
        exact (show Tryz.prog.wantsStandIn t = false by simpa using List.all_eq_true.1 hall t hm)⟩)
    (by kernel_rfl)
end Go.Proofs.YtipchejgnmnffaaGreatDoor
