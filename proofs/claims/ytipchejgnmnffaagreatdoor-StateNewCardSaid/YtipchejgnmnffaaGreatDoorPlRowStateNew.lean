/- The row and the card of StateNew. -/
import Derived.Test.YtipchejgnmnffaaGreatDoorPlStQ
import Derived.Test.YtipchejgnmnffaaGreatDoorPlStD
import Derived.Test.YtipchejgnmnffaaGreatDoorPlStF15
import Derived.Test.YtipchejgnmnffaaGreatDoorPlPtoPlPd
import Derived.Test.YtipchejgnmnffaaGreatDoorPlPtoPlPd
import Derived.Test.YtipchejgnmnffaaGreatDoorTie
import Derived.Test.YtipchejgnmnffaaGreatDoorCards
namespace Go.Proofs.YtipchejgnmnffaaGreatDoor
open Go.ChangeShapes Go.WideShapes Go.ChangeAt Go.RowKit Go.PL Go.ChangeMaps
set_option linter.all false
theorem own : ownKnob Tryz.prog.godebug = none := by kernel_rfl
theorem laidOut : laidOutB Tryz.prog = true := by kernel_rfl
theorem inv_of_laid {W : World} (h : laidMetH Tryz.prog Rows.stateNewRow.laid W) : I0 W := trivial
theorem bytes268 : Tryz.prog.bytesOf 268 = 176 := by kernel_rfl
theorem stateNew_q0 : (Rows.stateNewRow.wf (OpenSpec.ofChange Rows.stateNewSpec)) = true := by kernel_rfl
theorem stateNew_q1 : (laidOutB Tryz.prog) = true := by kernel_rfl
theorem stateNew_q2 : (mapsRowed Tryz.prog) = true := by kernel_rfl
theorem stateNew_q3 : (Tryz.f3.params.all (Tryz.prog.readableRec ·)) = true := by kernel_rfl
theorem stateNew_q4 : (namedTie Tryz.prog Rows.stateNewRow.named Rows.stateNewSpec.vars) = true := by kernel_rfl
theorem stateNew_q5 : ((Rows.stateNewRow.stops == [])) = true := by kernel_rfl
theorem stateNew_q6 : ((Tryz.prog.stops == [])) = true := by kernel_rfl
theorem stateNew_q7 : ((Rows.stateNewRow.knobs == [])) = true := by kernel_rfl
theorem stateNew_q8 : ((Tryz.prog.stopKnobs == [])) = true := by kernel_rfl
theorem stateNew_q9 : ((Rows.stateNewRow.inPlace == Tryz.prog.inPlace 3)) = true := by kernel_rfl
theorem stateNew_q10 : ((Rows.stateNewRow.unfollowed == Tryz.prog.unfollowed 3)) = true := by kernel_rfl
theorem stateNew_q11 : ((Rows.stateNewRow.recurses == Tryz.prog.recurses 3)) = true := by kernel_rfl
theorem stateNew_q12 : ((Rows.stateNewRow.named == Tryz.prog.varsNamed 3)) = true := by kernel_rfl
theorem stateNew_q13 : ((Rows.stateNewRow.maps == (Tryz.f3.params.toList ++ Rows.stateNewSpec.plain.varTypes Tryz.prog).any (Tryz.prog.mapsRec ·))) = true := by kernel_rfl
theorem stateNew_q14 : ((Rows.stateNewRow.ifaces == (Tryz.f3.params.toList ++ Rows.stateNewSpec.plain.varTypes Tryz.prog).any (Tryz.prog.ifacesRec ·))) = true := by kernel_rfl
theorem stateNew_q15 : ((Rows.stateNewRow.mapsOut == Tryz.prog.mapsAmong Tryz.f3.resultTypes.toList)) = true := by kernel_rfl
theorem stateNew_q16 : ((Rows.stateNewRow.loops == (Tryz.f3.params.toList ++ Rows.stateNewSpec.plain.varTypes Tryz.prog).any (Tryz.prog.loopsFrom ·))) = true := by kernel_rfl
theorem stateNew_q17 : ((Rows.stateNewRow.wideKeys == (Tryz.f3.params.toList ++ Rows.stateNewSpec.plain.varTypes Tryz.prog ++ Tryz.f3.resultTypes.toList).any (Tryz.prog.wideKeysFrom ·))) = true := by kernel_rfl
theorem stateNew_q18 : (Rows.stateNewSpec.vars.all (Tryz.prog.varReadable ·)) = true := by kernel_rfl
theorem stateNew_q19 : (Tryz.f3.resultTypes.all (fun t => Tryz.prog.readableRec t && decide (t < Tryz.prog.types.size))) = true := by kernel_rfl
theorem stateNew_q20 : ((Rows.stateNewRow.ifacesOut == Tryz.f3.resultTypes.toList.any (Tryz.prog.ifacesRec ·))) = true := by kernel_rfl
theorem stateNew_q21 : ((Rows.stateNewRow.loopsOut == Tryz.f3.resultTypes.toList.any (Tryz.prog.loopsFrom ·))) = true := by kernel_rfl
theorem stateNew_q22 : ((Rows.stateNewRow.plainKeys == Tryz.prog.plainKeys)) = true := by kernel_rfl
theorem stateNew_q23 : (Rows.stateNewRow.shortTexts.isNone) = true := by kernel_rfl
theorem stateNew_q24 : (Tryz.prog.stopsHeard) = true := by kernel_rfl
theorem stateNew_q25 : (Tryz.prog.mayEnter) = true := by kernel_rfl
theorem stateNew_q26 : ((Rows.stateNewRow.lifted == Tryz.prog.liftsFinal)) = true := by kernel_rfl
theorem stateNew_q27 : ((Tryz.prog.make == some Rows.stateNewRow.make)) = true := by kernel_rfl
theorem stateNew_q28 : (Rows.stateNewRow.domain.isEmpty && (Rows.stateNewRow.kinds == [])) = true := by kernel_rfl
theorem stateNew_q29 : ((Rows.stateNewRow.pinned == Rows.stateNewRow.pinnedBy)) = true := by kernel_rfl
theorem stateNew_q30 : ((Rows.stateNewRow.veiled == (Tryz.f3.params.toList ++ Rows.stateNewSpec.plain.varTypes Tryz.prog ++ Tryz.f3.resultTypes.toList).any (Tryz.prog.veiledRec ·))) = true := by kernel_rfl
theorem stateNew_q31 : (Rows.stateNewRow.veiledFits Tryz.prog Tryz.f3.params.toList (Tryz.f3.params.toList ++ Rows.stateNewSpec.plain.varTypes Tryz.prog ++ Tryz.f3.resultTypes.toList)) = true := by kernel_rfl
theorem stateNew_joined : joinedFacts Tryz.prog 3 Tryz.f3 Rows.stateNewSpec Rows.stateNewRow = true := joined_of stateNew_q0 stateNew_q1 stateNew_q2 stateNew_q3 stateNew_q4 stateNew_q5 stateNew_q6 stateNew_q7 stateNew_q8 stateNew_q9 stateNew_q10 stateNew_q11 stateNew_q12 stateNew_q13 stateNew_q14 stateNew_q15 stateNew_q16 stateNew_q17 stateNew_q18 stateNew_q19 stateNew_q20 stateNew_q21 stateNew_q22 stateNew_q23 stateNew_q24 stateNew_q25 stateNew_q26 stateNew_q27 stateNew_q28 stateNew_q29 stateNew_q30 stateNew_q31

theorem stateNew_rd : (Tryz.f3.params.toList.all fun t => Tryz.prog.readableRec t && decide (t < Tryz.prog.types.size)) = true := by kernel_rfl
set_option maxRecDepth 100000 in
theorem stateNew_lifted (os : Os) (started : os.Started) (H : Type) (enc : TypeId × Value → H) :
    ReturnsInHanded {} Tryz.checked os 3 .any (fun w args => (Rows.stateNewSpec.pre enc Tryz.prog Tryz.f3 [] false w args ∧ laidMetH Tryz.prog Rows.stateNewRow.laid w) ∧ sizedMet enc Tryz.prog Tryz.f3 (OpenSpec.ofChange Rows.stateNewSpec) false w args)
      (Rows.stateNewSpec.post enc Tryz.prog Tryz.f3 false true false false) := by
  refine returnsInHanded_of_change_and (C := Tryz.checked) (X := fun w _ => laidMetH Tryz.prog Rows.stateNewRow.laid w) (fun _ _ _ hh h => h.of_heap hh) own started (by kernel_rfl) Tryz.func3
    (ChangeSpec.witness_shaped (enc := enc) (C := Tryz.checked) (os := os) (X := fun w _ => laidMetH Tryz.prog Rows.stateNewRow.laid w) false (World.laidAll Tryz.prog os Rows.stateNewRow.laid) #[.slice none 0 0, .agg #[.int .i64 0, .int .i64 0], .int .u64 0] 8 (World.laidAll_os _ _ _)
      (World.shaped_of_ZipB (by kernel_rfl) (by kernel_rfl)) (by kernel_rfl) (by kernel_rfl) (by kernel_rfl)
      (by rw [MakeChecks.laidMetH_plain _ _ _ (by kernel_rfl)]; exact laidMet_laidAll _ (by kernel_rfl) (by kernel_rfl))) ?_
  intro W base args ds gs before hval0 hW _ hS hL _
  have hval : ∀ (j : Nat) t v, Tryz.f3.params[j]? = some t → args[j]? = some v → Value.okWide Tryz.prog W .any base t v := hval0
  have hW' := hW
  obtain ⟨p, q, hA0, hV, rfl, _, _⟩ := hW
  have hA : DataW.TrodAll enc Tryz.prog W 0 (fun _ => true) true Tryz.f3.params.toList args.toList ds p := hA0
  have hA1 := hA
  obtain ⟨rfl, rfl⟩ := trodVars_none hV
  simp only [List.append_nil] at hW'
  have hlt : ∀ x ∈ p, x.block < W.heap.size := fun x hx => by simpa using hW'.lt x hx
  rw [Tryz.params3] at hA hval
  obtain ⟨v0, vs0, d0, ds0, p0, q0, hargs, rfl, rfl, h0, r0⟩ := trodAll_cons hA
  obtain ⟨v1, vs1, d1, ds1, p1, q1, rfl, rfl, rfl, h1, r1⟩ := trodAll_cons r0
  obtain ⟨v2, vs2, d2, ds2, p2, q2, rfl, rfl, rfl, h2, r2⟩ := trodAll_cons r1
  obtain ⟨rfl, rfl, rfl⟩ := trodAll_nil r2
  obtain rfl : args = #[v0, v1, v2] := by cases args; simp_all
  have hS1 : (DataW.weightsEach Tryz.prog Tryz.f3.params.toList [d0, d1, d2]).all (· ≤ reachBytes) = true := hS
  rw [Tryz.params3] at hS1
  obtain ⟨s0, hS1⟩ := sized_cons hS1
  obtain ⟨x0, ok0, R0⟩ := arg_sl (e := encSCard) 20 (by kernel_rfl) Tryz.underlying22 (dL Tryz.underlying22 bytes268 decSCard) (hval 0 22 v0 rfl rfl) h0 s0
  obtain ⟨s1, hS1⟩ := sized_cons hS1
  obtain ⟨x1, ok1, R1⟩ := arg_arr (e := eA2 (eI .i64)) 20 (by kernel_rfl) Tryz.underlying23 (dA2 Tryz.underlying23 (dI Tryz.underlying3)) (hval 1 23 v1 rfl rfl) h1 s1
  obtain ⟨s2, hS1⟩ := sized_cons hS1
  obtain ⟨x2, ok2, R2⟩ := arg_int 20 (by kernel_rfl) Tryz.underlying24 (hval 2 24 v2 rfl rfl) h2 s2
  refine (PCall.law (law26_StateNew_ok (law_StateNew ok2)) (inv_of_laid hL) (args := _) (by simp only [RelVs]; exact ⟨_, _, rfl, R0, ⟨_, _, rfl, R1, ⟨_, _, rfl, R2, rfl⟩⟩⟩)).mono fun e W' ⟨he, hb⟩ => ?_
  subst he
  have hB := trodAll_below laidOut hb stateNew_rd hA1 hlt
  exact ⟨_, rfl, _, _, _, [], _, [], hW', trodAll_mk1 (shut_bool Tryz.underlying4 _), hB, rfl, hb.frame _, fun h => by cases h⟩
theorem stateNew_holds : Rows.StateNewSaid :=
  OpenClaim.holds_of_wide 3 Tryz.f3 rfl rfl rfl rfl rfl rfl rfl ⟨rfl, rfl, rfl, rfl, rfl⟩ rfl rfl rfl rfl rfl (by kernel_rfl) Tryz.func3 stateNew_joined
    (of_decide_eq_true (by kernel_rfl)) (by unfold Func.isWrapper; first | (rw [if_pos (by decide +kernel)]; kernel_rfl) | (rw [if_neg (by decide +kernel)]; exact ⟨rfl, rfl⟩))
    (fun os started H enc _ => stateNew_lifted os started H enc)
theorem stateNew_card : Rows.StateNewCardSaid :=
  Claim7.holds_tied_plain_at .later [] _ _ _ _ stateNew_holds (fun _ h => by cases h) (by kernel_rfl) (fun _ h => by cases h) stateNew_row_tie rfl ⟨rfl, rfl⟩ (by kernel_rfl) rfl
    (fun f fn hf hfn => by
      obtain rfl : f = 3 := Option.some.inj ((show Tryz.prog.funcNamed "cardgame/cardgamelaw26.StateNew" = some 3 by kernel_rfl).symm.trans hf) |>.symm
      obtain rfl : fn = Tryz.f3 := (Option.some.inj (Tryz.func3.symm.trans hfn)).symm
      exact ⟨by kernel_rfl, fun j t ht => by
        rw [Tryz.params3] at ht
        have hm : t ∈ [22, 23, 24] := by simpa using Array.mem_of_getElem? ht
        have hall : ([22, 23, 24].all fun u => !Tryz.prog.wantsStandIn u) = true := by kernel_rfl
        exact (show Tryz.prog.wantsStandIn t = false by simpa using List.all_eq_true.1 hall t hm)⟩)
    (by kernel_rfl)
end Go.Proofs.YtipchejgnmnffaaGreatDoor
