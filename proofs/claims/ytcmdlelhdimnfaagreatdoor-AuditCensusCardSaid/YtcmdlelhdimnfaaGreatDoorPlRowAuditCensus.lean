/- The row and the card of AuditCensus. -/
import Derived.Test.YtcmdlelhdimnfaaGreatDoorPlAcL
import Derived.Test.YtcmdlelhdimnfaaGreatDoorPlAcD
import Derived.Test.YtcmdlelhdimnfaaGreatDoorPlPvtoPlPd
import Derived.Test.YtcmdlelhdimnfaaGreatDoorPlPvtoPlPd
import Derived.Test.YtcmdlelhdimnfaaGreatDoorTie
import Derived.Test.YtcmdlelhdimnfaaGreatDoorCards
namespace Go.Proofs.YtcmdlelhdimnfaaGreatDoor
open Go.ChangeShapes Go.WideShapes Go.ChangeAt Go.RowKit Go.PL Go.ChangeMaps
set_option linter.all false
theorem own : ownKnob Tryz.prog.godebug = none := by kernel_rfl
theorem laidOut : laidOutB Tryz.prog = true := by kernel_rfl
theorem inv_of_laid {W : World} (h : laidMetH Tryz.prog Rows.auditCensusRow.laid W) : I0 W := trivial
theorem auditCensus_q0 : (Rows.auditCensusRow.wf (OpenSpec.ofChange Rows.auditCensusSpec)) = true := by kernel_rfl
theorem auditCensus_q1 : (laidOutB Tryz.prog) = true := by kernel_rfl
theorem auditCensus_q2 : (mapsRowed Tryz.prog) = true := by kernel_rfl
theorem auditCensus_q3 : (Tryz.f3.params.all (Tryz.prog.readableRec ·)) = true := by kernel_rfl
theorem auditCensus_q4 : (namedTie Tryz.prog Rows.auditCensusRow.named Rows.auditCensusSpec.vars) = true := by kernel_rfl
theorem auditCensus_q5 : ((Rows.auditCensusRow.stops == [])) = true := by kernel_rfl
theorem auditCensus_q6 : ((Tryz.prog.stops == [])) = true := by kernel_rfl
theorem auditCensus_q7 : ((Rows.auditCensusRow.knobs == [])) = true := by kernel_rfl
theorem auditCensus_q8 : ((Tryz.prog.stopKnobs == [])) = true := by kernel_rfl
theorem auditCensus_q9 : ((Rows.auditCensusRow.inPlace == Tryz.prog.inPlace 3)) = true := by kernel_rfl
theorem auditCensus_q10 : ((Rows.auditCensusRow.unfollowed == Tryz.prog.unfollowed 3)) = true := by kernel_rfl
theorem auditCensus_q11 : ((Rows.auditCensusRow.recurses == Tryz.prog.recurses 3)) = true := by kernel_rfl
theorem auditCensus_q12 : ((Rows.auditCensusRow.named == Tryz.prog.varsNamed 3)) = true := by kernel_rfl
theorem auditCensus_q13 : ((Rows.auditCensusRow.maps == (Tryz.f3.params.toList ++ Rows.auditCensusSpec.plain.varTypes Tryz.prog).any (Tryz.prog.mapsRec ·))) = true := by kernel_rfl
theorem auditCensus_q14 : ((Rows.auditCensusRow.ifaces == (Tryz.f3.params.toList ++ Rows.auditCensusSpec.plain.varTypes Tryz.prog).any (Tryz.prog.ifacesRec ·))) = true := by kernel_rfl
theorem auditCensus_q15 : ((Rows.auditCensusRow.mapsOut == Tryz.prog.mapsAmong Tryz.f3.resultTypes.toList)) = true := by kernel_rfl
theorem auditCensus_q16 : ((Rows.auditCensusRow.loops == (Tryz.f3.params.toList ++ Rows.auditCensusSpec.plain.varTypes Tryz.prog).any (Tryz.prog.loopsFrom ·))) = true := by kernel_rfl
theorem auditCensus_q17 : ((Rows.auditCensusRow.wideKeys == (Tryz.f3.params.toList ++ Rows.auditCensusSpec.plain.varTypes Tryz.prog ++ Tryz.f3.resultTypes.toList).any (Tryz.prog.wideKeysFrom ·))) = true := by kernel_rfl
theorem auditCensus_q18 : (Rows.auditCensusSpec.vars.all (Tryz.prog.varReadable ·)) = true := by kernel_rfl
theorem auditCensus_q19 : (Tryz.f3.resultTypes.all (fun t => Tryz.prog.readableRec t && decide (t < Tryz.prog.types.size))) = true := by kernel_rfl
theorem auditCensus_q20 : ((Rows.auditCensusRow.ifacesOut == Tryz.f3.resultTypes.toList.any (Tryz.prog.ifacesRec ·))) = true := by kernel_rfl
theorem auditCensus_q21 : ((Rows.auditCensusRow.loopsOut == Tryz.f3.resultTypes.toList.any (Tryz.prog.loopsFrom ·))) = true := by kernel_rfl
theorem auditCensus_q22 : ((Rows.auditCensusRow.plainKeys == Tryz.prog.plainKeys)) = true := by kernel_rfl
theorem auditCensus_q23 : (Rows.auditCensusRow.shortTexts.isNone) = true := by kernel_rfl
theorem auditCensus_q24 : (Tryz.prog.stopsHeard) = true := by kernel_rfl
theorem auditCensus_q25 : (Tryz.prog.mayEnter) = true := by kernel_rfl
theorem auditCensus_q26 : ((Rows.auditCensusRow.lifted == Tryz.prog.liftsFinal)) = true := by kernel_rfl
theorem auditCensus_q27 : ((Tryz.prog.make == some Rows.auditCensusRow.make)) = true := by kernel_rfl
theorem auditCensus_q28 : (Rows.auditCensusRow.domain.isEmpty && (Rows.auditCensusRow.kinds == [])) = true := by kernel_rfl
theorem auditCensus_q29 : ((Rows.auditCensusRow.pinned == Rows.auditCensusRow.pinnedBy)) = true := by kernel_rfl
theorem auditCensus_q30 : ((Rows.auditCensusRow.veiled == (Tryz.f3.params.toList ++ Rows.auditCensusSpec.plain.varTypes Tryz.prog ++ Tryz.f3.resultTypes.toList).any (Tryz.prog.veiledRec ·))) = true := by kernel_rfl
theorem auditCensus_q31 : (Rows.auditCensusRow.veiledFits Tryz.prog Tryz.f3.params.toList (Tryz.f3.params.toList ++ Rows.auditCensusSpec.plain.varTypes Tryz.prog ++ Tryz.f3.resultTypes.toList)) = true := by kernel_rfl
theorem auditCensus_joined : joinedFacts Tryz.prog 3 Tryz.f3 Rows.auditCensusSpec Rows.auditCensusRow = true := joined_of auditCensus_q0 auditCensus_q1 auditCensus_q2 auditCensus_q3 auditCensus_q4 auditCensus_q5 auditCensus_q6 auditCensus_q7 auditCensus_q8 auditCensus_q9 auditCensus_q10 auditCensus_q11 auditCensus_q12 auditCensus_q13 auditCensus_q14 auditCensus_q15 auditCensus_q16 auditCensus_q17 auditCensus_q18 auditCensus_q19 auditCensus_q20 auditCensus_q21 auditCensus_q22 auditCensus_q23 auditCensus_q24 auditCensus_q25 auditCensus_q26 auditCensus_q27 auditCensus_q28 auditCensus_q29 auditCensus_q30 auditCensus_q31

theorem auditCensus_rd : (Tryz.f3.params.toList.all fun t => Tryz.prog.readableRec t && decide (t < Tryz.prog.types.size)) = true := by kernel_rfl
set_option maxRecDepth 100000 in
theorem auditCensus_lifted (os : Os) (started : os.Started) (H : Type) (enc : TypeId × Value → H) :
    ReturnsInHanded {} Tryz.checked os 3 .any (fun w args => (Rows.auditCensusSpec.pre enc Tryz.prog Tryz.f3 [] false w args ∧ laidMetH Tryz.prog Rows.auditCensusRow.laid w) ∧ sizedMet enc Tryz.prog Tryz.f3 (OpenSpec.ofChange Rows.auditCensusSpec) false w args)
      (Rows.auditCensusSpec.post enc Tryz.prog Tryz.f3 false true false false) := by
  refine returnsInHanded_of_change_and (C := Tryz.checked) (X := fun w _ => laidMetH Tryz.prog Rows.auditCensusRow.laid w) (fun _ _ _ hh h => h.of_heap hh) own started (by kernel_rfl) Tryz.func3
    (ChangeSpec.witness_shaped (enc := enc) (C := Tryz.checked) (os := os) (X := fun w _ => laidMetH Tryz.prog Rows.auditCensusRow.laid w) false (World.laidAll Tryz.prog os Rows.auditCensusRow.laid) #[.agg #[.slice none 0 0, .slice none 0 0, .slice none 0 0, .slice none 0 0, .slice none 0 0, .slice none 0 0, .slice none 0 0, .int .i64 0, .int .i64 0, .int .i64 0, .bool false, .int .i64 0, .int .i64 0, .int .i64 0, .int .i64 0, .int .u64 0, .slice none 0 0, .int .i64 0, .int .i64 0], .int .i64 0, .int .i64 0] 8 (World.laidAll_os _ _ _)
      (World.shaped_of_ZipB (by kernel_rfl) (by kernel_rfl)) (by kernel_rfl) (by kernel_rfl) (by kernel_rfl)
      (by rw [MakeChecks.laidMetH_plain _ _ _ (by kernel_rfl)]; exact laidMet_laidAll _ (by kernel_rfl) (by kernel_rfl))) ?_
  intro W base args ds gs before hval0 hW _ hS hL _
  have hval : ∀ (j : Nat) t v, Tryz.f3.params[j]? = some t → args[j]? = some v → Value.okWide Tryz.prog W .any base t v := hval0
  have hW' := hW
  obtain ⟨p, q, hA0, hV, rfl, _, _⟩ := hW
  have hA : DataW.TrodAll enc Tryz.prog W 0 (fun _ => true) true Tryz.f3.params.toList args.toList ds p := hA0
  have hA1 := hA
  obtain ⟨rfl, rfl⟩ := trodVars_none hV
  simp only [List.append_nil] at hW'
  have hlt : ∀ x ∈ p, x.block < W.heap.size := fun x hx => by simpa using hW'.lt x hx
  rw [Tryz.params3] at hA hval
  obtain ⟨v0, vs0, d0, ds0, p0, q0, hargs, rfl, rfl, h0, r0⟩ := trodAll_cons hA
  obtain ⟨v1, vs1, d1, ds1, p1, q1, rfl, rfl, rfl, h1, r1⟩ := trodAll_cons r0
  obtain ⟨v2, vs2, d2, ds2, p2, q2, rfl, rfl, rfl, h2, r2⟩ := trodAll_cons r1
  obtain ⟨rfl, rfl, rfl⟩ := trodAll_nil r2
  obtain rfl : args = #[v0, v1, v2] := by cases args; simp_all
  have hS1 : (DataW.weightsEach Tryz.prog Tryz.f3.params.toList [d0, d1, d2]).all (· ≤ reachBytes) = true := hS
  rw [Tryz.params3] at hS1
  obtain ⟨s0, hS1⟩ := sized_cons hS1
  obtain ⟨x0, ok0, R0⟩ := arg_agg (e := encSState) 20 (by kernel_rfl) Tryz.underlying30 decSState (hval 0 30 v0 rfl rfl) h0 s0
  obtain ⟨s1, hS1⟩ := sized_cons hS1
  obtain ⟨x1, ok1, R1⟩ := arg_int 20 (by kernel_rfl) Tryz.underlying3 (hval 1 3 v1 rfl rfl) h1 s1
  obtain ⟨s2, hS1⟩ := sized_cons hS1
  obtain ⟨x2, ok2, R2⟩ := arg_int 20 (by kernel_rfl) Tryz.underlying3 (hval 2 3 v2 rfl rfl) h2 s2
  refine (PCall.law (law57_AuditCensus_ok (law_AuditCensus _ _ _)) (inv_of_laid hL) (args := _) (by simp only [RelVs]; exact ⟨_, _, rfl, R0, ⟨_, _, rfl, R1, ⟨_, _, rfl, R2, rfl⟩⟩⟩)).mono fun e W' ⟨he, hb⟩ => ?_
  subst he
  have hB := trodAll_below laidOut hb auditCensus_rd hA1 hlt
  exact ⟨_, rfl, _, _, _, [], _, [], hW', trodAll_mk1 (shut_bool Tryz.underlying4 _), hB, rfl, hb.frame _, fun h => by cases h⟩
theorem auditCensus_holds : Rows.AuditCensusSaid :=
  OpenClaim.holds_of_wide 3 Tryz.f3 rfl rfl rfl rfl rfl rfl rfl ⟨rfl, rfl, rfl, rfl, rfl⟩ rfl rfl rfl rfl rfl (by kernel_rfl) Tryz.func3 auditCensus_joined
    (of_decide_eq_true (by kernel_rfl)) (by unfold Func.isWrapper; first | (rw [if_pos (by decide +kernel)]; kernel_rfl) | (rw [if_neg (by decide +kernel)]; exact ⟨rfl, rfl⟩))
    (fun os started H enc _ => auditCensus_lifted os started H enc)
theorem auditCensus_card : Rows.AuditCensusCardSaid :=
  Claim7.holds_tied_plain_at .later [] _ _ _ _ auditCensus_holds (fun _ h => by cases h) (by kernel_rfl) (fun _ h => by cases h) auditCensus_row_tie rfl ⟨rfl, rfl⟩ (by kernel_rfl) rfl
    (fun f fn hf hfn => by
      obtain rfl : f = 3 := Option.some.inj ((show Tryz.prog.funcNamed "cardgame/cardgamelaw57.AuditCensus" = some 3 by kernel_rfl).symm.trans hf) |>.symm
      obtain rfl : fn = Tryz.f3 := (Option.some.inj (Tryz.func3.symm.trans hfn)).symm
      exact ⟨by kernel_rfl, fun j t ht => by
        rw [Tryz.params3] at ht
        have hm : t ∈ [30, 3, 3] := by simpa using Array.mem_of_getElem? ht
        have hall : ([30, 3, 3].all fun u => !Tryz.prog.wantsStandIn u) = true := by kernel_rfl
        exact (show Tryz.prog.wantsStandIn t = false by simpa using List.all_eq_true.1 hall t hm)⟩)
    (by kernel_rfl)
end Go.Proofs.YtcmdlelhdimnfaaGreatDoor
