/- The row and the card of ManaPaysAs. -/
import Derived.Test.YtieikooalmfmfaaDoorPlMaP
import Derived.Test.YtieikooalmfmfaaDoorPlMaD
import Derived.Test.YtieikooalmfmfaaDoorPlWtoPlPd
import Derived.Test.YtieikooalmfmfaaDoorPlWtoPlPd
import Derived.Test.YtieikooalmfmfaaDoorTie
import Derived.Test.YtieikooalmfmfaaDoorCards
namespace Go.Proofs.YtieikooalmfmfaaDoor
open Go.ChangeShapes Go.WideShapes Go.ChangeAt Go.RowKit Go.PL Go.ChangeMaps
set_option linter.all false
theorem own : ownKnob Tryd.prog.godebug = none := by kernel_rfl
theorem laidOut : laidOutB Tryd.prog = true := by kernel_rfl
theorem gPow : Tryd.prog.globalNamed "internal/strconv.uint64pow10" = some 3 := by kernel_rfl
theorem tPow : (Tryd.prog.globals[3]?).map (·.type) = some 144 := by kernel_rfl
theorem cPow : Tryd.prog.cellsOf 144 = 20 := by kernel_rfl
theorem cPe : Tryd.prog.cellsOf 102 = 1 := by kernel_rfl
theorem gSyntax : Tryd.prog.globalNamed "strconv.ErrSyntax" = some 1 := by kernel_rfl
theorem gRange : Tryd.prog.globalNamed "strconv.ErrRange" = some 2 := by kernel_rfl
theorem tSyntax : (Tryd.prog.globals[1]?).map (·.type) = some 91 := by kernel_rfl
theorem tRange : (Tryd.prog.globals[2]?).map (·.type) = some 91 := by kernel_rfl
theorem inv_of_laid {W : World} (h : laidMetH Tryd.prog Rows.manaPaysAsRow.laid W) : I0 W := by
  rw [MakeChecks.laidMetH_plain _ _ _ (by kernel_rfl)] at h
  have hp := h.filter (fun x => x.1 == "internal/strconv.uint64pow10")
  have hs := h.filter (fun x => x.1 == "strconv.ErrSyntax")
  have hr := h.filter (fun x => x.1 == "strconv.ErrRange")
  exact ⟨Lib.tabIs_of_head (rest := []) gPow tPow Tryd.underlying144 Tryd.underlying102 cPe cPow hp, var_iface (rest := []) gSyntax tSyntax Tryd.underlying91 hs, var_iface (rest := []) gRange tRange Tryd.underlying91 hr⟩
theorem manaPaysAs_q0 : (Rows.manaPaysAsRow.wf (OpenSpec.ofChange Rows.manaPaysAsSpec)) = true := by kernel_rfl
theorem manaPaysAs_q1 : (laidOutB Tryd.prog) = true := by kernel_rfl
theorem manaPaysAs_q2 : (mapsRowed Tryd.prog) = true := by kernel_rfl
theorem manaPaysAs_q3 : (Tryd.f5.params.all (Tryd.prog.readableRec ·)) = true := by kernel_rfl
theorem manaPaysAs_q4 : (namedTie Tryd.prog Rows.manaPaysAsRow.named Rows.manaPaysAsSpec.vars) = true := by kernel_rfl
theorem manaPaysAs_q5 : ((Rows.manaPaysAsRow.stops == [])) = true := by kernel_rfl
theorem manaPaysAs_q6 : ((Tryd.prog.stops == [])) = true := by kernel_rfl
theorem manaPaysAs_q7 : ((Rows.manaPaysAsRow.knobs == [])) = true := by kernel_rfl
theorem manaPaysAs_q8 : ((Tryd.prog.stopKnobs == [])) = true := by kernel_rfl
theorem manaPaysAs_q9 : ((Rows.manaPaysAsRow.inPlace == Tryd.prog.inPlace 5)) = true := by kernel_rfl
theorem manaPaysAs_q10 : ((Rows.manaPaysAsRow.unfollowed == Tryd.prog.unfollowed 5)) = true := by kernel_rfl
theorem manaPaysAs_q11 : ((Rows.manaPaysAsRow.recurses == Tryd.prog.recurses 5)) = true := by kernel_rfl
theorem manaPaysAs_q12 : ((Rows.manaPaysAsRow.named == Tryd.prog.varsNamed 5)) = true := by kernel_rfl
theorem manaPaysAs_q13 : ((Rows.manaPaysAsRow.maps == (Tryd.f5.params.toList ++ Rows.manaPaysAsSpec.plain.varTypes Tryd.prog).any (Tryd.prog.mapsRec ·))) = true := by kernel_rfl
theorem manaPaysAs_q14 : ((Rows.manaPaysAsRow.ifaces == (Tryd.f5.params.toList ++ Rows.manaPaysAsSpec.plain.varTypes Tryd.prog).any (Tryd.prog.ifacesRec ·))) = true := by kernel_rfl
theorem manaPaysAs_q15 : ((Rows.manaPaysAsRow.mapsOut == Tryd.prog.mapsAmong Tryd.f5.resultTypes.toList)) = true := by kernel_rfl
theorem manaPaysAs_q16 : ((Rows.manaPaysAsRow.loops == (Tryd.f5.params.toList ++ Rows.manaPaysAsSpec.plain.varTypes Tryd.prog).any (Tryd.prog.loopsFrom ·))) = true := by kernel_rfl
theorem manaPaysAs_q17 : ((Rows.manaPaysAsRow.wideKeys == (Tryd.f5.params.toList ++ Rows.manaPaysAsSpec.plain.varTypes Tryd.prog ++ Tryd.f5.resultTypes.toList).any (Tryd.prog.wideKeysFrom ·))) = true := by kernel_rfl
theorem manaPaysAs_q18 : (Rows.manaPaysAsSpec.vars.all (Tryd.prog.varReadable ·)) = true := by kernel_rfl
theorem manaPaysAs_q19 : (Tryd.f5.resultTypes.all (fun t => Tryd.prog.readableRec t && decide (t < Tryd.prog.types.size))) = true := by kernel_rfl
theorem manaPaysAs_q20 : ((Rows.manaPaysAsRow.ifacesOut == Tryd.f5.resultTypes.toList.any (Tryd.prog.ifacesRec ·))) = true := by kernel_rfl
theorem manaPaysAs_q21 : ((Rows.manaPaysAsRow.loopsOut == Tryd.f5.resultTypes.toList.any (Tryd.prog.loopsFrom ·))) = true := by kernel_rfl
theorem manaPaysAs_q22 : ((Rows.manaPaysAsRow.plainKeys == Tryd.prog.plainKeys)) = true := by kernel_rfl
theorem manaPaysAs_q23 : (Rows.manaPaysAsRow.shortTexts.isNone) = true := by kernel_rfl
theorem manaPaysAs_q24 : (Tryd.prog.stopsHeard) = true := by kernel_rfl
theorem manaPaysAs_q25 : (Tryd.prog.mayEnter) = true := by kernel_rfl
theorem manaPaysAs_q26 : ((Rows.manaPaysAsRow.lifted == Tryd.prog.liftsFinal)) = true := by kernel_rfl
theorem manaPaysAs_q27 : ((Tryd.prog.make == some Rows.manaPaysAsRow.make)) = true := by kernel_rfl
theorem manaPaysAs_q28 : (Rows.manaPaysAsRow.domain.isEmpty && (Rows.manaPaysAsRow.kinds == [])) = true := by kernel_rfl
theorem manaPaysAs_q29 : ((Rows.manaPaysAsRow.pinned == Rows.manaPaysAsRow.pinnedBy)) = true := by kernel_rfl
theorem manaPaysAs_q30 : ((Rows.manaPaysAsRow.veiled == (Tryd.f5.params.toList ++ Rows.manaPaysAsSpec.plain.varTypes Tryd.prog ++ Tryd.f5.resultTypes.toList).any (Tryd.prog.veiledRec ·))) = true := by kernel_rfl
theorem manaPaysAs_q31 : (Rows.manaPaysAsRow.veiledFits Tryd.prog Tryd.f5.params.toList (Tryd.f5.params.toList ++ Rows.manaPaysAsSpec.plain.varTypes Tryd.prog ++ Tryd.f5.resultTypes.toList)) = true := by kernel_rfl
theorem manaPaysAs_joined : joinedFacts Tryd.prog 5 Tryd.f5 Rows.manaPaysAsSpec Rows.manaPaysAsRow = true := joined_of manaPaysAs_q0 manaPaysAs_q1 manaPaysAs_q2 manaPaysAs_q3 manaPaysAs_q4 manaPaysAs_q5 manaPaysAs_q6 manaPaysAs_q7 manaPaysAs_q8 manaPaysAs_q9 manaPaysAs_q10 manaPaysAs_q11 manaPaysAs_q12 manaPaysAs_q13 manaPaysAs_q14 manaPaysAs_q15 manaPaysAs_q16 manaPaysAs_q17 manaPaysAs_q18 manaPaysAs_q19 manaPaysAs_q20 manaPaysAs_q21 manaPaysAs_q22 manaPaysAs_q23 manaPaysAs_q24 manaPaysAs_q25 manaPaysAs_q26 manaPaysAs_q27 manaPaysAs_q28 manaPaysAs_q29 manaPaysAs_q30 manaPaysAs_q31

theorem manaPaysAs_rd : (Tryd.f5.params.toList.all fun t => Tryd.prog.readableRec t && decide (t < Tryd.prog.types.size)) = true := by kernel_rfl
set_option maxRecDepth 100000 in
theorem manaPaysAs_lifted (os : Os) (started : os.Started) (H : Type) (enc : TypeId × Value → H) :
    ReturnsInHanded {} Tryd.checked os 5 .any (fun w args => (Rows.manaPaysAsSpec.pre enc Tryd.prog Tryd.f5 [] false w args ∧ laidMetH Tryd.prog Rows.manaPaysAsRow.laid w) ∧ sizedMet enc Tryd.prog Tryd.f5 (OpenSpec.ofChange Rows.manaPaysAsSpec) false w args)
      (Rows.manaPaysAsSpec.post enc Tryd.prog Tryd.f5 false true false false) := by
  refine returnsInHanded_of_change_and (C := Tryd.checked) (X := fun w _ => laidMetH Tryd.prog Rows.manaPaysAsRow.laid w) (fun _ _ _ hh h => h.of_heap hh) own started (by kernel_rfl) Tryd.func5
    (ChangeSpec.witness_shaped (enc := enc) (C := Tryd.checked) (os := os) (X := fun w _ => laidMetH Tryd.prog Rows.manaPaysAsRow.laid w) false (World.laidAll Tryd.prog os Rows.manaPaysAsRow.laid) #[.agg #[.int .i64 0, .int .i64 0, .int .i64 0, .int .i64 0, .int .i64 0, .int .i64 0], .agg #[.int .i64 0, .int .i64 0, .int .i64 0, .int .i64 0, .int .i64 0, .int .i64 0, .int .i64 0], .int .i64 0] 8 (World.laidAll_os _ _ _)
      (World.shaped_of_ZipB (by kernel_rfl) (by kernel_rfl)) (by kernel_rfl) (by kernel_rfl) (by kernel_rfl)
      (by rw [MakeChecks.laidMetH_plain _ _ _ (by kernel_rfl)]; exact laidMet_laidAll _ (by kernel_rfl) (by kernel_rfl))) ?_
  intro W base args ds gs before hval0 hW _ hS hL _
  have hval : ∀ (j : Nat) t v, Tryd.f5.params[j]? = some t → args[j]? = some v → Value.okWide Tryd.prog W .any base t v := hval0
  have hW' := hW
  obtain ⟨p, q, hA0, hV, rfl, _, _⟩ := hW
  have hA : DataW.TrodAll enc Tryd.prog W 0 (fun _ => true) true Tryd.f5.params.toList args.toList ds p := hA0
  have hA1 := hA
  obtain ⟨rfl, rfl⟩ := trodVars_none hV
  simp only [List.append_nil] at hW'
  have hlt : ∀ x ∈ p, x.block < W.heap.size := fun x hx => by simpa using hW'.lt x hx
  rw [Tryd.params5] at hA hval
  obtain ⟨v0, vs0, d0, ds0, p0, q0, hargs, rfl, rfl, h0, r0⟩ := trodAll_cons hA
  obtain ⟨v1, vs1, d1, ds1, p1, q1, rfl, rfl, rfl, h1, r1⟩ := trodAll_cons r0
  obtain ⟨v2, vs2, d2, ds2, p2, q2, rfl, rfl, rfl, h2, r2⟩ := trodAll_cons r1
  obtain ⟨rfl, rfl, rfl⟩ := trodAll_nil r2
  obtain rfl : args = #[v0, v1, v2] := by cases args; simp_all
  have hS1 : (DataW.weightsEach Tryd.prog Tryd.f5.params.toList [d0, d1, d2]).all (· ≤ reachBytes) = true := hS
  rw [Tryd.params5] at hS1
  obtain ⟨s0, hS1⟩ := sized_cons hS1
  obtain ⟨x0, ok0, R0⟩ := arg_arr (e := eA6 (eI .i64)) 20 (by kernel_rfl) Tryd.underlying31 (dA6 Tryd.underlying31 (dI Tryd.underlying3)) (hval 0 31 v0 rfl rfl) h0 s0
  obtain ⟨s1, hS1⟩ := sized_cons hS1
  obtain ⟨x1, ok1, R1⟩ := arg_agg (e := encSCost) 20 (by kernel_rfl) Tryd.underlying34 decSCost (hval 1 34 v1 rfl rfl) h1 s1
  obtain ⟨s2, hS1⟩ := sized_cons hS1
  obtain ⟨x2, ok2, R2⟩ := arg_int 20 (by kernel_rfl) Tryd.underlying3 (hval 2 3 v2 rfl rfl) h2 s2
  refine (PCall.law (law08_ManaPaysAs_ok (law_ManaPaysAs _ _ _)) (inv_of_laid hL) (args := _) (by simp only [RelVs]; exact ⟨_, _, rfl, R0, ⟨_, _, rfl, R1, ⟨_, _, rfl, R2, rfl⟩⟩⟩)).mono fun e W' ⟨he, hb⟩ => ?_
  subst he
  have hB := trodAll_below laidOut hb manaPaysAs_rd hA1 hlt
  exact ⟨_, rfl, _, _, _, [], _, [], hW', trodAll_mk1 (shut_bool Tryd.underlying4 _), hB, rfl, hb.frame _, fun h => by cases h⟩
theorem manaPaysAs_holds : Rows.ManaPaysAsSaid :=
  OpenClaim.holds_of_wide 5 Tryd.f5 rfl rfl rfl rfl rfl rfl rfl ⟨rfl, rfl, rfl, rfl, rfl⟩ rfl rfl rfl rfl rfl (by kernel_rfl) Tryd.func5 manaPaysAs_joined
    (of_decide_eq_true (by kernel_rfl)) (by unfold Func.isWrapper; first | (rw [if_pos (by decide +kernel)]; kernel_rfl) | (rw [if_neg (by decide +kernel)]; exact ⟨rfl, rfl⟩))
    (fun os started H enc _ => manaPaysAs_lifted os started H enc)
theorem manaPaysAs_card : Rows.ManaPaysAsCardSaid :=
  Claim7.holds_tied_plain_at .later [] _ _ _ _ manaPaysAs_holds (fun _ h => by cases h) (by kernel_rfl) (fun _ h => by cases h) manaPaysAs_row_tie rfl ⟨rfl, rfl⟩ (by kernel_rfl) rfl
    (fun f fn hf hfn => by
      obtain rfl : f = 5 := Option.some.inj ((show Tryd.prog.funcNamed "cardgame/cardgamelaw08.ManaPaysAs" = some 5 by kernel_rfl).symm.trans hf) |>.symm
      obtain rfl : fn = Tryd.f5 := (Option.some.inj (Tryd.func5.symm.trans hfn)).symm
      exact ⟨by kernel_rfl, fun j t ht => by
        rw [Tryd.params5] at ht
        have hm : t ∈ [31, 34, 3] := by simpa using Array.mem_of_getElem? ht
        have hall : ([31, 34, 3].all fun u => !Tryd.prog.wantsStandIn u) = true := by kernel_rfl
        exact (show Tryd.prog.wantsStandIn t = false by simpa using List.all_eq_true.1 hall t hm)⟩)
    (by kernel_rfl)
end Go.Proofs.YtieikooalmfmfaaDoor
