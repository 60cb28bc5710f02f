/- The row and the card of ManaTexts. -/
import Derived.Test.YtieikooalmfmfaaDoorPlMaT
import Derived.Test.YtieikooalmfmfaaDoorPlMaD
import Derived.Test.YtieikooalmfmfaaDoorPlWtoPlPd
import Derived.Test.YtieikooalmfmfaaDoorPlWtoPlPd
import Derived.Test.YtieikooalmfmfaaDoorTie
import Derived.Test.YtieikooalmfmfaaDoorCards
namespace Go.Proofs.YtieikooalmfmfaaDoor
open Go.ChangeShapes Go.WideShapes Go.ChangeAt Go.RowKit Go.PL Go.ChangeMaps
set_option linter.all false
theorem own : ownKnob Tryd.prog.godebug = none := by kernel_rfl
theorem laidOut : laidOutB Tryd.prog = true := by kernel_rfl
theorem gPow : Tryd.prog.globalNamed "internal/strconv.uint64pow10" = some 3 := by kernel_rfl
theorem tPow : (Tryd.prog.globals[3]?).map (·.type) = some 144 := by kernel_rfl
theorem cPow : Tryd.prog.cellsOf 144 = 20 := by kernel_rfl
theorem cPe : Tryd.prog.cellsOf 102 = 1 := by kernel_rfl
theorem gSyntax : Tryd.prog.globalNamed "strconv.ErrSyntax" = some 1 := by kernel_rfl
theorem gRange : Tryd.prog.globalNamed "strconv.ErrRange" = some 2 := by kernel_rfl
theorem tSyntax : (Tryd.prog.globals[1]?).map (·.type) = some 91 := by kernel_rfl
theorem tRange : (Tryd.prog.globals[2]?).map (·.type) = some 91 := by kernel_rfl
theorem inv_of_laid {W : World} (h : laidMetH Tryd.prog Rows.manaTextsRow.laid W) : I0 W := by
  rw [MakeChecks.laidMetH_plain _ _ _ (by kernel_rfl)] at h
  have hp := h.filter (fun x => x.1 == "internal/strconv.uint64pow10")
  have hs := h.filter (fun x => x.1 == "strconv.ErrSyntax")
  have hr := h.filter (fun x => x.1 == "strconv.ErrRange")
  exact ⟨Lib.tabIs_of_head (rest := []) gPow tPow Tryd.underlying144 Tryd.underlying102 cPe cPow hp, var_iface (rest := []) gSyntax tSyntax Tryd.underlying91 hs, var_iface (rest := []) gRange tRange Tryd.underlying91 hr⟩
theorem manaTexts_q0 : (Rows.manaTextsRow.wf (OpenSpec.ofChange Rows.manaTextsSpec)) = true := by kernel_rfl
theorem manaTexts_q1 : (laidOutB Tryd.prog) = true := by kernel_rfl
theorem manaTexts_q2 : (mapsRowed Tryd.prog) = true := by kernel_rfl
theorem manaTexts_q3 : (Tryd.f6.params.all (Tryd.prog.readableRec ·)) = true := by kernel_rfl
theorem manaTexts_q4 : (namedTie Tryd.prog Rows.manaTextsRow.named Rows.manaTextsSpec.vars) = true := by kernel_rfl
theorem manaTexts_q5 : ((Rows.manaTextsRow.stops == [])) = true := by kernel_rfl
theorem manaTexts_q6 : ((Tryd.prog.stops == [])) = true := by kernel_rfl
theorem manaTexts_q7 : ((Rows.manaTextsRow.knobs == [])) = true := by kernel_rfl
theorem manaTexts_q8 : ((Tryd.prog.stopKnobs == [])) = true := by kernel_rfl
theorem manaTexts_q9 : ((Rows.manaTextsRow.inPlace == Tryd.prog.inPlace 6)) = true := by kernel_rfl
theorem manaTexts_q10 : ((Rows.manaTextsRow.unfollowed == Tryd.prog.unfollowed 6)) = true := by kernel_rfl
theorem manaTexts_q11 : ((Rows.manaTextsRow.recurses == Tryd.prog.recurses 6)) = true := by kernel_rfl
theorem manaTexts_q12 : ((Rows.manaTextsRow.named == Tryd.prog.varsNamed 6)) = true := by kernel_rfl
theorem manaTexts_q13 : ((Rows.manaTextsRow.maps == (Tryd.f6.params.toList ++ Rows.manaTextsSpec.plain.varTypes Tryd.prog).any (Tryd.prog.mapsRec ·))) = true := by kernel_rfl
theorem manaTexts_q14 : ((Rows.manaTextsRow.ifaces == (Tryd.f6.params.toList ++ Rows.manaTextsSpec.plain.varTypes Tryd.prog).any (Tryd.prog.ifacesRec ·))) = true := by kernel_rfl
theorem manaTexts_q15 : ((Rows.manaTextsRow.mapsOut == Tryd.prog.mapsAmong Tryd.f6.resultTypes.toList)) = true := by kernel_rfl
theorem manaTexts_q16 : ((Rows.manaTextsRow.loops == (Tryd.f6.params.toList ++ Rows.manaTextsSpec.plain.varTypes Tryd.prog).any (Tryd.prog.loopsFrom ·))) = true := by kernel_rfl
theorem manaTexts_q17 : ((Rows.manaTextsRow.wideKeys == (Tryd.f6.params.toList ++ Rows.manaTextsSpec.plain.varTypes Tryd.prog ++ Tryd.f6.resultTypes.toList).any (Tryd.prog.wideKeysFrom ·))) = true := by kernel_rfl
theorem manaTexts_q18 : (Rows.manaTextsSpec.vars.all (Tryd.prog.varReadable ·)) = true := by kernel_rfl
theorem manaTexts_q19 : (Tryd.f6.resultTypes.all (fun t => Tryd.prog.readableRec t && decide (t < Tryd.prog.types.size))) = true := by kernel_rfl
theorem manaTexts_q20 : ((Rows.manaTextsRow.ifacesOut == Tryd.f6.resultTypes.toList.any (Tryd.prog.ifacesRec ·))) = true := by kernel_rfl
theorem manaTexts_q21 : ((Rows.manaTextsRow.loopsOut == Tryd.f6.resultTypes.toList.any (Tryd.prog.loopsFrom ·))) = true := by kernel_rfl
theorem manaTexts_q22 : ((Rows.manaTextsRow.plainKeys == Tryd.prog.plainKeys)) = true := by kernel_rfl
theorem manaTexts_q23 : (Rows.manaTextsRow.shortTexts.isNone) = true := by kernel_rfl
theorem manaTexts_q24 : (Tryd.prog.stopsHeard) = true := by kernel_rfl
theorem manaTexts_q25 : (Tryd.prog.mayEnter) = true := by kernel_rfl
theorem manaTexts_q26 : ((Rows.manaTextsRow.lifted == Tryd.prog.liftsFinal)) = true := by kernel_rfl
theorem manaTexts_q27 : ((Tryd.prog.make == some Rows.manaTextsRow.make)) = true := by kernel_rfl
theorem manaTexts_q28 : (Rows.manaTextsRow.domain.isEmpty && (Rows.manaTextsRow.kinds == [])) = true := by kernel_rfl
theorem manaTexts_q29 : ((Rows.manaTextsRow.pinned == Rows.manaTextsRow.pinnedBy)) = true := by kernel_rfl
theorem manaTexts_q30 : ((Rows.manaTextsRow.veiled == (Tryd.f6.params.toList ++ Rows.manaTextsSpec.plain.varTypes Tryd.prog ++ Tryd.f6.resultTypes.toList).any (Tryd.prog.veiledRec ·))) = true := by kernel_rfl
theorem manaTexts_q31 : (Rows.manaTextsRow.veiledFits Tryd.prog Tryd.f6.params.toList (Tryd.f6.params.toList ++ Rows.manaTextsSpec.plain.varTypes Tryd.prog ++ Tryd.f6.resultTypes.toList)) = true := by kernel_rfl
theorem manaTexts_joined : joinedFacts Tryd.prog 6 Tryd.f6 Rows.manaTextsSpec Rows.manaTextsRow = true := joined_of manaTexts_q0 manaTexts_q1 manaTexts_q2 manaTexts_q3 manaTexts_q4 manaTexts_q5 manaTexts_q6 manaTexts_q7 manaTexts_q8 manaTexts_q9 manaTexts_q10 manaTexts_q11 manaTexts_q12 manaTexts_q13 manaTexts_q14 manaTexts_q15 manaTexts_q16 manaTexts_q17 manaTexts_q18 manaTexts_q19 manaTexts_q20 manaTexts_q21 manaTexts_q22 manaTexts_q23 manaTexts_q24 manaTexts_q25 manaTexts_q26 manaTexts_q27 manaTexts_q28 manaTexts_q29 manaTexts_q30 manaTexts_q31

theorem manaTexts_rd : (Tryd.f6.params.toList.all fun t => Tryd.prog.readableRec t && decide (t < Tryd.prog.types.size)) = true := by kernel_rfl
set_option maxRecDepth 100000 in
theorem manaTexts_lifted (os : Os) (started : os.Started) (H : Type) (enc : TypeId × Value → H) :
    ReturnsInHanded {} Tryd.checked os 6 .any (fun w args => (Rows.manaTextsSpec.pre enc Tryd.prog Tryd.f6 [] false w args ∧ laidMetH Tryd.prog Rows.manaTextsRow.laid w) ∧ sizedMet enc Tryd.prog Tryd.f6 (OpenSpec.ofChange Rows.manaTextsSpec) false w args)
      (Rows.manaTextsSpec.post enc Tryd.prog Tryd.f6 false true false false) := by
  refine returnsInHanded_of_change_and (C := Tryd.checked) (X := fun w _ => laidMetH Tryd.prog Rows.manaTextsRow.laid w) (fun _ _ _ hh h => h.of_heap hh) own started (by kernel_rfl) Tryd.func6
    (ChangeSpec.witness_shaped (enc := enc) (C := Tryd.checked) (os := os) (X := fun w _ => laidMetH Tryd.prog Rows.manaTextsRow.laid w) false (World.laidAll Tryd.prog os Rows.manaTextsRow.laid) #[.agg #[.int .i64 0, .int .i64 0, .int .i64 0, .int .i64 0, .int .i64 0, .int .i64 0, .int .i64 0], .int .i64 0] 8 (World.laidAll_os _ _ _)
      (World.shaped_of_ZipB (by kernel_rfl) (by kernel_rfl)) (by kernel_rfl) (by kernel_rfl) (by kernel_rfl)
      (by rw [MakeChecks.laidMetH_plain _ _ _ (by kernel_rfl)]; exact laidMet_laidAll _ (by kernel_rfl) (by kernel_rfl))) ?_
  intro W base args ds gs before hval0 hW _ hS hL _
  have hval : ∀ (j : Nat) t v, Tryd.f6.params[j]? = some t → args[j]? = some v → Value.okWide Tryd.prog W .any base t v := hval0
  have hW' := hW
  obtain ⟨p, q, hA0, hV, rfl, _, _⟩ := hW
  have hA : DataW.TrodAll enc Tryd.prog W 0 (fun _ => true) true Tryd.f6.params.toList args.toList ds p := hA0
  have hA1 := hA
  obtain ⟨rfl, rfl⟩ := trodVars_none hV
  simp only [List.append_nil] at hW'
  have hlt : ∀ x ∈ p, x.block < W.heap.size := fun x hx => by simpa using hW'.lt x hx
  rw [Tryd.params6] at hA hval
  obtain ⟨v0, vs0, d0, ds0, p0, q0, hargs, rfl, rfl, h0, r0⟩ := trodAll_cons hA
  obtain ⟨v1, vs1, d1, ds1, p1, q1, rfl, rfl, rfl, h1, r1⟩ := trodAll_cons r0
  obtain ⟨rfl, rfl, rfl⟩ := trodAll_nil r1
  obtain rfl : args = #[v0, v1] := by cases args; simp_all
  have hS1 : (DataW.weightsEach Tryd.prog Tryd.f6.params.toList [d0, d1]).all (· ≤ reachBytes) = true := hS
  rw [Tryd.params6] at hS1
  obtain ⟨s0, hS1⟩ := sized_cons hS1
  obtain ⟨x0, ok0, R0⟩ := arg_agg (e := encSCost) 20 (by kernel_rfl) Tryd.underlying34 decSCost (hval 0 34 v0 rfl rfl) h0 s0
  obtain ⟨s1, hS1⟩ := sized_cons hS1
  obtain ⟨x1, ok1, R1⟩ := arg_int 20 (by kernel_rfl) Tryd.underlying3 (hval 1 3 v1 rfl rfl) h1 s1
  refine (PCall.law (law08_ManaTexts_ok (law_ManaTexts _ _)) (inv_of_laid hL) (args := _) (by simp only [RelVs]; exact ⟨_, _, rfl, R0, ⟨_, _, rfl, R1, rfl⟩⟩)).mono fun e W' ⟨he, hb⟩ => ?_
  subst he
  have hB := trodAll_below laidOut hb manaTexts_rd hA1 hlt
  exact ⟨_, rfl, _, _, _, [], _, [], hW', trodAll_mk1 (shut_bool Tryd.underlying4 _), hB, rfl, hb.frame _, fun h => by cases h⟩
theorem manaTexts_holds : Rows.ManaTextsSaid :=
  OpenClaim.holds_of_wide 6 Tryd.f6 rfl rfl rfl rfl rfl rfl rfl ⟨rfl, rfl, rfl, rfl, rfl⟩ rfl rfl rfl rfl rfl (by kernel_rfl) Tryd.func6 manaTexts_joined
    (of_decide_eq_true (by kernel_rfl)) (by unfold Func.isWrapper; first | (rw [if_pos (by decide +kernel)]; kernel_rfl) | (rw [if_neg (by decide +kernel)]; exact ⟨rfl, rfl⟩))
    (fun os started H enc _ => manaTexts_lifted os started H enc)
theorem manaTexts_card : Rows.ManaTextsCardSaid :=
  Claim7.holds_tied_plain_at .later [] _ _ _ _ manaTexts_holds (fun _ h => by cases h) (by kernel_rfl) (fun _ h => by cases h) manaTexts_row_tie rfl ⟨rfl, rfl⟩ (by kernel_rfl) rfl
    (fun f fn hf hfn => by
      obtain rfl : f = 6 := Option.some.inj ((show Tryd.prog.funcNamed "cardgame/cardgamelaw08.ManaTexts" = some 6 by kernel_rfl).symm.trans hf) |>.symm
      obtain rfl : fn = Tryd.f6 := (Option.some.inj (Tryd.func6.symm.trans hfn)).symm
      exact ⟨by kernel_rfl, fun j t ht => by
        rw [Tryd.params6] at ht
        have hm : t ∈ [34, 3] := by simpa using Array.mem_of_getElem? ht
        have hall : ([34, 3].all fun u => !Tryd.prog.wantsStandIn u) = true := by kernel_rfl
        exact (show Tryd.prog.wantsStandIn t = false by simpa using List.all_eq_true.1 hall t hm)⟩)
    (by kernel_rfl)
end Go.Proofs.YtieikooalmfmfaaDoor
