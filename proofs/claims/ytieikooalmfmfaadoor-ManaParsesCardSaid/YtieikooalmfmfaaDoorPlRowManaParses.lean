/- The row and the card of ManaParses. -/
import Derived.Test.YtieikooalmfmfaaDoorPlMaS
import Derived.Test.YtieikooalmfmfaaDoorPlMaD
import Derived.Test.YtieikooalmfmfaaDoorPlRtoPlPd
import Derived.Test.YtieikooalmfmfaaDoorPlRtoPlPd
import Derived.Test.YtieikooalmfmfaaDoorTie
import Derived.Test.YtieikooalmfmfaaDoorCards
namespace Go.Proofs.YtieikooalmfmfaaDoor
open Go.ChangeShapes Go.WideShapes Go.ChangeAt Go.RowKit Go.PL Go.ChangeMaps
set_option linter.all false
theorem own : ownKnob Tryd.prog.godebug = none := by kernel_rfl
theorem laidOut : laidOutB Tryd.prog = true := by kernel_rfl
theorem gPow : Tryd.prog.globalNamed "internal/strconv.uint64pow10" = some 3 := by kernel_rfl
theorem tPow : (Tryd.prog.globals[3]?).map (·.type) = some 144 := by kernel_rfl
theorem cPow : Tryd.prog.cellsOf 144 = 20 := by kernel_rfl
theorem cPe : Tryd.prog.cellsOf 102 = 1 := by kernel_rfl
theorem gSyntax : Tryd.prog.globalNamed "strconv.ErrSyntax" = some 1 := by kernel_rfl
theorem gRange : Tryd.prog.globalNamed "strconv.ErrRange" = some 2 := by kernel_rfl
theorem tSyntax : (Tryd.prog.globals[1]?).map (·.type) = some 91 := by kernel_rfl
theorem tRange : (Tryd.prog.globals[2]?).map (·.type) = some 91 := by kernel_rfl
theorem inv_of_laid {W : World} (h : laidMetH Tryd.prog Rows.manaParsesRow.laid W) : I0 W := by
  rw [MakeChecks.laidMetH_plain _ _ _ (by kernel_rfl)] at h
  have hp := h.filter (fun x => x.1 == "internal/strconv.uint64pow10")
  have hs := h.filter (fun x => x.1 == "strconv.ErrSyntax")
  have hr := h.filter (fun x => x.1 == "strconv.ErrRange")
  exact ⟨Lib.tabIs_of_head (rest := []) gPow tPow Tryd.underlying144 Tryd.underlying102 cPe cPow hp, var_iface (rest := []) gSyntax tSyntax Tryd.underlying91 hs, var_iface (rest := []) gRange tRange Tryd.underlying91 hr⟩
theorem manaParses_q0 : (Rows.manaParsesRow.wf (OpenSpec.ofChange Rows.manaParsesSpec)) = true := by kernel_rfl
theorem manaParses_q1 : (laidOutB Tryd.prog) = true := by kernel_rfl
theorem manaParses_q2 : (mapsRowed Tryd.prog) = true := by kernel_rfl
theorem manaParses_q3 : (Tryd.f8.params.all (Tryd.prog.readableRec ·)) = true := by kernel_rfl
theorem manaParses_q4 : (namedTie Tryd.prog Rows.manaParsesRow.named Rows.manaParsesSpec.vars) = true := by kernel_rfl
theorem manaParses_q5 : ((Rows.manaParsesRow.stops == [])) = true := by kernel_rfl
theorem manaParses_q6 : ((Tryd.prog.stops == [])) = true := by kernel_rfl
theorem manaParses_q7 : ((Rows.manaParsesRow.knobs == [])) = true := by kernel_rfl
theorem manaParses_q8 : ((Tryd.prog.stopKnobs == [])) = true := by kernel_rfl
theorem manaParses_q9 : ((Rows.manaParsesRow.inPlace == Tryd.prog.inPlace 8)) = true := by kernel_rfl
theorem manaParses_q10 : ((Rows.manaParsesRow.unfollowed == Tryd.prog.unfollowed 8)) = true := by kernel_rfl
theorem manaParses_q11 : ((Rows.manaParsesRow.recurses == Tryd.prog.recurses 8)) = true := by kernel_rfl
theorem manaParses_q12 : ((Rows.manaParsesRow.named == Tryd.prog.varsNamed 8)) = true := by kernel_rfl
theorem manaParses_q13 : ((Rows.manaParsesRow.maps == (Tryd.f8.params.toList ++ Rows.manaParsesSpec.plain.varTypes Tryd.prog).any (Tryd.prog.mapsRec ·))) = true := by kernel_rfl
theorem manaParses_q14 : ((Rows.manaParsesRow.ifaces == (Tryd.f8.params.toList ++ Rows.manaParsesSpec.plain.varTypes Tryd.prog).any (Tryd.prog.ifacesRec ·))) = true := by kernel_rfl
theorem manaParses_q15 : ((Rows.manaParsesRow.mapsOut == Tryd.prog.mapsAmong Tryd.f8.resultTypes.toList)) = true := by kernel_rfl
theorem manaParses_q16 : ((Rows.manaParsesRow.loops == (Tryd.f8.params.toList ++ Rows.manaParsesSpec.plain.varTypes Tryd.prog).any (Tryd.prog.loopsFrom ·))) = true := by kernel_rfl
theorem manaParses_q17 : ((Rows.manaParsesRow.wideKeys == (Tryd.f8.params.toList ++ Rows.manaParsesSpec.plain.varTypes Tryd.prog ++ Tryd.f8.resultTypes.toList).any (Tryd.prog.wideKeysFrom ·))) = true := by kernel_rfl
theorem manaParses_q18 : (Rows.manaParsesSpec.vars.all (Tryd.prog.varReadable ·)) = true := by kernel_rfl
theorem manaParses_q19 : (Tryd.f8.resultTypes.all (fun t => Tryd.prog.readableRec t && decide (t < Tryd.prog.types.size))) = true := by kernel_rfl
theorem manaParses_q20 : ((Rows.manaParsesRow.ifacesOut == Tryd.f8.resultTypes.toList.any (Tryd.prog.ifacesRec ·))) = true := by kernel_rfl
theorem manaParses_q21 : ((Rows.manaParsesRow.loopsOut == Tryd.f8.resultTypes.toList.any (Tryd.prog.loopsFrom ·))) = true := by kernel_rfl
theorem manaParses_q22 : ((Rows.manaParsesRow.plainKeys == Tryd.prog.plainKeys)) = true := by kernel_rfl
theorem manaParses_q23 : (Rows.manaParsesRow.shortTexts.isNone) = true := by kernel_rfl
theorem manaParses_q24 : (Tryd.prog.stopsHeard) = true := by kernel_rfl
theorem manaParses_q25 : (Tryd.prog.mayEnter) = true := by kernel_rfl
theorem manaParses_q26 : ((Rows.manaParsesRow.lifted == Tryd.prog.liftsFinal)) = true := by kernel_rfl
theorem manaParses_q27 : ((Tryd.prog.make == some Rows.manaParsesRow.make)) = true := by kernel_rfl
theorem manaParses_q28 : (Rows.manaParsesRow.domain.isEmpty && (Rows.manaParsesRow.kinds == [])) = true := by kernel_rfl
theorem manaParses_q29 : ((Rows.manaParsesRow.pinned == Rows.manaParsesRow.pinnedBy)) = true := by kernel_rfl
theorem manaParses_q30 : ((Rows.manaParsesRow.veiled == (Tryd.f8.params.toList ++ Rows.manaParsesSpec.plain.varTypes Tryd.prog ++ Tryd.f8.resultTypes.toList).any (Tryd.prog.veiledRec ·))) = true := by kernel_rfl
theorem manaParses_q31 : (Rows.manaParsesRow.veiledFits Tryd.prog Tryd.f8.params.toList (Tryd.f8.params.toList ++ Rows.manaParsesSpec.plain.varTypes Tryd.prog ++ Tryd.f8.resultTypes.toList)) = true := by kernel_rfl
theorem manaParses_joined : joinedFacts Tryd.prog 8 Tryd.f8 Rows.manaParsesSpec Rows.manaParsesRow = true := joined_of manaParses_q0 manaParses_q1 manaParses_q2 manaParses_q3 manaParses_q4 manaParses_q5 manaParses_q6 manaParses_q7 manaParses_q8 manaParses_q9 manaParses_q10 manaParses_q11 manaParses_q12 manaParses_q13 manaParses_q14 manaParses_q15 manaParses_q16 manaParses_q17 manaParses_q18 manaParses_q19 manaParses_q20 manaParses_q21 manaParses_q22 manaParses_q23 manaParses_q24 manaParses_q25 manaParses_q26 manaParses_q27 manaParses_q28 manaParses_q29 manaParses_q30 manaParses_q31

theorem manaParses_rd : (Tryd.f8.params.toList.all fun t => Tryd.prog.readableRec t && decide (t < Tryd.prog.types.size)) = true := by kernel_rfl
set_option maxRecDepth 100000 in
theorem manaParses_lifted (os : Os) (started : os.Started) (H : Type) (enc : TypeId × Value → H) :
    ReturnsInHanded {} Tryd.checked os 8 .any (fun w args => (Rows.manaParsesSpec.pre enc Tryd.prog Tryd.f8 [] false w args ∧ laidMetH Tryd.prog Rows.manaParsesRow.laid w) ∧ sizedMet enc Tryd.prog Tryd.f8 (OpenSpec.ofChange Rows.manaParsesSpec) false w args)
      (Rows.manaParsesSpec.post enc Tryd.prog Tryd.f8 false true false false) := by
  refine returnsInHanded_of_change_and (C := Tryd.checked) (X := fun w _ => laidMetH Tryd.prog Rows.manaParsesRow.laid w) (fun _ _ _ hh h => h.of_heap hh) own started (by kernel_rfl) Tryd.func8
    (ChangeSpec.witness_shaped (enc := enc) (C := Tryd.checked) (os := os) (X := fun w _ => laidMetH Tryd.prog Rows.manaParsesRow.laid w) false (World.laidAll Tryd.prog os Rows.manaParsesRow.laid) #[.string ⟨#[]⟩] 8 (World.laidAll_os _ _ _)
      (World.shaped_of_ZipB (by kernel_rfl) (by kernel_rfl)) (by kernel_rfl) (by kernel_rfl) (by kernel_rfl)
      (by rw [MakeChecks.laidMetH_plain _ _ _ (by kernel_rfl)]; exact laidMet_laidAll _ (by kernel_rfl) (by kernel_rfl))) ?_
  intro W base args ds gs before hval0 hW _ hS hL _
  have hval : ∀ (j : Nat) t v, Tryd.f8.params[j]? = some t → args[j]? = some v → Value.okWide Tryd.prog W .any base t v := hval0
  have hW' := hW
  obtain ⟨p, q, hA0, hV, rfl, _, _⟩ := hW
  have hA : DataW.TrodAll enc Tryd.prog W 0 (fun _ => true) true Tryd.f8.params.toList args.toList ds p := hA0
  have hA1 := hA
  obtain ⟨rfl, rfl⟩ := trodVars_none hV
  simp only [List.append_nil] at hW'
  have hlt : ∀ x ∈ p, x.block < W.heap.size := fun x hx => by simpa using hW'.lt x hx
  rw [Tryd.params8] at hA hval
  obtain ⟨v0, vs0, d0, ds0, p0, q0, hargs, rfl, rfl, h0, r0⟩ := trodAll_cons hA
  obtain ⟨rfl, rfl, rfl⟩ := trodAll_nil r0
  obtain rfl : args = #[v0] := by cases args; simp_all
  have hS1 : (DataW.weightsEach Tryd.prog Tryd.f8.params.toList [d0]).all (· ≤ reachBytes) = true := hS
  rw [Tryd.params8] at hS1
  obtain ⟨s0, hS1⟩ := sized_cons hS1
  obtain ⟨x0, ok0, R0⟩ := arg_str 20 (by kernel_rfl) Tryd.underlying9 (hval 0 9 v0 rfl rfl) h0 s0
  refine (PCall.law (law08_ManaParses_ok (law_ManaParses _)) (inv_of_laid hL) (args := _) (by simp only [RelVs]; exact ⟨_, _, rfl, R0, rfl⟩)).mono fun e W' ⟨he, hb⟩ => ?_
  subst he
  have hB := trodAll_below laidOut hb manaParses_rd hA1 hlt
  exact ⟨_, rfl, _, _, _, [], _, [], hW', trodAll_mk1 (shut_bool Tryd.underlying4 _), hB, rfl, hb.frame _, fun h => by cases h⟩
theorem manaParses_holds : Rows.ManaParsesSaid :=
  OpenClaim.holds_of_wide 8 Tryd.f8 rfl rfl rfl rfl rfl rfl rfl ⟨rfl, rfl, rfl, rfl, rfl⟩ rfl rfl rfl rfl rfl (by kernel_rfl) Tryd.func8 manaParses_joined
    (of_decide_eq_true (by kernel_rfl)) (by unfold Func.isWrapper; first | (rw [if_pos (by decide +kernel)]; kernel_rfl) | (rw [if_neg (by decide +kernel)]; exact ⟨rfl, rfl⟩))
    (fun os started H enc _ => manaParses_lifted os started H enc)
theorem manaParses_card : Rows.ManaParsesCardSaid :=
  Claim7.holds_tied_plain_at .later [] _ _ _ _ manaParses_holds (fun _ h => by cases h) (by kernel_rfl) (fun _ h => by cases h) manaParses_row_tie rfl ⟨rfl, rfl⟩ (by kernel_rfl) rfl
    (fun f fn hf hfn => by
      obtain rfl : f = 8 := Option.some.inj ((show Tryd.prog.funcNamed "cardgame/cardgamelaw08.ManaParses" = some 8 by kernel_rfl).symm.trans hf) |>.symm
      obtain rfl : fn = Tryd.f8 := (Option.some.inj (Tryd.func8.symm.trans hfn)).symm
      exact ⟨by kernel_rfl, fun j t ht => by
        rw [Tryd.params8] at ht
        have hm : t ∈ [9] := by simpa using Array.mem_of_getElem? ht
        have hall : ([9].all fun u => !Tryd.prog.wantsStandIn u) = true := by kernel_rfl
        exact (show Tryd.prog.wantsStandIn t = false by simpa using List.all_eq_true.1 hall t hm)⟩)
    (by kernel_rfl)
end Go.Proofs.YtieikooalmfmfaaDoor
