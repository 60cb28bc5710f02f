/- The row and the card of DeckLists. -/
import Derived.Test.YtieikooalmfmfaaDoorPlDeL
import Derived.Test.YtieikooalmfmfaaDoorPlDeD
import Derived.Test.YtieikooalmfmfaaDoorPlPtoPlPo
import Derived.Test.YtieikooalmfmfaaDoorPlPptoPlPd
import Derived.Test.YtieikooalmfmfaaDoorTie
import Derived.Test.YtieikooalmfmfaaDoorCards
namespace Go.Proofs.YtieikooalmfmfaaDoor
open Go.ChangeShapes Go.WideShapes Go.ChangeAt Go.RowKit Go.PL Go.ChangeMaps
set_option linter.all false
theorem own : ownKnob Tryd.prog.godebug = none := by kernel_rfl
theorem laidOut : laidOutB Tryd.prog = true := by kernel_rfl
theorem gPow : Tryd.prog.globalNamed "internal/strconv.uint64pow10" = some 3 := by kernel_rfl
theorem tPow : (Tryd.prog.globals[3]?).map (·.type) = some 144 := by kernel_rfl
theorem cPow : Tryd.prog.cellsOf 144 = 20 := by kernel_rfl
theorem cPe : Tryd.prog.cellsOf 102 = 1 := by kernel_rfl
theorem gSyntax : Tryd.prog.globalNamed "strconv.ErrSyntax" = some 1 := by kernel_rfl
theorem gRange : Tryd.prog.globalNamed "strconv.ErrRange" = some 2 := by kernel_rfl
theorem tSyntax : (Tryd.prog.globals[1]?).map (·.type) = some 91 := by kernel_rfl
theorem tRange : (Tryd.prog.globals[2]?).map (·.type) = some 91 := by kernel_rfl
theorem inv_of_laid {W : World} (h : laidMetH Tryd.prog Rows.deckListsRow.laid W) : I0 W := by
  rw [MakeChecks.laidMetH_plain _ _ _ (by kernel_rfl)] at h
  have hp := h.filter (fun x => x.1 == "internal/strconv.uint64pow10")
  have hs := h.filter (fun x => x.1 == "strconv.ErrSyntax")
  have hr := h.filter (fun x => x.1 == "strconv.ErrRange")
  exact ⟨Lib.tabIs_of_head (rest := []) gPow tPow Tryd.underlying144 Tryd.underlying102 cPe cPow hp, var_iface (rest := []) gSyntax tSyntax Tryd.underlying91 hs, var_iface (rest := []) gRange tRange Tryd.underlying91 hr⟩
theorem deckLists_q0 : (Rows.deckListsRow.wf (OpenSpec.ofChange Rows.deckListsSpec)) = true := by kernel_rfl
theorem deckLists_q1 : (laidOutB Tryd.prog) = true := by kernel_rfl
theorem deckLists_q2 : (mapsRowed Tryd.prog) = true := by kernel_rfl
theorem deckLists_q3 : (Tryd.f3.params.all (Tryd.prog.readableRec ·)) = true := by kernel_rfl
theorem deckLists_q4 : (namedTie Tryd.prog Rows.deckListsRow.named Rows.deckListsSpec.vars) = true := by kernel_rfl
theorem deckLists_q5 : ((Rows.deckListsRow.stops == [])) = true := by kernel_rfl
theorem deckLists_q6 : ((Tryd.prog.stops == [])) = true := by kernel_rfl
theorem deckLists_q7 : ((Rows.deckListsRow.knobs == [])) = true := by kernel_rfl
theorem deckLists_q8 : ((Tryd.prog.stopKnobs == [])) = true := by kernel_rfl
theorem deckLists_q9 : ((Rows.deckListsRow.inPlace == Tryd.prog.inPlace 3)) = true := by kernel_rfl
theorem deckLists_q10 : ((Rows.deckListsRow.unfollowed == Tryd.prog.unfollowed 3)) = true := by kernel_rfl
theorem deckLists_q11 : ((Rows.deckListsRow.recurses == Tryd.prog.recurses 3)) = true := by kernel_rfl
theorem deckLists_q12 : ((Rows.deckListsRow.named == Tryd.prog.varsNamed 3)) = true := by kernel_rfl
theorem deckLists_q13 : ((Rows.deckListsRow.maps == (Tryd.f3.params.toList ++ Rows.deckListsSpec.plain.varTypes Tryd.prog).any (Tryd.prog.mapsRec ·))) = true := by kernel_rfl
theorem deckLists_q14 : ((Rows.deckListsRow.ifaces == (Tryd.f3.params.toList ++ Rows.deckListsSpec.plain.varTypes Tryd.prog).any (Tryd.prog.ifacesRec ·))) = true := by kernel_rfl
theorem deckLists_q15 : ((Rows.deckListsRow.mapsOut == Tryd.prog.mapsAmong Tryd.f3.resultTypes.toList)) = true := by kernel_rfl
theorem deckLists_q16 : ((Rows.deckListsRow.loops == (Tryd.f3.params.toList ++ Rows.deckListsSpec.plain.varTypes Tryd.prog).any (Tryd.prog.loopsFrom ·))) = true := by kernel_rfl
theorem deckLists_q17 : ((Rows.deckListsRow.wideKeys == (Tryd.f3.params.toList ++ Rows.deckListsSpec.plain.varTypes Tryd.prog ++ Tryd.f3.resultTypes.toList).any (Tryd.prog.wideKeysFrom ·))) = true := by kernel_rfl
theorem deckLists_q18 : (Rows.deckListsSpec.vars.all (Tryd.prog.varReadable ·)) = true := by kernel_rfl
theorem deckLists_q19 : (Tryd.f3.resultTypes.all (fun t => Tryd.prog.readableRec t && decide (t < Tryd.prog.types.size))) = true := by kernel_rfl
theorem deckLists_q20 : ((Rows.deckListsRow.ifacesOut == Tryd.f3.resultTypes.toList.any (Tryd.prog.ifacesRec ·))) = true := by kernel_rfl
theorem deckLists_q21 : ((Rows.deckListsRow.loopsOut == Tryd.f3.resultTypes.toList.any (Tryd.prog.loopsFrom ·))) = true := by kernel_rfl
theorem deckLists_q22 : ((Rows.deckListsRow.plainKeys == Tryd.prog.plainKeys)) = true := by kernel_rfl
theorem deckLists_q23 : (Rows.deckListsRow.shortTexts.isNone) = true := by kernel_rfl
theorem deckLists_q24 : (Tryd.prog.stopsHeard) = true := by kernel_rfl
theorem deckLists_q25 : (Tryd.prog.mayEnter) = true := by kernel_rfl
theorem deckLists_q26 : ((Rows.deckListsRow.lifted == Tryd.prog.liftsFinal)) = true := by kernel_rfl
theorem deckLists_q27 : ((Tryd.prog.make == some Rows.deckListsRow.make)) = true := by kernel_rfl
theorem deckLists_q28 : (Rows.deckListsRow.domain.isEmpty && (Rows.deckListsRow.kinds == [])) = true := by kernel_rfl
theorem deckLists_q29 : ((Rows.deckListsRow.pinned == Rows.deckListsRow.pinnedBy)) = true := by kernel_rfl
theorem deckLists_q30 : ((Rows.deckListsRow.veiled == (Tryd.f3.params.toList ++ Rows.deckListsSpec.plain.varTypes Tryd.prog ++ Tryd.f3.resultTypes.toList).any (Tryd.prog.veiledRec ·))) = true := by kernel_rfl
theorem deckLists_q31 : (Rows.deckListsRow.veiledFits Tryd.prog Tryd.f3.params.toList (Tryd.f3.params.toList ++ Rows.deckListsSpec.plain.varTypes Tryd.prog ++ Tryd.f3.resultTypes.toList)) = true := by kernel_rfl
theorem deckLists_joined : joinedFacts Tryd.prog 3 Tryd.f3 Rows.deckListsSpec Rows.deckListsRow = true := joined_of deckLists_q0 deckLists_q1 deckLists_q2 deckLists_q3 deckLists_q4 deckLists_q5 deckLists_q6 deckLists_q7 deckLists_q8 deckLists_q9 deckLists_q10 deckLists_q11 deckLists_q12 deckLists_q13 deckLists_q14 deckLists_q15 deckLists_q16 deckLists_q17 deckLists_q18 deckLists_q19 deckLists_q20 deckLists_q21 deckLists_q22 deckLists_q23 deckLists_q24 deckLists_q25 deckLists_q26 deckLists_q27 deckLists_q28 deckLists_q29 deckLists_q30 deckLists_q31

theorem deckLists_rd : (Tryd.f3.params.toList.all fun t => Tryd.prog.readableRec t && decide (t < Tryd.prog.types.size)) = true := by kernel_rfl
set_option maxRecDepth 100000 in
theorem deckLists_lifted (os : Os) (started : os.Started) (H : Type) (enc : TypeId × Value → H) :
    ReturnsInHanded {} Tryd.checked os 3 .any (fun w args => (Rows.deckListsSpec.pre enc Tryd.prog Tryd.f3 [] false w args ∧ laidMetH Tryd.prog Rows.deckListsRow.laid w) ∧ sizedMet enc Tryd.prog Tryd.f3 (OpenSpec.ofChange Rows.deckListsSpec) false w args)
      (Rows.deckListsSpec.post enc Tryd.prog Tryd.f3 false true false false) := by
  refine returnsInHanded_of_change_and (C := Tryd.checked) (X := fun w _ => laidMetH Tryd.prog Rows.deckListsRow.laid w) (fun _ _ _ hh h => h.of_heap hh) own started (by kernel_rfl) Tryd.func3
    (ChangeSpec.witness_shaped (enc := enc) (C := Tryd.checked) (os := os) (X := fun w _ => laidMetH Tryd.prog Rows.deckListsRow.laid w) false (World.laidAll Tryd.prog os Rows.deckListsRow.laid) #[.agg #[.slice none 0 0, .slice none 0 0]] 8 (World.laidAll_os _ _ _)
      (World.shaped_of_ZipB (by kernel_rfl) (by kernel_rfl)) (by kernel_rfl) (by kernel_rfl) (by kernel_rfl)
      (by rw [MakeChecks.laidMetH_plain _ _ _ (by kernel_rfl)]; exact laidMet_laidAll _ (by kernel_rfl) (by kernel_rfl))) ?_
  intro W base args ds gs before hval0 hW _ hS hL _
  have hval : ∀ (j : Nat) t v, Tryd.f3.params[j]? = some t → args[j]? = some v → Value.okWide Tryd.prog W .any base t v := hval0
  have hW' := hW
  obtain ⟨p, q, hA0, hV, rfl, _, _⟩ := hW
  have hA : DataW.TrodAll enc Tryd.prog W 0 (fun _ => true) true Tryd.f3.params.toList args.toList ds p := hA0
  have hA1 := hA
  obtain ⟨rfl, rfl⟩ := trodVars_none hV
  simp only [List.append_nil] at hW'
  have hlt : ∀ x ∈ p, x.block < W.heap.size := fun x hx => by simpa using hW'.lt x hx
  rw [Tryd.params3] at hA hval
  obtain ⟨v0, vs0, d0, ds0, p0, q0, hargs, rfl, rfl, h0, r0⟩ := trodAll_cons hA
  obtain ⟨rfl, rfl, rfl⟩ := trodAll_nil r0
  obtain rfl : args = #[v0] := by cases args; simp_all
  have hS1 : (DataW.weightsEach Tryd.prog Tryd.f3.params.toList [d0]).all (· ≤ reachBytes) = true := hS
  rw [Tryd.params3] at hS1
  obtain ⟨s0, hS1⟩ := sized_cons hS1
  obtain ⟨x0, ok0, R0⟩ := arg_agg (e := encSDeck) 20 (by kernel_rfl) Tryd.underlying24 decSDeck (hval 0 24 v0 rfl rfl) h0 s0
  refine (PCall.law (law23_DeckLists_ok (law_DeckLists)) (inv_of_laid hL) (args := _) (by simp only [RelVs]; exact ⟨_, _, rfl, R0, rfl⟩)).mono fun e W' ⟨he, hb⟩ => ?_
  subst he
  have hB := trodAll_below laidOut hb deckLists_rd hA1 hlt
  exact ⟨_, rfl, _, _, _, [], _, [], hW', trodAll_mk1 (shut_bool Tryd.underlying4 _), hB, rfl, hb.frame _, fun h => by cases h⟩
theorem deckLists_holds : Rows.DeckListsSaid :=
  OpenClaim.holds_of_wide 3 Tryd.f3 rfl rfl rfl rfl rfl rfl rfl ⟨rfl, rfl, rfl, rfl, rfl⟩ rfl rfl rfl rfl rfl (by kernel_rfl) Tryd.func3 deckLists_joined
    (of_decide_eq_true (by kernel_rfl)) (by unfold Func.isWrapper; first | (rw [if_pos (by decide +kernel)]; kernel_rfl) | (rw [if_neg (by decide +kernel)]; exact ⟨rfl, rfl⟩))
    (fun os started H enc _ => deckLists_lifted os started H enc)
theorem deckLists_card : Rows.DeckListsCardSaid :=
  Claim7.holds_tied_plain_at .later [] _ _ _ _ deckLists_holds (fun _ h => by cases h) (by kernel_rfl) (fun _ h => by cases h) deckLists_row_tie rfl ⟨rfl, rfl⟩ (by kernel_rfl) rfl
    (fun f fn hf hfn => by
      obtain rfl : f = 3 := Option.some.inj ((show Tryd.prog.funcNamed "cardgame/cardgamelaw23.DeckLists" = some 3 by kernel_rfl).symm.trans hf) |>.symm
      obtain rfl : fn = Tryd.f3 := (Option.some.inj (Tryd.func3.symm.trans hfn)).symm
      exact ⟨by kernel_rfl, fun j t ht => by
        rw [Tryd.params3] at ht
        have hm : t ∈ [24] := by simpa using Array.mem_of_getElem? ht
        have hall : ([24].all fun u => !Tryd.prog.wantsStandIn u) = true := by kernel_rfl
        exact (show Tryd.prog.wantsStandIn t = false by simpa using List.all_eq_true.1 hall t hm)⟩)
    (by kernel_rfl)
end Go.Proofs.YtieikooalmfmfaaDoor
