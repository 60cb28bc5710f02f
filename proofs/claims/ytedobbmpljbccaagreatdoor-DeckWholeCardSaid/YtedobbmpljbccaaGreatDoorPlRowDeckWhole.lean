/- The row and the card of DeckWhole. -/
import Derived.Test.YtedobbmpljbccaaGreatDoorPlDkQ
import Derived.Test.YtedobbmpljbccaaGreatDoorPlDkD
import Derived.Test.YtedobbmpljbccaaGreatDoorPlPtoPlPn
import Derived.Test.YtedobbmpljbccaaGreatDoorPlPotoPlPd
import Derived.Test.YtedobbmpljbccaaGreatDoorTie
import Derived.Test.YtedobbmpljbccaaGreatDoorCards
namespace Go.Proofs.YtedobbmpljbccaaGreatDoor
open Go.ChangeShapes Go.WideShapes Go.ChangeAt Go.RowKit Go.PL Go.ChangeMaps
set_option linter.all false
theorem own : ownKnob Tryz.prog.godebug = none := by kernel_rfl
theorem laidOut : laidOutB Tryz.prog = true := by kernel_rfl
theorem gPow : Tryz.prog.globalNamed "internal/strconv.uint64pow10" = some 3 := by kernel_rfl
theorem tPow : (Tryz.prog.globals[3]?).map (·.type) = some 159 := by kernel_rfl
theorem cPow : Tryz.prog.cellsOf 159 = 20 := by kernel_rfl
theorem cPe : Tryz.prog.cellsOf 77 = 1 := by kernel_rfl
theorem gSyntax : Tryz.prog.globalNamed "strconv.ErrSyntax" = some 1 := by kernel_rfl
theorem gRange : Tryz.prog.globalNamed "strconv.ErrRange" = some 2 := by kernel_rfl
theorem tSyntax : (Tryz.prog.globals[1]?).map (·.type) = some 58 := by kernel_rfl
theorem tRange : (Tryz.prog.globals[2]?).map (·.type) = some 58 := by kernel_rfl
theorem inv_of_laid {W : World} (h : laidMetH Tryz.prog Rows.deckWholeRow.laid W) : I0 W := by
  rw [MakeChecks.laidMetH_plain _ _ _ (by kernel_rfl)] at h
  have hp := h.filter (fun x => x.1 == "internal/strconv.uint64pow10")
  have hs := h.filter (fun x => x.1 == "strconv.ErrSyntax")
  have hr := h.filter (fun x => x.1 == "strconv.ErrRange")
  exact ⟨Lib.tabIs_of_head (rest := []) gPow tPow Tryz.underlying159 Tryz.underlying77 cPe cPow hp, var_iface (rest := []) gSyntax tSyntax Tryz.underlying58 hs, var_iface (rest := []) gRange tRange Tryz.underlying58 hr⟩
theorem deckWhole_q0 : (Rows.deckWholeRow.wf (OpenSpec.ofChange Rows.deckWholeSpec)) = true := by kernel_rfl
theorem deckWhole_q1 : (laidOutB Tryz.prog) = true := by kernel_rfl
theorem deckWhole_q2 : (mapsRowed Tryz.prog) = true := by kernel_rfl
theorem deckWhole_q3 : (Tryz.f6.params.all (Tryz.prog.readableRec ·)) = true := by kernel_rfl
theorem deckWhole_q4 : (namedTie Tryz.prog Rows.deckWholeRow.named Rows.deckWholeSpec.vars) = true := by kernel_rfl
theorem deckWhole_q5 : ((Rows.deckWholeRow.stops == [])) = true := by kernel_rfl
theorem deckWhole_q6 : ((Tryz.prog.stops == [])) = true := by kernel_rfl
theorem deckWhole_q7 : ((Rows.deckWholeRow.knobs == [])) = true := by kernel_rfl
theorem deckWhole_q8 : ((Tryz.prog.stopKnobs == [])) = true := by kernel_rfl
theorem deckWhole_q9 : ((Rows.deckWholeRow.inPlace == Tryz.prog.inPlace 6)) = true := by kernel_rfl
theorem deckWhole_q10 : ((Rows.deckWholeRow.unfollowed == Tryz.prog.unfollowed 6)) = true := by kernel_rfl
theorem deckWhole_q11 : ((Rows.deckWholeRow.recurses == Tryz.prog.recurses 6)) = true := by kernel_rfl
theorem deckWhole_q12 : ((Rows.deckWholeRow.named == Tryz.prog.varsNamed 6)) = true := by kernel_rfl
theorem deckWhole_q13 : ((Rows.deckWholeRow.maps == (Tryz.f6.params.toList ++ Rows.deckWholeSpec.plain.varTypes Tryz.prog).any (Tryz.prog.mapsRec ·))) = true := by kernel_rfl
theorem deckWhole_q14 : ((Rows.deckWholeRow.ifaces == (Tryz.f6.params.toList ++ Rows.deckWholeSpec.plain.varTypes Tryz.prog).any (Tryz.prog.ifacesRec ·))) = true := by kernel_rfl
theorem deckWhole_q15 : ((Rows.deckWholeRow.mapsOut == Tryz.prog.mapsAmong Tryz.f6.resultTypes.toList)) = true := by kernel_rfl
theorem deckWhole_q16 : ((Rows.deckWholeRow.loops == (Tryz.f6.params.toList ++ Rows.deckWholeSpec.plain.varTypes Tryz.prog).any (Tryz.prog.loopsFrom ·))) = true := by kernel_rfl
theorem deckWhole_q17 : ((Rows.deckWholeRow.wideKeys == (Tryz.f6.params.toList ++ Rows.deckWholeSpec.plain.varTypes Tryz.prog ++ Tryz.f6.resultTypes.toList).any (Tryz.prog.wideKeysFrom ·))) = true := by kernel_rfl
theorem deckWhole_q18 : (Rows.deckWholeSpec.vars.all (Tryz.prog.varReadable ·)) = true := by kernel_rfl
theorem deckWhole_q19 : (Tryz.f6.resultTypes.all (fun t => Tryz.prog.readableRec t && decide (t < Tryz.prog.types.size))) = true := by kernel_rfl
theorem deckWhole_q20 : ((Rows.deckWholeRow.ifacesOut == Tryz.f6.resultTypes.toList.any (Tryz.prog.ifacesRec ·))) = true := by kernel_rfl
theorem deckWhole_q21 : ((Rows.deckWholeRow.loopsOut == Tryz.f6.resultTypes.toList.any (Tryz.prog.loopsFrom ·))) = true := by kernel_rfl
theorem deckWhole_q22 : ((Rows.deckWholeRow.plainKeys == Tryz.prog.plainKeys)) = true := by kernel_rfl
theorem deckWhole_q23 : (Rows.deckWholeRow.shortTexts.isNone) = true := by kernel_rfl
theorem deckWhole_q24 : (Tryz.prog.stopsHeard) = true := by kernel_rfl
theorem deckWhole_q25 : (Tryz.prog.mayEnter) = true := by kernel_rfl
theorem deckWhole_q26 : ((Rows.deckWholeRow.lifted == Tryz.prog.liftsFinal)) = true := by kernel_rfl
theorem deckWhole_q27 : ((Tryz.prog.make == some Rows.deckWholeRow.make)) = true := by kernel_rfl
theorem deckWhole_q28 : (Rows.deckWholeRow.domain.isEmpty && (Rows.deckWholeRow.kinds == [])) = true := by kernel_rfl
theorem deckWhole_q29 : ((Rows.deckWholeRow.pinned == Rows.deckWholeRow.pinnedBy)) = true := by kernel_rfl
theorem deckWhole_q30 : ((Rows.deckWholeRow.veiled == (Tryz.f6.params.toList ++ Rows.deckWholeSpec.plain.varTypes Tryz.prog ++ Tryz.f6.resultTypes.toList).any (Tryz.prog.veiledRec ·))) = true := by kernel_rfl
theorem deckWhole_q31 : (Rows.deckWholeRow.veiledFits Tryz.prog Tryz.f6.params.toList (Tryz.f6.params.toList ++ Rows.deckWholeSpec.plain.varTypes Tryz.prog ++ Tryz.f6.resultTypes.toList)) = true := by kernel_rfl
theorem deckWhole_joined : joinedFacts Tryz.prog 6 Tryz.f6 Rows.deckWholeSpec Rows.deckWholeRow = true := joined_of deckWhole_q0 deckWhole_q1 deckWhole_q2 deckWhole_q3 deckWhole_q4 deckWhole_q5 deckWhole_q6 deckWhole_q7 deckWhole_q8 deckWhole_q9 deckWhole_q10 deckWhole_q11 deckWhole_q12 deckWhole_q13 deckWhole_q14 deckWhole_q15 deckWhole_q16 deckWhole_q17 deckWhole_q18 deckWhole_q19 deckWhole_q20 deckWhole_q21 deckWhole_q22 deckWhole_q23 deckWhole_q24 deckWhole_q25 deckWhole_q26 deckWhole_q27 deckWhole_q28 deckWhole_q29 deckWhole_q30 deckWhole_q31

theorem deckWhole_rd : (Tryz.f6.params.toList.all fun t => Tryz.prog.readableRec t && decide (t < Tryz.prog.types.size)) = true := by kernel_rfl
set_option maxRecDepth 100000 in
theorem deckWhole_lifted (os : Os) (started : os.Started) (H : Type) (enc : TypeId × Value → H) :
    ReturnsInHanded {} Tryz.checked os 6 .any (fun w args => (Rows.deckWholeSpec.pre enc Tryz.prog Tryz.f6 [] false w args ∧ laidMetH Tryz.prog Rows.deckWholeRow.laid w) ∧ sizedMet enc Tryz.prog Tryz.f6 (OpenSpec.ofChange Rows.deckWholeSpec) false w args)
      (Rows.deckWholeSpec.post enc Tryz.prog Tryz.f6 false true false false) := by
  refine returnsInHanded_of_change_and (C := Tryz.checked) (X := fun w _ => laidMetH Tryz.prog Rows.deckWholeRow.laid w) (fun _ _ _ hh h => h.of_heap hh) own started (by kernel_rfl) Tryz.func6
    (ChangeSpec.witness_shaped (enc := enc) (C := Tryz.checked) (os := os) (X := fun w _ => laidMetH Tryz.prog Rows.deckWholeRow.laid w) false (World.laidAll Tryz.prog os Rows.deckWholeRow.laid) #[.agg #[.slice none 0 0, .slice none 0 0, .slice none 0 0, .int .i64 0, .int .i64 0, .int .i64 0, .slice none 0 0]] 8 (World.laidAll_os _ _ _)
      (World.shaped_of_ZipB (by kernel_rfl) (by kernel_rfl)) (by kernel_rfl) (by kernel_rfl) (by kernel_rfl)
      (by rw [MakeChecks.laidMetH_plain _ _ _ (by kernel_rfl)]; exact laidMet_laidAll _ (by kernel_rfl) (by kernel_rfl))) ?_
  intro W base args ds gs before hval0 hW _ hS hL _
  have hval : ∀ (j : Nat) t v, Tryz.f6.params[j]? = some t → args[j]? = some v → Value.okWide Tryz.prog W .any base t v := hval0
  have hW' := hW
  obtain ⟨p, q, hA0, hV, rfl, _, _⟩ := hW
  have hA : DataW.TrodAll enc Tryz.prog W 0 (fun _ => true) true Tryz.f6.params.toList args.toList ds p := hA0
  have hA1 := hA
  obtain ⟨rfl, rfl⟩ := trodVars_none hV
  simp only [List.append_nil] at hW'
  have hlt : ∀ x ∈ p, x.block < W.heap.size := fun x hx => by simpa using hW'.lt x hx
  rw [Tryz.params6] at hA hval
  obtain ⟨v0, vs0, d0, ds0, p0, q0, hargs, rfl, rfl, h0, r0⟩ := trodAll_cons hA
  obtain ⟨rfl, rfl, rfl⟩ := trodAll_nil r0
  obtain rfl : args = #[v0] := by cases args; simp_all
  have hS1 : (DataW.weightsEach Tryz.prog Tryz.f6.params.toList [d0]).all (· ≤ reachBytes) = true := hS
  rw [Tryz.params6] at hS1
  obtain ⟨s0, hS1⟩ := sized_cons hS1
  obtain ⟨x0, ok0, R0⟩ := arg_agg (e := encSAsk) 20 (by kernel_rfl) Tryz.underlying30 decSAsk (hval 0 30 v0 rfl rfl) h0 s0
  refine (PCall.law (law23_DeckWhole_ok (law_DeckWhole (lkSAsk_ok ok0))) (inv_of_laid hL) (args := _) (by simp only [RelVs]; exact ⟨_, _, rfl, R0, rfl⟩)).mono fun e W' ⟨he, hb⟩ => ?_
  subst he
  have hB := trodAll_below laidOut hb deckWhole_rd hA1 hlt
  exact ⟨_, rfl, _, _, _, [], _, [], hW', trodAll_mk1 (shut_bool Tryz.underlying4 _), hB, rfl, hb.frame _, fun h => by cases h⟩
theorem deckWhole_holds : Rows.DeckWholeSaid :=
  OpenClaim.holds_of_wide 6 Tryz.f6 rfl rfl rfl rfl rfl rfl rfl ⟨rfl, rfl, rfl, rfl, rfl⟩ rfl rfl rfl rfl rfl (by kernel_rfl) Tryz.func6 deckWhole_joined
    (of_decide_eq_true (by kernel_rfl)) (by unfold Func.isWrapper; first | (rw [if_pos (by decide +kernel)]; kernel_rfl) | (rw [if_neg (by decide +kernel)]; exact ⟨rfl, rfl⟩))
    (fun os started H enc _ => deckWhole_lifted os started H enc)
theorem deckWhole_card : Rows.DeckWholeCardSaid :=
  Claim7.holds_tied_plain_at .later [] _ _ _ _ deckWhole_holds (fun _ h => by cases h) (by kernel_rfl) (fun _ h => by cases h) deckWhole_row_tie rfl ⟨rfl, rfl⟩ (by kernel_rfl) rfl
    (fun f fn hf hfn => by
      obtain rfl : f = 6 := Option.some.inj ((show Tryz.prog.funcNamed "cardgame/cardgamelaw23.DeckWhole" = some 6 by kernel_rfl).symm.trans hf) |>.symm
      obtain rfl : fn = Tryz.f6 := (Option.some.inj (Tryz.func6.symm.trans hfn)).symm
      exact ⟨by kernel_rfl, fun j t ht => by
        rw [Tryz.params6] at ht
        have hm : t ∈ [30] := by simpa using Array.mem_of_getElem? ht
        have hall : ([30].all fun u => !Tryz.prog.wantsStandIn u) = true := by kernel_rfl
        exact (show Tryz.prog.wantsStandIn t = false by simpa using List.all_eq_true.1 hall t hm)⟩)
    (by kernel_rfl)
end Go.Proofs.YtedobbmpljbccaaGreatDoor
