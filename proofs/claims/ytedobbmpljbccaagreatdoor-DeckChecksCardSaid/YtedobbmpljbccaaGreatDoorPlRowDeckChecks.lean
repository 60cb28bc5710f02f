/- The row and the card of DeckChecks. -/
import Derived.Test.YtedobbmpljbccaaGreatDoorPlDkN
import Derived.Test.YtedobbmpljbccaaGreatDoorPlDkD
import Derived.Test.YtedobbmpljbccaaGreatDoorPlPtoPlPn
import Derived.Test.YtedobbmpljbccaaGreatDoorPlPotoPlPd
import Derived.Test.YtedobbmpljbccaaGreatDoorTie
import Derived.Test.YtedobbmpljbccaaGreatDoorCards
namespace Go.Proofs.YtedobbmpljbccaaGreatDoor
open Go.ChangeShapes Go.WideShapes Go.ChangeAt Go.RowKit Go.PL Go.ChangeMaps
set_option linter.all false
theorem own : ownKnob Tryz.prog.godebug = none := by kernel_rfl
theorem laidOut : laidOutB Tryz.prog = true := by kernel_rfl
theorem gPow : Tryz.prog.globalNamed "internal/strconv.uint64pow10" = some 3 := by kernel_rfl
theorem tPow : (Tryz.prog.globals[3]?).map (·.type) = some 159 := by kernel_rfl
theorem cPow : Tryz.prog.cellsOf 159 = 20 := by kernel_rfl
theorem cPe : Tryz.prog.cellsOf 77 = 1 := by kernel_rfl
theorem gSyntax : Tryz.prog.globalNamed "strconv.ErrSyntax" = some 1 := by kernel_rfl
theorem gRange : Tryz.prog.globalNamed "strconv.ErrRange" = some 2 := by kernel_rfl
theorem tSyntax : (Tryz.prog.globals[1]?).map (·.type) = some 58 := by kernel_rfl
theorem tRange : (Tryz.prog.globals[2]?).map (·.type) = some 58 := by kernel_rfl
theorem inv_of_laid {W : World} (h : laidMetH Tryz.prog Rows.deckChecksRow.laid W) : I0 W := by
  rw [MakeChecks.laidMetH_plain _ _ _ (by kernel_rfl)] at h
  have hp := h.filter (fun x => x.1 == "internal/strconv.uint64pow10")
  have hs := h.filter (fun x => x.1 == "strconv.ErrSyntax")
  have hr := h.filter (fun x => x.1 == "strconv.ErrRange")
  exact ⟨Lib.tabIs_of_head (rest := []) gPow tPow Tryz.underlying159 Tryz.underlying77 cPe cPow hp, var_iface (rest := []) gSyntax tSyntax Tryz.underlying58 hs, var_iface (rest := []) gRange tRange Tryz.underlying58 hr⟩
theorem deckChecks_q0 : (Rows.deckChecksRow.wf (OpenSpec.ofChange Rows.deckChecksSpec)) = true := by kernel_rfl
theorem deckChecks_q1 : (laidOutB Tryz.prog) = true := by kernel_rfl
theorem deckChecks_q2 : (mapsRowed Tryz.prog) = true := by kernel_rfl
theorem deckChecks_q3 : (Tryz.f3.params.all (Tryz.prog.readableRec ·)) = true := by kernel_rfl
theorem deckChecks_q4 : (namedTie Tryz.prog Rows.deckChecksRow.named Rows.deckChecksSpec.vars) = true := by kernel_rfl
theorem deckChecks_q5 : ((Rows.deckChecksRow.stops == [])) = true := by kernel_rfl
theorem deckChecks_q6 : ((Tryz.prog.stops == [])) = true := by kernel_rfl
theorem deckChecks_q7 : ((Rows.deckChecksRow.knobs == [])) = true := by kernel_rfl
theorem deckChecks_q8 : ((Tryz.prog.stopKnobs == [])) = true := by kernel_rfl
theorem deckChecks_q9 : ((Rows.deckChecksRow.inPlace == Tryz.prog.inPlace 3)) = true := by kernel_rfl
theorem deckChecks_q10 : ((Rows.deckChecksRow.unfollowed == Tryz.prog.unfollowed 3)) = true := by kernel_rfl
theorem deckChecks_q11 : ((Rows.deckChecksRow.recurses == Tryz.prog.recurses 3)) = true := by kernel_rfl
theorem deckChecks_q12 : ((Rows.deckChecksRow.named == Tryz.prog.varsNamed 3)) = true := by kernel_rfl
theorem deckChecks_q13 : ((Rows.deckChecksRow.maps == (Tryz.f3.params.toList ++ Rows.deckChecksSpec.plain.varTypes Tryz.prog).any (Tryz.prog.mapsRec ·))) = true := by kernel_rfl
theorem deckChecks_q14 : ((Rows.deckChecksRow.ifaces == (Tryz.f3.params.toList ++ Rows.deckChecksSpec.plain.varTypes Tryz.prog).any (Tryz.prog.ifacesRec ·))) = true := by kernel_rfl
theorem deckChecks_q15 : ((Rows.deckChecksRow.mapsOut == Tryz.prog.mapsAmong Tryz.f3.resultTypes.toList)) = true := by kernel_rfl
theorem deckChecks_q16 : ((Rows.deckChecksRow.loops == (Tryz.f3.params.toList ++ Rows.deckChecksSpec.plain.varTypes Tryz.prog).any (Tryz.prog.loopsFrom ·))) = true := by kernel_rfl
theorem deckChecks_q17 : ((Rows.deckChecksRow.wideKeys == (Tryz.f3.params.toList ++ Rows.deckChecksSpec.plain.varTypes Tryz.prog ++ Tryz.f3.resultTypes.toList).any (Tryz.prog.wideKeysFrom ·))) = true := by kernel_rfl
theorem deckChecks_q18 : (Rows.deckChecksSpec.vars.all (Tryz.prog.varReadable ·)) = true := by kernel_rfl
theorem deckChecks_q19 : (Tryz.f3.resultTypes.all (fun t => Tryz.prog.readableRec t && decide (t < Tryz.prog.types.size))) = true := by kernel_rfl
theorem deckChecks_q20 : ((Rows.deckChecksRow.ifacesOut == Tryz.f3.resultTypes.toList.any (Tryz.prog.ifacesRec ·))) = true := by kernel_rfl
theorem deckChecks_q21 : ((Rows.deckChecksRow.loopsOut == Tryz.f3.resultTypes.toList.any (Tryz.prog.loopsFrom ·))) = true := by kernel_rfl
theorem deckChecks_q22 : ((Rows.deckChecksRow.plainKeys == Tryz.prog.plainKeys)) = true := by kernel_rfl
theorem deckChecks_q23 : (Rows.deckChecksRow.shortTexts.isNone) = true := by kernel_rfl
theorem deckChecks_q24 : (Tryz.prog.stopsHeard) = true := by kernel_rfl
theorem deckChecks_q25 : (Tryz.prog.mayEnter) = true := by kernel_rfl
theorem deckChecks_q26 : ((Rows.deckChecksRow.lifted == Tryz.prog.liftsFinal)) = true := by kernel_rfl
theorem deckChecks_q27 : ((Tryz.prog.make == some Rows.deckChecksRow.make)) = true := by kernel_rfl
theorem deckChecks_q28 : (Rows.deckChecksRow.domain.isEmpty && (Rows.deckChecksRow.kinds == [])) = true := by kernel_rfl
theorem deckChecks_q29 : ((Rows.deckChecksRow.pinned == Rows.deckChecksRow.pinnedBy)) = true := by kernel_rfl
theorem deckChecks_q30 : ((Rows.deckChecksRow.veiled == (Tryz.f3.params.toList ++ Rows.deckChecksSpec.plain.varTypes Tryz.prog ++ Tryz.f3.resultTypes.toList).any (Tryz.prog.veiledRec ·))) = true := by kernel_rfl
theorem deckChecks_q31 : (Rows.deckChecksRow.veiledFits Tryz.prog Tryz.f3.params.toList (Tryz.f3.params.toList ++ Rows.deckChecksSpec.plain.varTypes Tryz.prog ++ Tryz.f3.resultTypes.toList)) = true := by kernel_rfl
theorem deckChecks_joined : joinedFacts Tryz.prog 3 Tryz.f3 Rows.deckChecksSpec Rows.deckChecksRow = true := joined_of deckChecks_q0 deckChecks_q1 deckChecks_q2 deckChecks_q3 deckChecks_q4 deckChecks_q5 deckChecks_q6 deckChecks_q7 deckChecks_q8 deckChecks_q9 deckChecks_q10 deckChecks_q11 deckChecks_q12 deckChecks_q13 deckChecks_q14 deckChecks_q15 deckChecks_q16 deckChecks_q17 deckChecks_q18 deckChecks_q19 deckChecks_q20 deckChecks_q21 deckChecks_q22 deckChecks_q23 deckChecks_q24 deckChecks_q25 deckChecks_q26 deckChecks_q27 deckChecks_q28 deckChecks_q29 deckChecks_q30 deckChecks_q31

theorem deckChecks_rd : (Tryz.f3.params.toList.all fun t => Tryz.prog.readableRec t && decide (t < Tryz.prog.types.size)) = true := by kernel_rfl
set_option maxRecDepth 100000 in
theorem deckChecks_lifted (os : Os) (started : os.Started) (H : Type) (enc : TypeId × Value → H) :
    ReturnsInHanded {} Tryz.checked os 3 .any (fun w args => (Rows.deckChecksSpec.pre enc Tryz.prog Tryz.f3 [] false w args ∧ laidMetH Tryz.prog Rows.deckChecksRow.laid w) ∧ sizedMet enc Tryz.prog Tryz.f3 (OpenSpec.ofChange Rows.deckChecksSpec) false w args)
      (Rows.deckChecksSpec.post enc Tryz.prog Tryz.f3 false true false false) := by
  refine returnsInHanded_of_change_and (C := Tryz.checked) (X := fun w _ => laidMetH Tryz.prog Rows.deckChecksRow.laid w) (fun _ _ _ hh h => h.of_heap hh) own started (by kernel_rfl) Tryz.func3
    (ChangeSpec.witness_shaped (enc := enc) (C := Tryz.checked) (os := os) (X := fun w _ => laidMetH Tryz.prog Rows.deckChecksRow.laid w) false (World.laidAll Tryz.prog os Rows.deckChecksRow.laid) #[.agg #[.slice none 0 0, .slice none 0 0, .slice none 0 0, .int .i64 0, .int .i64 0, .int .i64 0, .slice none 0 0]] 8 (World.laidAll_os _ _ _)
      (World.shaped_of_ZipB (by kernel_rfl) (by kernel_rfl)) (by kernel_rfl) (by kernel_rfl) (by kernel_rfl)
      (by rw [MakeChecks.laidMetH_plain _ _ _ (by kernel_rfl)]; exact laidMet_laidAll _ (by kernel_rfl) (by kernel_rfl))) ?_
  intro W base args ds gs before hval0 hW _ hS hL _
  have hval : ∀ (j : Nat) t v, Tryz.f3.params[j]? = some t → args[j]? = some v → Value.okWide Tryz.prog W .any base t v := hval0
  have hW' := hW
  obtain ⟨p, q, hA0, hV, rfl, _, _⟩ := hW
  have hA : DataW.TrodAll enc Tryz.prog W 0 (fun _ => true) true Tryz.f3.params.toList args.toList ds p := hA0
  have hA1 := hA
  obtain ⟨rfl, rfl⟩ := trodVars_none hV
  simp only [List.append_nil] at hW'
  have hlt : ∀ x ∈ p, x.block < W.heap.size := fun x hx => by simpa using hW'.lt x hx
  rw [Tryz.params3] at hA hval
  obtain ⟨v0, vs0, d0, ds0, p0, q0, hargs, rfl, rfl, h0, r0⟩ := trodAll_cons hA
  obtain ⟨rfl, rfl, rfl⟩ := trodAll_nil r0
  obtain rfl : args = #[v0] := by cases args; simp_all
  have hS1 : (DataW.weightsEach Tryz.prog Tryz.f3.params.toList [d0]).all (· ≤ reachBytes) = true := hS
  rw [Tryz.params3] at hS1
  obtain ⟨s0, hS1⟩ := sized_cons hS1
  obtain ⟨x0, ok0, R0⟩ := arg_agg (e := encSAsk) 20 (by kernel_rfl) Tryz.underlying30 decSAsk (hval 0 30 v0 rfl rfl) h0 s0
  refine (PCall.law (law23_DeckChecks_ok (law_DeckChecks (lkSAsk_ok ok0))) (inv_of_laid hL) (args := _) (by simp only [RelVs]; exact ⟨_, _, rfl, R0, rfl⟩)).mono fun e W' ⟨he, hb⟩ => ?_
  subst he
  have hB := trodAll_below laidOut hb deckChecks_rd hA1 hlt
  exact ⟨_, rfl, _, _, _, [], _, [], hW', trodAll_mk1 (shut_bool Tryz.underlying4 _), hB, rfl, hb.frame _, fun h => by cases h⟩
theorem deckChecks_holds : Rows.DeckChecksSaid :=
  OpenClaim.holds_of_wide 3 Tryz.f3 rfl rfl rfl rfl rfl rfl rfl ⟨rfl, rfl, rfl, rfl, rfl⟩ rfl rfl rfl rfl rfl (by kernel_rfl) Tryz.func3 deckChecks_joined
    (of_decide_eq_true (by kernel_rfl)) (by unfold Func.isWrapper; first | (rw [if_pos (by decide +kernel)]; kernel_rfl) | (rw [if_neg (by decide +kernel)]; exact ⟨rfl, rfl⟩))
    (fun os started H enc _ => deckChecks_lifted os started H enc)
theorem deckChecks_card : Rows.DeckChecksCardSaid :=
  Claim7.holds_tied_plain_at .later [] _ _ _ _ deckChecks_holds (fun _ h => by cases h) (by kernel_rfl) (fun _ h => by cases h) deckChecks_row_tie rfl ⟨rfl, rfl⟩ (by kernel_rfl) rfl
    (fun f fn hf hfn => by
      obtain rfl : f = 3 := Option.some.inj ((show Tryz.prog.funcNamed "cardgame/cardgamelaw23.DeckChecks" = some 3 by kernel_rfl).symm.trans hf) |>.symm
      obtain rfl : fn = Tryz.f3 := (Option.some.inj (Tryz.func3.symm.trans hfn)).symm
      exact ⟨by kernel_rfl, fun j t ht => by
        rw [Tryz.params3] at ht
        have hm : t ∈ [30] := by simpa using Array.mem_of_getElem? ht
        have hall : ([30].all fun u => !Tryz.prog.wantsStandIn u) = true := by kernel_rfl
        exact (show Tryz.prog.wantsStandIn t = false by simpa using List.all_eq_true.1 hall t hm)⟩)
    (by kernel_rfl)
end Go.Proofs.YtedobbmpljbccaaGreatDoor
