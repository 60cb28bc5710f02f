/- The row and the card of ManaPools. -/
import Derived.Test.YtieikooalmfmfaaDoorPlMaQ
import Derived.Test.YtieikooalmfmfaaDoorPlMaD
import Derived.Test.YtieikooalmfmfaaDoorPlRtoPlPd
import Derived.Test.YtieikooalmfmfaaDoorPlRtoPlPd
import Derived.Test.YtieikooalmfmfaaDoorTie
import Derived.Test.YtieikooalmfmfaaDoorCards
namespace Go.Proofs.YtieikooalmfmfaaDoor
open Go.ChangeShapes Go.WideShapes Go.ChangeAt Go.RowKit Go.PL Go.ChangeMaps
set_option linter.all false
theorem own : ownKnob Tryd.prog.godebug = none := by kernel_rfl
theorem laidOut : laidOutB Tryd.prog = true := by kernel_rfl
theorem gPow : Tryd.prog.globalNamed "internal/strconv.uint64pow10" = some 3 := by kernel_rfl
theorem tPow : (Tryd.prog.globals[3]?).map (·.type) = some 144 := by kernel_rfl
theorem cPow : Tryd.prog.cellsOf 144 = 20 := by kernel_rfl
theorem cPe : Tryd.prog.cellsOf 102 = 1 := by kernel_rfl
theorem gSyntax : Tryd.prog.globalNamed "strconv.ErrSyntax" = some 1 := by kernel_rfl
theorem gRange : Tryd.prog.globalNamed "strconv.ErrRange" = some 2 := by kernel_rfl
theorem tSyntax : (Tryd.prog.globals[1]?).map (·.type) = some 91 := by kernel_rfl
theorem tRange : (Tryd.prog.globals[2]?).map (·.type) = some 91 := by kernel_rfl
theorem inv_of_laid {W : World} (h : laidMetH Tryd.prog Rows.manaPoolsRow.laid W) : I0 W := by
  rw [MakeChecks.laidMetH_plain _ _ _ (by kernel_rfl)] at h
  have hp := h.filter (fun x => x.1 == "internal/strconv.uint64pow10")
  have hs := h.filter (fun x => x.1 == "strconv.ErrSyntax")
  have hr := h.filter (fun x => x.1 == "strconv.ErrRange")
  exact ⟨Lib.tabIs_of_head (rest := []) gPow tPow Tryd.underlying144 Tryd.underlying102 cPe cPow hp, var_iface (rest := []) gSyntax tSyntax Tryd.underlying91 hs, var_iface (rest := []) gRange tRange Tryd.underlying91 hr⟩
theorem manaPools_q0 : (Rows.manaPoolsRow.wf (OpenSpec.ofChange Rows.manaPoolsSpec)) = true := by kernel_rfl
theorem manaPools_q1 : (laidOutB Tryd.prog) = true := by kernel_rfl
theorem manaPools_q2 : (mapsRowed Tryd.prog) = true := by kernel_rfl
theorem manaPools_q3 : (Tryd.f7.params.all (Tryd.prog.readableRec ·)) = true := by kernel_rfl
theorem manaPools_q4 : (namedTie Tryd.prog Rows.manaPoolsRow.named Rows.manaPoolsSpec.vars) = true := by kernel_rfl
theorem manaPools_q5 : ((Rows.manaPoolsRow.stops == [])) = true := by kernel_rfl
theorem manaPools_q6 : ((Tryd.prog.stops == [])) = true := by kernel_rfl
theorem manaPools_q7 : ((Rows.manaPoolsRow.knobs == [])) = true := by kernel_rfl
theorem manaPools_q8 : ((Tryd.prog.stopKnobs == [])) = true := by kernel_rfl
theorem manaPools_q9 : ((Rows.manaPoolsRow.inPlace == Tryd.prog.inPlace 7)) = true := by kernel_rfl
theorem manaPools_q10 : ((Rows.manaPoolsRow.unfollowed == Tryd.prog.unfollowed 7)) = true := by kernel_rfl
theorem manaPools_q11 : ((Rows.manaPoolsRow.recurses == Tryd.prog.recurses 7)) = true := by kernel_rfl
theorem manaPools_q12 : ((Rows.manaPoolsRow.named == Tryd.prog.varsNamed 7)) = true := by kernel_rfl
theorem manaPools_q13 : ((Rows.manaPoolsRow.maps == (Tryd.f7.params.toList ++ Rows.manaPoolsSpec.plain.varTypes Tryd.prog).any (Tryd.prog.mapsRec ·))) = true := by kernel_rfl
theorem manaPools_q14 : ((Rows.manaPoolsRow.ifaces == (Tryd.f7.params.toList ++ Rows.manaPoolsSpec.plain.varTypes Tryd.prog).any (Tryd.prog.ifacesRec ·))) = true := by kernel_rfl
theorem manaPools_q15 : ((Rows.manaPoolsRow.mapsOut == Tryd.prog.mapsAmong Tryd.f7.resultTypes.toList)) = true := by kernel_rfl
theorem manaPools_q16 : ((Rows.manaPoolsRow.loops == (Tryd.f7.params.toList ++ Rows.manaPoolsSpec.plain.varTypes Tryd.prog).any (Tryd.prog.loopsFrom ·))) = true := by kernel_rfl
theorem manaPools_q17 : ((Rows.manaPoolsRow.wideKeys == (Tryd.f7.params.toList ++ Rows.manaPoolsSpec.plain.varTypes Tryd.prog ++ Tryd.f7.resultTypes.toList).any (Tryd.prog.wideKeysFrom ·))) = true := by kernel_rfl
theorem manaPools_q18 : (Rows.manaPoolsSpec.vars.all (Tryd.prog.varReadable ·)) = true := by kernel_rfl
theorem manaPools_q19 : (Tryd.f7.resultTypes.all (fun t => Tryd.prog.readableRec t && decide (t < Tryd.prog.types.size))) = true := by kernel_rfl
theorem manaPools_q20 : ((Rows.manaPoolsRow.ifacesOut == Tryd.f7.resultTypes.toList.any (Tryd.prog.ifacesRec ·))) = true := by kernel_rfl
theorem manaPools_q21 : ((Rows.manaPoolsRow.loopsOut == Tryd.f7.resultTypes.toList.any (Tryd.prog.loopsFrom ·))) = true := by kernel_rfl
theorem manaPools_q22 : ((Rows.manaPoolsRow.plainKeys == Tryd.prog.plainKeys)) = true := by kernel_rfl
theorem manaPools_q23 : (Rows.manaPoolsRow.shortTexts.isNone) = true := by kernel_rfl
theorem manaPools_q24 : (Tryd.prog.stopsHeard) = true := by kernel_rfl
theorem manaPools_q25 : (Tryd.prog.mayEnter) = true := by kernel_rfl
theorem manaPools_q26 : ((Rows.manaPoolsRow.lifted == Tryd.prog.liftsFinal)) = true := by kernel_rfl
theorem manaPools_q27 : ((Tryd.prog.make == some Rows.manaPoolsRow.make)) = true := by kernel_rfl
theorem manaPools_q28 : (Rows.manaPoolsRow.domain.isEmpty && (Rows.manaPoolsRow.kinds == [])) = true := by kernel_rfl
theorem manaPools_q29 : ((Rows.manaPoolsRow.pinned == Rows.manaPoolsRow.pinnedBy)) = true := by kernel_rfl
theorem manaPools_q30 : ((Rows.manaPoolsRow.veiled == (Tryd.f7.params.toList ++ Rows.manaPoolsSpec.plain.varTypes Tryd.prog ++ Tryd.f7.resultTypes.toList).any (Tryd.prog.veiledRec ·))) = true := by kernel_rfl
theorem manaPools_q31 : (Rows.manaPoolsRow.veiledFits Tryd.prog Tryd.f7.params.toList (Tryd.f7.params.toList ++ Rows.manaPoolsSpec.plain.varTypes Tryd.prog ++ Tryd.f7.resultTypes.toList)) = true := by kernel_rfl
theorem manaPools_joined : joinedFacts Tryd.prog 7 Tryd.f7 Rows.manaPoolsSpec Rows.manaPoolsRow = true := joined_of manaPools_q0 manaPools_q1 manaPools_q2 manaPools_q3 manaPools_q4 manaPools_q5 manaPools_q6 manaPools_q7 manaPools_q8 manaPools_q9 manaPools_q10 manaPools_q11 manaPools_q12 manaPools_q13 manaPools_q14 manaPools_q15 manaPools_q16 manaPools_q17 manaPools_q18 manaPools_q19 manaPools_q20 manaPools_q21 manaPools_q22 manaPools_q23 manaPools_q24 manaPools_q25 manaPools_q26 manaPools_q27 manaPools_q28 manaPools_q29 manaPools_q30 manaPools_q31

theorem manaPools_rd : (Tryd.f7.params.toList.all fun t => Tryd.prog.readableRec t && decide (t < Tryd.prog.types.size)) = true := by kernel_rfl
set_option maxRecDepth 100000 in
theorem manaPools_lifted (os : Os) (started : os.Started) (H : Type) (enc : TypeId × Value → H) :
    ReturnsInHanded {} Tryd.checked os 7 .any (fun w args => (Rows.manaPoolsSpec.pre enc Tryd.prog Tryd.f7 [] false w args ∧ laidMetH Tryd.prog Rows.manaPoolsRow.laid w) ∧ sizedMet enc Tryd.prog Tryd.f7 (OpenSpec.ofChange Rows.manaPoolsSpec) false w args)
      (Rows.manaPoolsSpec.post enc Tryd.prog Tryd.f7 false true false false) := by
  refine returnsInHanded_of_change_and (C := Tryd.checked) (X := fun w _ => laidMetH Tryd.prog Rows.manaPoolsRow.laid w) (fun _ _ _ hh h => h.of_heap hh) own started (by kernel_rfl) Tryd.func7
    (ChangeSpec.witness_shaped (enc := enc) (C := Tryd.checked) (os := os) (X := fun w _ => laidMetH Tryd.prog Rows.manaPoolsRow.laid w) false (World.laidAll Tryd.prog os Rows.manaPoolsRow.laid) #[.agg #[.int .i64 0, .int .i64 0, .int .i64 0, .int .i64 0, .int .i64 0, .int .i64 0], .agg #[.int .i64 0, .int .i64 0, .int .i64 0, .int .i64 0, .int .i64 0, .int .i64 0]] 8 (World.laidAll_os _ _ _)
      (World.shaped_of_ZipB (by kernel_rfl) (by kernel_rfl)) (by kernel_rfl) (by kernel_rfl) (by kernel_rfl)
      (by rw [MakeChecks.laidMetH_plain _ _ _ (by kernel_rfl)]; exact laidMet_laidAll _ (by kernel_rfl) (by kernel_rfl))) ?_
  intro W base args ds gs before hval0 hW _ hS hL _
  have hval : ∀ (j : Nat) t v, Tryd.f7.params[j]? = some t → args[j]? = some v → Value.okWide Tryd.prog W .any base t v := hval0
  have hW' := hW
  obtain ⟨p, q, hA0, hV, rfl, _, _⟩ := hW
  have hA : DataW.TrodAll enc Tryd.prog W 0 (fun _ => true) true Tryd.f7.params.toList args.toList ds p := hA0
  have hA1 := hA
  obtain ⟨rfl, rfl⟩ := trodVars_none hV
  simp only [List.append_nil] at hW'
  have hlt : ∀ x ∈ p, x.block < W.heap.size := fun x hx => by simpa using hW'.lt x hx
  rw [Tryd.params7] at hA hval
  obtain ⟨v0, vs0, d0, ds0, p0, q0, hargs, rfl, rfl, h0, r0⟩ := trodAll_cons hA
  obtain ⟨v1, vs1, d1, ds1, p1, q1, rfl, rfl, rfl, h1, r1⟩ := trodAll_cons r0
  obtain ⟨rfl, rfl, rfl⟩ := trodAll_nil r1
  obtain rfl : args = #[v0, v1] := by cases args; simp_all
  have hS1 : (DataW.weightsEach Tryd.prog Tryd.f7.params.toList [d0, d1]).all (· ≤ reachBytes) = true := hS
  rw [Tryd.params7] at hS1
  obtain ⟨s0, hS1⟩ := sized_cons hS1
  obtain ⟨x0, ok0, R0⟩ := arg_arr (e := eA6 (eI .i64)) 20 (by kernel_rfl) Tryd.underlying31 (dA6 Tryd.underlying31 (dI Tryd.underlying3)) (hval 0 31 v0 rfl rfl) h0 s0
  obtain ⟨s1, hS1⟩ := sized_cons hS1
  obtain ⟨x1, ok1, R1⟩ := arg_arr (e := eA6 (eI .i64)) 20 (by kernel_rfl) Tryd.underlying31 (dA6 Tryd.underlying31 (dI Tryd.underlying3)) (hval 1 31 v1 rfl rfl) h1 s1
  refine (PCall.law (law08_ManaPools_ok (law_ManaPools _ _)) (inv_of_laid hL) (args := _) (by simp only [RelVs]; exact ⟨_, _, rfl, R0, ⟨_, _, rfl, R1, rfl⟩⟩)).mono fun e W' ⟨he, hb⟩ => ?_
  subst he
  have hB := trodAll_below laidOut hb manaPools_rd hA1 hlt
  exact ⟨_, rfl, _, _, _, [], _, [], hW', trodAll_mk1 (shut_bool Tryd.underlying4 _), hB, rfl, hb.frame _, fun h => by cases h⟩
theorem manaPools_holds : Rows.ManaPoolsSaid :=
  OpenClaim.holds_of_wide 7 Tryd.f7 rfl rfl rfl rfl rfl rfl rfl ⟨rfl, rfl, rfl, rfl, rfl⟩ rfl rfl rfl rfl rfl (by kernel_rfl) Tryd.func7 manaPools_joined
    (of_decide_eq_true (by kernel_rfl)) (by unfold Func.isWrapper; first | (rw [if_pos (by decide +kernel)]; kernel_rfl) | (rw [if_neg (by decide +kernel)]; exact ⟨rfl, rfl⟩))
    (fun os started H enc _ => manaPools_lifted os started H enc)
theorem manaPools_card : Rows.ManaPoolsCardSaid :=
  Claim7.holds_tied_plain_at .later [] _ _ _ _ manaPools_holds (fun _ h => by cases h) (by kernel_rfl) (fun _ h => by cases h) manaPools_row_tie rfl ⟨rfl, rfl⟩ (by kernel_rfl) rfl
    (fun f fn hf hfn => by
      obtain rfl : f = 7 := Option.some.inj ((show Tryd.prog.funcNamed "cardgame/cardgamelaw08.ManaPools" = some 7 by kernel_rfl).symm.trans hf) |>.symm
      obtain rfl : fn = Tryd.f7 := (Option.some.inj (Tryd.func7.symm.trans hfn)).symm
      exact ⟨by kernel_rfl, fun j t ht => by
        rw [Tryd.params7] at ht
        have hm : t ∈ [31, 31] := by simpa using Array.mem_of_getElem? ht
        have hall : ([31, 31].all fun u => !Tryd.prog.wantsStandIn u) = true := by kernel_rfl
        exact (show Tryd.prog.wantsStandIn t = false by simpa using List.all_eq_true.1 hall t hm)⟩)
    (by kernel_rfl)
end Go.Proofs.YtieikooalmfmfaaDoor
