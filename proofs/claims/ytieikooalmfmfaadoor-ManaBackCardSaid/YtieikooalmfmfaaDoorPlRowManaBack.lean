/- The row and the card of ManaBack. -/
import Derived.Test.YtieikooalmfmfaaDoorPlMaR
import Derived.Test.YtieikooalmfmfaaDoorPlMaD
import Derived.Test.YtieikooalmfmfaaDoorPlRtoPlPd
import Derived.Test.YtieikooalmfmfaaDoorPlRtoPlPd
import Derived.Test.YtieikooalmfmfaaDoorTie
import Derived.Test.YtieikooalmfmfaaDoorCards
namespace Go.Proofs.YtieikooalmfmfaaDoor
open Go.ChangeShapes Go.WideShapes Go.ChangeAt Go.RowKit Go.PL Go.ChangeMaps
set_option linter.all false
theorem own : ownKnob Tryd.prog.godebug = none := by kernel_rfl
theorem laidOut : laidOutB Tryd.prog = true := by kernel_rfl
theorem gPow : Tryd.prog.globalNamed "internal/strconv.uint64pow10" = some 3 := by kernel_rfl
theorem tPow : (Tryd.prog.globals[3]?).map (·.type) = some 144 := by kernel_rfl
theorem cPow : Tryd.prog.cellsOf 144 = 20 := by kernel_rfl
theorem cPe : Tryd.prog.cellsOf 102 = 1 := by kernel_rfl
theorem gSyntax : Tryd.prog.globalNamed "strconv.ErrSyntax" = some 1 := by kernel_rfl
theorem gRange : Tryd.prog.globalNamed "strconv.ErrRange" = some 2 := by kernel_rfl
theorem tSyntax : (Tryd.prog.globals[1]?).map (·.type) = some 91 := by kernel_rfl
theorem tRange : (Tryd.prog.globals[2]?).map (·.type) = some 91 := by kernel_rfl
theorem inv_of_laid {W : World} (h : laidMetH Tryd.prog Rows.manaBackRow.laid W) : I0 W := by
  rw [MakeChecks.laidMetH_plain _ _ _ (by kernel_rfl)] at h
  have hp := h.filter (fun x => x.1 == "internal/strconv.uint64pow10")
  have hs := h.filter (fun x => x.1 == "strconv.ErrSyntax")
  have hr := h.filter (fun x => x.1 == "strconv.ErrRange")
  exact ⟨Lib.tabIs_of_head (rest := []) gPow tPow Tryd.underlying144 Tryd.underlying102 cPe cPow hp, var_iface (rest := []) gSyntax tSyntax Tryd.underlying91 hs, var_iface (rest := []) gRange tRange Tryd.underlying91 hr⟩
theorem manaBack_q0 : (Rows.manaBackRow.wf (OpenSpec.ofChange Rows.manaBackSpec)) = true := by kernel_rfl
theorem manaBack_q1 : (laidOutB Tryd.prog) = true := by kernel_rfl
theorem manaBack_q2 : (mapsRowed Tryd.prog) = true := by kernel_rfl
theorem manaBack_q3 : (Tryd.f9.params.all (Tryd.prog.readableRec ·)) = true := by kernel_rfl
theorem manaBack_q4 : (namedTie Tryd.prog Rows.manaBackRow.named Rows.manaBackSpec.vars) = true := by kernel_rfl
theorem manaBack_q5 : ((Rows.manaBackRow.stops == [])) = true := by kernel_rfl
theorem manaBack_q6 : ((Tryd.prog.stops == [])) = true := by kernel_rfl
theorem manaBack_q7 : ((Rows.manaBackRow.knobs == [])) = true := by kernel_rfl
theorem manaBack_q8 : ((Tryd.prog.stopKnobs == [])) = true := by kernel_rfl
theorem manaBack_q9 : ((Rows.manaBackRow.inPlace == Tryd.prog.inPlace 9)) = true := by kernel_rfl
theorem manaBack_q10 : ((Rows.manaBackRow.unfollowed == Tryd.prog.unfollowed 9)) = true := by kernel_rfl
theorem manaBack_q11 : ((Rows.manaBackRow.recurses == Tryd.prog.recurses 9)) = true := by kernel_rfl
theorem manaBack_q12 : ((Rows.manaBackRow.named == Tryd.prog.varsNamed 9)) = true := by kernel_rfl
theorem manaBack_q13 : ((Rows.manaBackRow.maps == (Tryd.f9.params.toList ++ Rows.manaBackSpec.plain.varTypes Tryd.prog).any (Tryd.prog.mapsRec ·))) = true := by kernel_rfl
theorem manaBack_q14 : ((Rows.manaBackRow.ifaces == (Tryd.f9.params.toList ++ Rows.manaBackSpec.plain.varTypes Tryd.prog).any (Tryd.prog.ifacesRec ·))) = true := by kernel_rfl
theorem manaBack_q15 : ((Rows.manaBackRow.mapsOut == Tryd.prog.mapsAmong Tryd.f9.resultTypes.toList)) = true := by kernel_rfl
theorem manaBack_q16 : ((Rows.manaBackRow.loops == (Tryd.f9.params.toList ++ Rows.manaBackSpec.plain.varTypes Tryd.prog).any (Tryd.prog.loopsFrom ·))) = true := by kernel_rfl
theorem manaBack_q17 : ((Rows.manaBackRow.wideKeys == (Tryd.f9.params.toList ++ Rows.manaBackSpec.plain.varTypes Tryd.prog ++ Tryd.f9.resultTypes.toList).any (Tryd.prog.wideKeysFrom ·))) = true := by kernel_rfl
theorem manaBack_q18 : (Rows.manaBackSpec.vars.all (Tryd.prog.varReadable ·)) = true := by kernel_rfl
theorem manaBack_q19 : (Tryd.f9.resultTypes.all (fun t => Tryd.prog.readableRec t && decide (t < Tryd.prog.types.size))) = true := by kernel_rfl
theorem manaBack_q20 : ((Rows.manaBackRow.ifacesOut == Tryd.f9.resultTypes.toList.any (Tryd.prog.ifacesRec ·))) = true := by kernel_rfl
theorem manaBack_q21 : ((Rows.manaBackRow.loopsOut == Tryd.f9.resultTypes.toList.any (Tryd.prog.loopsFrom ·))) = true := by kernel_rfl
theorem manaBack_q22 : ((Rows.manaBackRow.plainKeys == Tryd.prog.plainKeys)) = true := by kernel_rfl
theorem manaBack_q23 : (Rows.manaBackRow.shortTexts.isNone) = true := by kernel_rfl
theorem manaBack_q24 : (Tryd.prog.stopsHeard) = true := by kernel_rfl
theorem manaBack_q25 : (Tryd.prog.mayEnter) = true := by kernel_rfl
theorem manaBack_q26 : ((Rows.manaBackRow.lifted == Tryd.prog.liftsFinal)) = true := by kernel_rfl
theorem manaBack_q27 : ((Tryd.prog.make == some Rows.manaBackRow.make)) = true := by kernel_rfl
theorem manaBack_q28 : (Rows.manaBackRow.domain.isEmpty && (Rows.manaBackRow.kinds == [])) = true := by kernel_rfl
theorem manaBack_q29 : ((Rows.manaBackRow.pinned == Rows.manaBackRow.pinnedBy)) = true := by kernel_rfl
theorem manaBack_q30 : ((Rows.manaBackRow.veiled == (Tryd.f9.params.toList ++ Rows.manaBackSpec.plain.varTypes Tryd.prog ++ Tryd.f9.resultTypes.toList).any (Tryd.prog.veiledRec ·))) = true := by kernel_rfl
theorem manaBack_q31 : (Rows.manaBackRow.veiledFits Tryd.prog Tryd.f9.params.toList (Tryd.f9.params.toList ++ Rows.manaBackSpec.plain.varTypes Tryd.prog ++ Tryd.f9.resultTypes.toList)) = true := by kernel_rfl
theorem manaBack_joined : joinedFacts Tryd.prog 9 Tryd.f9 Rows.manaBackSpec Rows.manaBackRow = true := joined_of manaBack_q0 manaBack_q1 manaBack_q2 manaBack_q3 manaBack_q4 manaBack_q5 manaBack_q6 manaBack_q7 manaBack_q8 manaBack_q9 manaBack_q10 manaBack_q11 manaBack_q12 manaBack_q13 manaBack_q14 manaBack_q15 manaBack_q16 manaBack_q17 manaBack_q18 manaBack_q19 manaBack_q20 manaBack_q21 manaBack_q22 manaBack_q23 manaBack_q24 manaBack_q25 manaBack_q26 manaBack_q27 manaBack_q28 manaBack_q29 manaBack_q30 manaBack_q31

theorem manaBack_rd : (Tryd.f9.params.toList.all fun t => Tryd.prog.readableRec t && decide (t < Tryd.prog.types.size)) = true := by kernel_rfl
set_option maxRecDepth 100000 in
theorem manaBack_lifted (os : Os) (started : os.Started) (H : Type) (enc : TypeId × Value → H) :
    ReturnsInHanded {} Tryd.checked os 9 .any (fun w args => (Rows.manaBackSpec.pre enc Tryd.prog Tryd.f9 [] false w args ∧ laidMetH Tryd.prog Rows.manaBackRow.laid w) ∧ sizedMet enc Tryd.prog Tryd.f9 (OpenSpec.ofChange Rows.manaBackSpec) false w args)
      (Rows.manaBackSpec.post enc Tryd.prog Tryd.f9 false true false false) := by
  refine returnsInHanded_of_change_and (C := Tryd.checked) (X := fun w _ => laidMetH Tryd.prog Rows.manaBackRow.laid w) (fun _ _ _ hh h => h.of_heap hh) own started (by kernel_rfl) Tryd.func9
    (ChangeSpec.witness_shaped (enc := enc) (C := Tryd.checked) (os := os) (X := fun w _ => laidMetH Tryd.prog Rows.manaBackRow.laid w) false (World.laidAll Tryd.prog os Rows.manaBackRow.laid) #[.agg #[.int .i64 0, .int .i64 0, .int .i64 0, .int .i64 0, .int .i64 0, .int .i64 0, .int .i64 0], .agg #[.int .i64 0, .int .i64 0, .int .i64 0, .int .i64 0, .int .i64 0, .int .i64 0]] 8 (World.laidAll_os _ _ _)
      (World.shaped_of_ZipB (by kernel_rfl) (by kernel_rfl)) (by kernel_rfl) (by kernel_rfl) (by kernel_rfl)
      (by rw [MakeChecks.laidMetH_plain _ _ _ (by kernel_rfl)]; exact laidMet_laidAll _ (by kernel_rfl) (by kernel_rfl))) ?_
  intro W base args ds gs before hval0 hW _ hS hL _
  have hval : ∀ (j : Nat) t v, Tryd.f9.params[j]? = some t → args[j]? = some v → Value.okWide Tryd.prog W .any base t v := hval0
  have hW' := hW
  obtain ⟨p, q, hA0, hV, rfl, _, _⟩ := hW
  have hA : DataW.TrodAll enc Tryd.prog W 0 (fun _ => true) true Tryd.f9.params.toList args.toList ds p := hA0
  have hA1 := hA
  obtain ⟨rfl, rfl⟩ := trodVars_none hV
  simp only [List.append_nil] at hW'
  have hlt : ∀ x ∈ p, x.block < W.heap.size := fun x hx => by simpa using hW'.lt x hx
  rw [Tryd.params9] at hA hval
  obtain ⟨v0, vs0, d0, ds0, p0, q0, hargs, rfl, rfl, h0, r0⟩ := trodAll_cons hA
  obtain ⟨v1, vs1, d1, ds1, p1, q1, rfl, rfl, rfl, h1, r1⟩ := trodAll_cons r0
  obtain ⟨rfl, rfl, rfl⟩ := trodAll_nil r1
  obtain rfl : args = #[v0, v1] := by cases args; simp_all
  have hS1 : (DataW.weightsEach Tryd.prog Tryd.f9.params.toList [d0, d1]).all (· ≤ reachBytes) = true := hS
  rw [Tryd.params9] at hS1
  obtain ⟨s0, hS1⟩ := sized_cons hS1
  obtain ⟨x0, ok0, R0⟩ := arg_agg (e := encSCost) 20 (by kernel_rfl) Tryd.underlying34 decSCost (hval 0 34 v0 rfl rfl) h0 s0
  obtain ⟨s1, hS1⟩ := sized_cons hS1
  obtain ⟨x1, ok1, R1⟩ := arg_arr (e := eA6 (eI .i64)) 20 (by kernel_rfl) Tryd.underlying31 (dA6 Tryd.underlying31 (dI Tryd.underlying3)) (hval 1 31 v1 rfl rfl) h1 s1
  refine (PCall.law (law08_ManaBack_ok (law_ManaBack _ _)) (inv_of_laid hL) (args := _) (by simp only [RelVs]; exact ⟨_, _, rfl, R0, ⟨_, _, rfl, R1, rfl⟩⟩)).mono fun e W' ⟨he, hb⟩ => ?_
  subst he
  have hB := trodAll_below laidOut hb manaBack_rd hA1 hlt
  exact ⟨_, rfl, _, _, _, [], _, [], hW', trodAll_mk1 (shut_bool Tryd.underlying4 _), hB, rfl, hb.frame _, fun h => by cases h⟩
theorem manaBack_holds : Rows.ManaBackSaid :=
  OpenClaim.holds_of_wide 9 Tryd.f9 rfl rfl rfl rfl rfl rfl rfl ⟨rfl, rfl, rfl, rfl, rfl⟩ rfl rfl rfl rfl rfl (by kernel_rfl) Tryd.func9 manaBack_joined
    (of_decide_eq_true (by kernel_rfl)) (by unfold Func.isWrapper; first | (rw [if_pos (by decide +kernel)]; kernel_rfl) | (rw [if_neg (by decide +kernel)]; exact ⟨rfl, rfl⟩))
    (fun os started H enc _ => manaBack_lifted os started H enc)
theorem manaBack_card : Rows.ManaBackCardSaid :=
  Claim7.holds_tied_plain_at .later [] _ _ _ _ manaBack_holds (fun _ h => by cases h) (by kernel_rfl) (fun _ h => by cases h) manaBack_row_tie rfl ⟨rfl, rfl⟩ (by kernel_rfl) rfl
    (fun f fn hf hfn => by
      obtain rfl : f = 9 := Option.some.inj ((show Tryd.prog.funcNamed "cardgame/cardgamelaw08.ManaBack" = some 9 by kernel_rfl).symm.trans hf) |>.symm
      obtain rfl : fn = Tryd.f9 := (Option.some.inj (Tryd.func9.symm.trans hfn)).symm
      exact ⟨by kernel_rfl, fun j t ht => by
        rw [Tryd.params9] at ht
        have hm : t ∈ [34, 31] := by simpa using Array.mem_of_getElem? ht
        have hall : ([34, 31].all fun u => !Tryd.prog.wantsStandIn u) = true := by kernel_rfl
        exact (show Tryd.prog.wantsStandIn t = false by simpa using List.all_eq_true.1 hall t hm)⟩)
    (by kernel_rfl)
end Go.Proofs.YtieikooalmfmfaaDoor
