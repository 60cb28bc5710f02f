/- The row and the card of CastSpecs. -/
import Derived.Test.YthppcliidflkjaaGreatDoorPlCsM
import Derived.Test.YthppcliidflkjaaGreatDoorPlCsD
import Derived.Test.YthppcliidflkjaaGreatDoorKrtoPlPx
import Derived.Test.YthppcliidflkjaaGreatDoorKrtoPlPx
import Derived.Test.YthppcliidflkjaaGreatDoorKrtoPlPx
import Derived.Test.YthppcliidflkjaaGreatDoorTie
import Derived.Test.YthppcliidflkjaaGreatDoorCards
namespace Go.Proofs.YthppcliidflkjaaGreatDoor
open Go.ChangeShapes Go.WideShapes Go.ChangeAt Go.RowKit Go.PL Go.ChangeMaps
set_option linter.all false
theorem own:ownKnob Tryz.prog.godebug=none:=by kernel_rfl
theorem jd:laidOutB Tryz.prog=true:=by kernel_rfl
theorem pP:Tryz.prog.globalNamed "internal/strconv.uint64pow10" =some 3:=by kernel_rfl
theorem pQ:(Tryz.prog.globals[3]?).map (·.type)=some 431:=by kernel_rfl
theorem pR:Tryz.prog.cellsOf 431=20:=by kernel_rfl
theorem ql:Tryz.prog.cellsOf 51=1:=by kernel_rfl
theorem nU:Tryz.prog.globalNamed "cardgame/counter.names" =some 0:=by kernel_rfl
theorem nV:(Tryz.prog.globals[0]?).map (·.type)=some 333:=by kernel_rfl
theorem nW:Tryz.prog.cellsOf 333=3:=by kernel_rfl
theorem nX:Tryz.prog.cellsOf 9=1:=by kernel_rfl
theorem nY:Tryz.prog.globalNamed "cardgame/color.names" =some 1:=by kernel_rfl
theorem nZ:(Tryz.prog.globals[1]?).map (·.type)=some 372:=by kernel_rfl
theorem n7:Tryz.prog.cellsOf 372=5:=by kernel_rfl
theorem n8:Tryz.prog.cellsOf 9=1:=by kernel_rfl
theorem W8 {W:World} (h:laidMetH Tryz.prog Rows.castSpecsRow.laid W) (hsh:W.ShapedOpen Tryz.prog):I0 W:=by
 rw [MakeChecks.laidMetH_plain _ _ _ (by kernel_rfl)]at h
 have hp:=h.filter (fun x=>x.1== "internal/strconv.uint64pow10")
 have h0:=h.filter (fun x=>x.1== "cardgame/counter.names")
 have h1:=h.filter (fun x=>x.1== "cardgame/color.names")
 exact⟨Lib.tabIs_of_head (rest:=[]) pP pQ Tryz.underlying431 Tryz.underlying51 ql pR hp,hsh,Lt (ss:=Qv) (rest:=[]) nU nV Tryz.underlying333 Tryz.underlying9 nX nW h0,Lt (ss:=WX) (rest:=[]) nY nZ Tryz.underlying372 Tryz.underlying9 n8 n7 h1⟩
theorem UM:(Rows.castSpecsRow.wf (OpenSpec.ofChange Rows.castSpecsSpec))=true:=by kernel_rfl
theorem UN:(laidOutB Tryz.prog)=true:=by kernel_rfl
theorem UO:(mapsRowed Tryz.prog)=true:=by kernel_rfl
theorem UP:(Tryz.f3.params.all (Tryz.prog.readableRec ·))=true:=by kernel_rfl
theorem UQ:(namedTie Tryz.prog Rows.castSpecsRow.named Rows.castSpecsSpec.vars)=true:=by kernel_rfl
theorem UR:((Rows.castSpecsRow.stops==[]))=true:=by kernel_rfl
theorem US:((Tryz.prog.stops==[]))=true:=by kernel_rfl
theorem UT:((Rows.castSpecsRow.knobs==[]))=true:=by kernel_rfl
theorem UU:((Tryz.prog.stopKnobs==[]))=true:=by kernel_rfl
theorem UV:((Rows.castSpecsRow.inPlace==Tryz.prog.inPlace 3))=true:=by kernel_rfl
theorem Q2:((Rows.castSpecsRow.unfollowed==Tryz.prog.unfollowed 3))=true:=by kernel_rfl
theorem Q3:((Rows.castSpecsRow.recurses==Tryz.prog.recurses 3))=true:=by kernel_rfl
theorem Q4:((Rows.castSpecsRow.named==Tryz.prog.varsNamed 3))=true:=by kernel_rfl
theorem Q5:((Rows.castSpecsRow.maps==(Tryz.f3.params.toList++Rows.castSpecsSpec.plain.varTypes Tryz.prog).any (Tryz.prog.mapsRec ·)))=true:=by kernel_rfl
theorem Q6:((Rows.castSpecsRow.ifaces==(Tryz.f3.params.toList++Rows.castSpecsSpec.plain.varTypes Tryz.prog).any (Tryz.prog.ifacesRec ·)))=true:=by kernel_rfl
theorem Q7:((Rows.castSpecsRow.mapsOut==Tryz.prog.mapsAmong Tryz.f3.resultTypes.toList))=true:=by kernel_rfl
theorem Q8:((Rows.castSpecsRow.loops==(Tryz.f3.params.toList++Rows.castSpecsSpec.plain.varTypes Tryz.prog).any (Tryz.prog.loopsFrom ·)))=true:=by kernel_rfl
theorem Q9:((Rows.castSpecsRow.wideKeys==(Tryz.f3.params.toList++Rows.castSpecsSpec.plain.varTypes Tryz.prog++Tryz.f3.resultTypes.toList).any (Tryz.prog.wideKeysFrom ·)))=true:=by kernel_rfl
theorem Ra:(Rows.castSpecsSpec.vars.all (Tryz.prog.varReadable ·))=true:=by kernel_rfl
theorem Rb:(Tryz.f3.resultTypes.all (fun t=>Tryz.prog.readableRec t&&decide (t<Tryz.prog.types.size)))=true:=by kernel_rfl
theorem Rc:((Rows.castSpecsRow.ifacesOut==Tryz.f3.resultTypes.toList.any (Tryz.prog.ifacesRec ·)))=true:=by kernel_rfl
theorem Rf:((Rows.castSpecsRow.loopsOut==Tryz.f3.resultTypes.toList.any (Tryz.prog.loopsFrom ·)))=true:=by kernel_rfl
theorem Rh:((Rows.castSpecsRow.plainKeys==Tryz.prog.plainKeys))=true:=by kernel_rfl
theorem Ri:(Rows.castSpecsRow.shortTexts.isNone)=true:=by kernel_rfl
theorem Rj:(Tryz.prog.stopsHeard)=true:=by kernel_rfl
theorem Rk:(Tryz.prog.mayEnter)=true:=by kernel_rfl
theorem Rl:((Rows.castSpecsRow.lifted==Tryz.prog.liftsFinal))=true:=by kernel_rfl
theorem Rm:((Tryz.prog.make==some Rows.castSpecsRow.make))=true:=by kernel_rfl
theorem Rn:(Rows.castSpecsRow.domain.isEmpty&&(Rows.castSpecsRow.kinds==[]))=true:=by kernel_rfl
theorem Ro:((Rows.castSpecsRow.pinned==Rows.castSpecsRow.pinnedBy))=true:=by kernel_rfl
theorem Rr:((Rows.castSpecsRow.veiled==(Tryz.f3.params.toList++Rows.castSpecsSpec.plain.varTypes Tryz.prog++Tryz.f3.resultTypes.toList).any (Tryz.prog.veiledRec ·)))=true:=by kernel_rfl
theorem Rs:(Rows.castSpecsRow.veiledFits Tryz.prog Tryz.f3.params.toList (Tryz.f3.params.toList++Rows.castSpecsSpec.plain.varTypes Tryz.prog++Tryz.f3.resultTypes.toList))=true:=by kernel_rfl
theorem MC:joinedFacts Tryz.prog 3 Tryz.f3 Rows.castSpecsSpec Rows.castSpecsRow=true:=bR UM UN UO UP UQ UR US UT UU UV Q2 Q3 Q4 Q5 Q6 Q7 Q8 Q9 Ra Rb Rc Rf Rh Ri Rj Rk Rl Rm Rn Ro Rr Rs
theorem UW:(Tryz.f3.params.toList.all fun t=>Tryz.prog.readableRec t&&decide (t<Tryz.prog.types.size))=true:=by kernel_rfl
set_option maxRecDepth 100000 in
theorem MD (os:Os) (started:os.Started) (H:Type) (enc:TypeId×Value→H):
 ReturnsInHanded {} Tryz.checked os 3 .any (fun w args=>(Rows.castSpecsSpec.pre enc Tryz.prog Tryz.f3 [] false w args∧laidMetH Tryz.prog Rows.castSpecsRow.laid w)∧sizedMet enc Tryz.prog Tryz.f3 (OpenSpec.ofChange Rows.castSpecsSpec) false w args)
  (Rows.castSpecsSpec.post enc Tryz.prog Tryz.f3 false true false false):=by
 refine i5 (C:=Tryz.checked) (X:=fun w _=>laidMetH Tryz.prog Rows.castSpecsRow.laid w) (fun _ _ _ hh h=>h.of_heap hh) own started (by kernel_rfl) Tryz.func3
  (ChangeSpec.witness_shaped (enc:=enc) (C:=Tryz.checked) (os:=os) (X:=fun w _=>laidMetH Tryz.prog Rows.castSpecsRow.laid w) false (World.laidAll Tryz.prog os Rows.castSpecsRow.laid) #[.agg #[.string ⟨#[]⟩, .bool false, .int .i64 0, .int .i64 0, .int .i64 0, .int .i64 0, .int .i64 0, .int .i64 0, .int .i64 0, .int .i64 0, .int .i64 0, .int .i64 0, .slice none 0 0, .int .i64 0, .int .i64 0, .int .i64 0, .slice none 0 0]] 8 (World.laidAll_os _ _ _)
   (World.shaped_of_ZipB (by kernel_rfl) (by kernel_rfl)) (by kernel_rfl) (by kernel_rfl) (by kernel_rfl)
   (by rw [MakeChecks.laidMetH_plain _ _ _ (by kernel_rfl)];exact laidMet_laidAll _ (by kernel_rfl) (by kernel_rfl))) ?_
 intro W base args ds gs before hval0 hW _ hS hL hsh _
 have hval: ∀ (j:Nat) t v,Tryz.f3.params[j]? =some t→args[j]? =some v→Value.okWide Tryz.prog W .any base t v:=hval0
 have hW':=hW
 obtain⟨p,q,hA0,hV,rfl,_,_⟩:=hW
 have hA:DataW.TrodAll enc Tryz.prog W 0 (fun _=>true) true Tryz.f3.params.toList args.toList ds p:=hA0
 have hA1:=hA
 obtain⟨rfl,rfl⟩:=trodVars_none hV
 simp only [List.append_nil]at hW'
 have hlt: ∀ x∈p,x.block<W.heap.size:=fun x hx=>by simpa using hW'.lt x hx
 rw [Tryz.params3]at hA hval
 obtain⟨v0,vs0,d0,ds0,p0,q0,hargs,rfl,rfl,h0,r0⟩:=trodAll_cons hA
 obtain⟨rfl,rfl,rfl⟩:=trodAll_nil r0
 obtain rfl:args= #[v0]:=by cases args;simp_all
 have hS1:(DataW.weightsEach Tryz.prog Tryz.f3.params.toList [d0]).all (· ≤reachBytes)=true:=hS
 rw [Tryz.params3]at hS1
 obtain⟨s0,hS1⟩:=Yt hS1
 obtain⟨x0,ok0,R0⟩:=i4 (e:=D8) 20 (by kernel_rfl) Tryz.underlying30 fK (hval 0 30 v0 rfl rfl) h0 s0
 refine(Bp.law (J3 (Q1 (fL ok0))) (W8 hL hsh) (args:=_) (by simp only [An];exact⟨_,_,rfl,R0,rfl⟩)).mono fun e W' ⟨he,hb⟩=>?_
 subst he
 have hB:=Je jd hb UW hA1 hlt
 exact⟨_,rfl,_,_,_,[],_,[],hW',trodAll_mk1 (shut_bool Tryz.underlying4 _),hB,rfl,hb.frame _,fun h=>by cases h⟩
theorem NM:Rows.CastSpecsSaid:=
 OpenClaim.holds_of_wide 3 Tryz.f3 rfl rfl rfl rfl rfl rfl rfl ⟨rfl,rfl,rfl,rfl,rfl⟩ rfl rfl rfl rfl rfl (by kernel_rfl) Tryz.func3 MC
  (of_decide_eq_true (by kernel_rfl)) (by unfold Func.isWrapper;first | (rw [if_pos (by decide+kernel)];kernel_rfl) | (rw [if_neg (by decide+kernel)];exact⟨rfl,rfl⟩))
  (fun os started H enc _=>MD os started H enc)
theorem UX:Rows.castSpecsRow.wfByText (OpenSpec.ofChange Rows.castSpecsSpec)=true:=by kernel_rfl
theorem UY:Tryz.prog.mainIs=some (Rows.castSpecsCard.stood.harness.1,Rows.castSpecsCard.stood.harness.2.toList):=by kernel_rfl
theorem UZ:Tryz.prog.funcNamed "cardgame/cardgamelaw43.CastSpecs" =some 3:=by kernel_rfl
theorem U0:false=Tryz.prog.looks []:=by kernel_rfl
theorem U1:false=Rows.castSpecsRow.goesBy Tryz.prog:=bT (by kernel_rfl)
theorem castSpecs_card:Rows.CastSpecsCardSaid:=
 Claim7.holds_tied_plain_at .later [] _ _ _ _ NM (fun _ h=>by cases h) UX (fun _ h=>by cases h) castSpecs_row_tie rfl ⟨rfl,rfl⟩ UY rfl
  (fun f fn hf hfn=>by
   obtain rfl:f=3:=Option.some.inj (UZ.symm.trans hf) |>.symm
   obtain rfl:fn=Tryz.f3:=(Option.some.inj (Tryz.func3.symm.trans hfn)).symm
   exact⟨U0,fun j t ht=>by
    rw [Tryz.params3]at ht
    have hm:t∈[30]:=by simpa using Array.mem_of_getElem? ht
    have hall:([30].all fun u=> !Tryz.prog.wantsStandIn u)=true:=by kernel_rfl
    exact(show Tryz.prog.wantsStandIn t=false by simpa using List.all_eq_true.1 hall t hm)⟩)
  U1
end Go.Proofs.YthppcliidflkjaaGreatDoor
