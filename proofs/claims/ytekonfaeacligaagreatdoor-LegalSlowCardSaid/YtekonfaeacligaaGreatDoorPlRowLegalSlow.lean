/- The row and the card of LegalSlow. -/
import Derived.Test.YtekonfaeacligaaGreatDoorPlLsM
import Derived.Test.YtekonfaeacligaaGreatDoorPlLsD
import Derived.Test.YtekonfaeacligaaGreatDoorPlRtoPlPg
import Derived.Test.YtekonfaeacligaaGreatDoorKqtoPlPx
import Derived.Test.YtekonfaeacligaaGreatDoorKqtoPlPx
import Derived.Test.YtekonfaeacligaaGreatDoorTie
import Derived.Test.YtekonfaeacligaaGreatDoorCards
namespace Go.Proofs.YtekonfaeacligaaGreatDoor
open Go.ChangeShapes Go.WideShapes Go.ChangeAt Go.RowKit Go.PL Go.ChangeMaps
set_option linter.all false
theorem own:ownKnob Tryz.prog.godebug=none:=by kernel_rfl
theorem x9:laidOutB Tryz.prog=true:=by kernel_rfl
theorem Afk:Tryz.prog.globalNamed "internal/strconv.uint64pow10" =some 3:=by kernel_rfl
theorem Afl:(Tryz.prog.globals[3]?).map (·.type)=some 468:=by kernel_rfl
theorem Afm:Tryz.prog.cellsOf 468=20:=by kernel_rfl
theorem cPe:Tryz.prog.cellsOf 29=1:=by kernel_rfl
theorem AdW:Tryz.prog.globalNamed "cardgame/counter.names" =some 0:=by kernel_rfl
theorem AdX:(Tryz.prog.globals[0]?).map (·.type)=some 380:=by kernel_rfl
theorem AdY:Tryz.prog.cellsOf 380=3:=by kernel_rfl
theorem AdZ:Tryz.prog.cellsOf 9=1:=by kernel_rfl
theorem Ad0:Tryz.prog.globalNamed "cardgame/color.names" =some 1:=by kernel_rfl
theorem Ad1:(Tryz.prog.globals[1]?).map (·.type)=some 413:=by kernel_rfl
theorem Ad2:Tryz.prog.cellsOf 413=5:=by kernel_rfl
theorem Ad3:Tryz.prog.cellsOf 9=1:=by kernel_rfl
theorem hC {W:World} (h:laidMetH Tryz.prog Rows.legalSlowRow.laid W) (hsh:W.ShapedOpen Tryz.prog):I0 W:=by rw [MakeChecks.laidMetH_plain _ _ _ (by kernel_rfl)]at h;have hp:=h.filter (fun x=>x.1== "internal/strconv.uint64pow10");have h0:=h.filter (fun x=>x.1== "cardgame/counter.names");have h1:=h.filter (fun x=>x.1== "cardgame/color.names");exact⟨Lib.tabIs_of_head (rest:=[]) Afk Afl Tryz.underlying468 Tryz.underlying29 cPe Afm hp,hsh,OI (ss:=VH) (rest:=[]) AdW AdX Tryz.underlying380 Tryz.underlying9 AdZ AdY h0,OI (ss:=fB) (rest:=[]) Ad0 Ad1 Tryz.underlying413 Tryz.underlying9 Ad3 Ad2 h1⟩
theorem bZ:(Rows.legalSlowRow.wf (OpenSpec.ofChange Rows.legalSlowSpec))=true:=by kernel_rfl
theorem b0:(laidOutB Tryz.prog)=true:=by kernel_rfl
theorem cd:(mapsRowed Tryz.prog)=true:=by kernel_rfl
theorem ce:(Tryz.f3.params.all (Tryz.prog.readableRec ·))=true:=by kernel_rfl
theorem cf:(namedTie Tryz.prog Rows.legalSlowRow.named Rows.legalSlowSpec.vars)=true:=by kernel_rfl
theorem cg:((Rows.legalSlowRow.stops==[]))=true:=by kernel_rfl
theorem ci:((Tryz.prog.stops==[]))=true:=by kernel_rfl
theorem cj:((Rows.legalSlowRow.knobs==[]))=true:=by kernel_rfl
theorem ck:((Tryz.prog.stopKnobs==[]))=true:=by kernel_rfl
theorem cm:((Rows.legalSlowRow.inPlace==Tryz.prog.inPlace 3))=true:=by kernel_rfl
theorem Xe:((Rows.legalSlowRow.unfollowed==Tryz.prog.unfollowed 3))=true:=by kernel_rfl
theorem Xf:((Rows.legalSlowRow.recurses==Tryz.prog.recurses 3))=true:=by kernel_rfl
theorem Xg:((Rows.legalSlowRow.named==Tryz.prog.varsNamed 3))=true:=by kernel_rfl
theorem Xh:((Rows.legalSlowRow.maps==(Tryz.f3.params.toList++Rows.legalSlowSpec.plain.varTypes Tryz.prog).any (Tryz.prog.mapsRec ·)))=true:=by kernel_rfl
theorem Xi:((Rows.legalSlowRow.ifaces==(Tryz.f3.params.toList++Rows.legalSlowSpec.plain.varTypes Tryz.prog).any (Tryz.prog.ifacesRec ·)))=true:=by kernel_rfl
theorem Xj:((Rows.legalSlowRow.mapsOut==Tryz.prog.mapsAmong Tryz.f3.resultTypes.toList))=true:=by kernel_rfl
theorem Xk:((Rows.legalSlowRow.loops==(Tryz.f3.params.toList++Rows.legalSlowSpec.plain.varTypes Tryz.prog).any (Tryz.prog.loopsFrom ·)))=true:=by kernel_rfl
theorem Xl:((Rows.legalSlowRow.wideKeys==(Tryz.f3.params.toList++Rows.legalSlowSpec.plain.varTypes Tryz.prog++Tryz.f3.resultTypes.toList).any (Tryz.prog.wideKeysFrom ·)))=true:=by kernel_rfl
theorem Xm:(Rows.legalSlowSpec.vars.all (Tryz.prog.varReadable ·))=true:=by kernel_rfl
theorem Xn:(Tryz.f3.resultTypes.all (fun t=>Tryz.prog.readableRec t&&decide (t<Tryz.prog.types.size)))=true:=by kernel_rfl
theorem Xo:((Rows.legalSlowRow.ifacesOut==Tryz.f3.resultTypes.toList.any (Tryz.prog.ifacesRec ·)))=true:=by kernel_rfl
theorem Xp:((Rows.legalSlowRow.loopsOut==Tryz.f3.resultTypes.toList.any (Tryz.prog.loopsFrom ·)))=true:=by kernel_rfl
theorem Xq:((Rows.legalSlowRow.plainKeys==Tryz.prog.plainKeys))=true:=by kernel_rfl
theorem Xr:(Rows.legalSlowRow.shortTexts.isNone)=true:=by kernel_rfl
theorem Xs:(Tryz.prog.stopsHeard)=true:=by kernel_rfl
theorem Xt:(Tryz.prog.mayEnter)=true:=by kernel_rfl
theorem Xu:((Rows.legalSlowRow.lifted==Tryz.prog.liftsFinal))=true:=by kernel_rfl
theorem Xv:((Tryz.prog.make==some Rows.legalSlowRow.make))=true:=by kernel_rfl
theorem Xw:(Rows.legalSlowRow.domain.isEmpty&&(Rows.legalSlowRow.kinds==[]))=true:=by kernel_rfl
theorem Xx:((Rows.legalSlowRow.pinned==Rows.legalSlowRow.pinnedBy))=true:=by kernel_rfl
theorem Xy:((Rows.legalSlowRow.veiled==(Tryz.f3.params.toList++Rows.legalSlowSpec.plain.varTypes Tryz.prog++Tryz.f3.resultTypes.toList).any (Tryz.prog.veiledRec ·)))=true:=by kernel_rfl
theorem Xz:(Rows.legalSlowRow.veiledFits Tryz.prog Tryz.f3.params.toList (Tryz.f3.params.toList++Rows.legalSlowSpec.plain.varTypes Tryz.prog++Tryz.f3.resultTypes.toList))=true:=by kernel_rfl
theorem QO:joinedFacts Tryz.prog 3 Tryz.f3 Rows.legalSlowSpec Rows.legalSlowRow=true:=pv bZ b0 cd ce cf cg ci cj ck cm Xe Xf Xg Xh Xi Xj Xk Xl Xm Xn Xo Xp Xq Xr Xs Xt Xu Xv Xw Xx Xy Xz
theorem cn:(Tryz.f3.params.toList.all fun t=>Tryz.prog.readableRec t&&decide (t<Tryz.prog.types.size))=true:=by kernel_rfl
set_option maxRecDepth 100000 in
theorem QP (os:Os) (started:os.Started) (H:Type) (enc:TypeId×Value->H):
 ReturnsInHanded {} Tryz.checked os 3 .any (fun w args=>(Rows.legalSlowSpec.pre enc Tryz.prog Tryz.f3 [] false w args/\laidMetH Tryz.prog Rows.legalSlowRow.laid w)/\sizedMet enc Tryz.prog Tryz.f3 (OpenSpec.ofChange Rows.legalSlowSpec) false w args)
  (Rows.legalSlowSpec.post enc Tryz.prog Tryz.f3 false true false false):=by
 refine w9 (C:=Tryz.checked) (X:=fun w _=>laidMetH Tryz.prog Rows.legalSlowRow.laid w) (fun _ _ _ hh h=>h.of_heap hh) own started (by kernel_rfl) Tryz.func3
  (ChangeSpec.witness_shaped (enc:=enc) (C:=Tryz.checked) (os:=os) (X:=fun w _=>laidMetH Tryz.prog Rows.legalSlowRow.laid w) false (World.laidAll Tryz.prog os Rows.legalSlowRow.laid) #[.agg #[.slice none 0 0, .slice none 0 0, .slice none 0 0, .slice none 0 0, .slice none 0 0, .slice none 0 0, .slice none 0 0, .slice none 0 0, .int .i64 0, .int .i64 0, .int .i64 0, .bool false, .int .i64 0, .int .i64 0, .int .i64 0, .int .i64 0, .int .u64 0, .slice none 0 0, .int .i64 0, .int .i64 0, .int .i64 0]] 8 (World.laidAll_os _ _ _)
   (World.shaped_of_ZipB (by kernel_rfl) (by kernel_rfl)) (by kernel_rfl) (by kernel_rfl) (by kernel_rfl)
   (by rw [MakeChecks.laidMetH_plain _ _ _ (by kernel_rfl)];exact laidMet_laidAll _ (by kernel_rfl) (by kernel_rfl))) ?_
 intro W base args ds gs before alo hW _ hS hL hsh _;have aex: ∀ (j:Nat) t v,Tryz.f3.params[j]? =some t->args[j]? =some v->Value.okWide Tryz.prog W .any base t v:=alo;have hW':=hW;obtain⟨p,q,hA0,hV,rfl,_,_⟩:=hW;have hA:DataW.TrodAll enc Tryz.prog W 0 (fun _=>true) true Tryz.f3.params.toList args.toList ds p:=hA0;have hA1:=hA;obtain⟨rfl,rfl⟩:=trodVars_none hV;simp only [List.append_nil]at hW';have Tw: ∀ x∈p,x.block<W.heap.size:=fun x hx=>by simpa using hW'.lt x hx
 rw [Tryz.params3]at hA aex;obtain⟨v0,vs0,d0,ds0,p0,q0,aas,rfl,rfl,h0,r0⟩:=trodAll_cons hA;obtain⟨rfl,rfl,rfl⟩:=trodAll_nil r0;obtain rfl:args= #[v0]:=by cases args;simp_all
 have hS1:(DataW.weightsEach Tryz.prog Tryz.f3.params.toList [d0]).all (· <=reachBytes)=true:=hS;rw [Tryz.params3]at hS1;obtain⟨s0,hS1⟩:=iN hS1;obtain⟨x0,ok0,R0⟩:=vC (e:=SV) 20 (by kernel_rfl) Tryz.underlying33 x8 (aex 0 33 v0 rfl rfl) h0 s0;refine(Cm.law (NP (Xd (uP ok0).1 (uP ok0).2)) (hC hL hsh) (args:=_) (by simp only [Ao];exact⟨_,_,rfl,R0,rfl⟩)).mono fun e W' ⟨he,hb⟩=>?_;subst he;have hB:=MJ x9 hb cn hA1 Tw;exact⟨_,rfl,_,_,_,[],_,[],hW',trodAll_mk1 (shut_bool Tryz.underlying4 _),hB,rfl,hb.frame _,fun h=>by cases h⟩
theorem Sv:Rows.LegalSlowSaid:=
 OpenClaim.holds_of_wide 3 Tryz.f3 rfl rfl rfl rfl rfl rfl rfl ⟨rfl,rfl,rfl,rfl,rfl⟩ rfl rfl rfl rfl rfl (by kernel_rfl) Tryz.func3 QO
  (of_decide_eq_true (by kernel_rfl)) (by unfold Func.isWrapper;first | (rw [if_pos (by decide+kernel)];kernel_rfl) | (rw [if_neg (by decide+kernel)];exact⟨rfl,rfl⟩))
  (fun os started H enc _=>QP os started H enc)
theorem cq:Rows.legalSlowRow.wfByText (OpenSpec.ofChange Rows.legalSlowSpec)=true:=by kernel_rfl
theorem cr:Tryz.prog.mainIs=some (Rows.legalSlowCard.stood.harness.1,Rows.legalSlowCard.stood.harness.2.toList):=by kernel_rfl
theorem ct:Tryz.prog.funcNamed "cardgame/cardgamelaw44.LegalSlow" =some 3:=by kernel_rfl
theorem cu:false=Tryz.prog.looks []:=by kernel_rfl
theorem cw:false=Rows.legalSlowRow.goesBy Tryz.prog:=pw (by kernel_rfl)
theorem legalSlow_card:Rows.LegalSlowCardSaid:=
 Claim7.holds_tied_plain_at .later [] _ _ _ _ Sv (fun _ h=>by cases h) cq (fun _ h=>by cases h) legalSlow_row_tie rfl ⟨rfl,rfl⟩ cr rfl
  (fun f fn hf hfn=>by
   obtain rfl:f=3:=Option.some.inj (ct.symm.trans hf) |>.symm;obtain rfl:fn=Tryz.f3:=(Option.some.inj (Tryz.func3.symm.trans hfn)).symm;exact⟨cu,fun j t ht=>by
    rw [Tryz.params3]at ht;have hm:t∈[33]:=by simpa using Array.mem_of_getElem? ht
    have abg:([33].all fun u=> !Tryz.prog.wantsStandIn u)=true:=by kernel_rfl
    exact(show Tryz.prog.wantsStandIn t=false by simpa using List.all_eq_true.1 abg t hm)⟩)
  cw
end Go.Proofs.YtekonfaeacligaaGreatDoor
