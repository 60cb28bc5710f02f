/- The row and the card of BeginNews. -/
import Derived.Test.YteginlijmbcopaaGreatDoorPlClb
import Derived.Test.YteginlijmbcopaaGreatDoorPlClc
import Derived.Test.YteginlijmbcopaaGreatDoorPlCn
import Derived.Test.YteginlijmbcopaaGreatDoorPlBdD
import Derived.Test.YteginlijmbcopaaGreatDoorTvtoPlPx
import Derived.Test.YteginlijmbcopaaGreatDoorTvtoPlPx
import Derived.Test.YteginlijmbcopaaGreatDoorTvtoPlPx
import Derived.Test.YteginlijmbcopaaGreatDoorTie
import Derived.Test.YteginlijmbcopaaGreatDoorCards
namespace Go.Proofs.YteginlijmbcopaaGreatDoor
open Go.ChangeShapes Go.WideShapes Go.ChangeAt Go.RowKit Go.PL Go.ChangeMaps
set_option linter.all false
theorem own:ownKnob Tryz.prog.godebug=none:=by kernel_rfl
theorem AdJ:laidOutB Tryz.prog=true:=by kernel_rfl
theorem Aj2:Tryz.prog.globalNamed "internal/strconv.uint64pow10" =some 3:=by kernel_rfl
theorem Aj3:(Tryz.prog.globals[3]?).map (·.type)=some 305:=by kernel_rfl
theorem Aj4:Tryz.prog.cellsOf 305=20:=by kernel_rfl
theorem cPe:Tryz.prog.cellsOf 24=1:=by kernel_rfl
theorem AiB:Tryz.prog.globalNamed "cardgame/counter.names" =some 0:=by kernel_rfl
theorem AiC:(Tryz.prog.globals[0]?).map (·.type)=some 262:=by kernel_rfl
theorem AiD:Tryz.prog.cellsOf 262=3:=by kernel_rfl
theorem AiE:Tryz.prog.cellsOf 9=1:=by kernel_rfl
theorem AiF:Tryz.prog.globalNamed "cardgame/color.names" =some 2:=by kernel_rfl
theorem AiG:(Tryz.prog.globals[2]?).map (·.type)=some 274:=by kernel_rfl
theorem AiH:Tryz.prog.cellsOf 274=5:=by kernel_rfl
theorem AiI:Tryz.prog.cellsOf 9=1:=by kernel_rfl
theorem p8 {W:World} (h:laidMetH Tryz.prog Rows.beginNewsRow.laid W) (hsh:W.ShapedOpen Tryz.prog):I0 W:=by rw [MakeChecks.laidMetH_plain _ _ _ (by kernel_rfl)]at h;have hp:=h.filter (fun x=>x.1== "internal/strconv.uint64pow10");have h0:=h.filter (fun x=>x.1== "cardgame/counter.names");have h1:=h.filter (fun x=>x.1== "cardgame/color.names");exact⟨Lib.tabIs_of_head (rest:=[]) Aj2 Aj3 Tryz.underlying305 Tryz.underlying24 cPe Aj4 hp,hsh,S8 (ss:=HE) (rest:=[]) AiB AiC Tryz.underlying262 Tryz.underlying9 AiE AiD h0,S8 (ss:=EA) (rest:=[]) AiF AiG Tryz.underlying274 Tryz.underlying9 AiI AiH h1⟩
theorem lI:(Rows.beginNewsRow.wf (OpenSpec.ofChange Rows.beginNewsSpec))=true:=by kernel_rfl
theorem lJ:(laidOutB Tryz.prog)=true:=by kernel_rfl
theorem lK:(mapsRowed Tryz.prog)=true:=by kernel_rfl
theorem lL:(Tryz.f3.params.all (Tryz.prog.readableRec ·))=true:=by kernel_rfl
theorem lM:(namedTie Tryz.prog Rows.beginNewsRow.named Rows.beginNewsSpec.vars)=true:=by kernel_rfl
theorem lN:((Rows.beginNewsRow.stops==[]))=true:=by kernel_rfl
theorem lO:((Tryz.prog.stops==[]))=true:=by kernel_rfl
theorem lP:((Rows.beginNewsRow.knobs==[]))=true:=by kernel_rfl
theorem lQ:((Tryz.prog.stopKnobs==[]))=true:=by kernel_rfl
theorem lR:((Rows.beginNewsRow.inPlace==Tryz.prog.inPlace 3))=true:=by kernel_rfl
theorem eP:((Rows.beginNewsRow.unfollowed==Tryz.prog.unfollowed 3))=true:=by kernel_rfl
theorem eQ:((Rows.beginNewsRow.recurses==Tryz.prog.recurses 3))=true:=by kernel_rfl
theorem eR:((Rows.beginNewsRow.named==Tryz.prog.varsNamed 3))=true:=by kernel_rfl
theorem eT:((Rows.beginNewsRow.maps==(Tryz.f3.params.toList++Rows.beginNewsSpec.plain.varTypes Tryz.prog).any (Tryz.prog.mapsRec ·)))=true:=by kernel_rfl
theorem eU:((Rows.beginNewsRow.ifaces==(Tryz.f3.params.toList++Rows.beginNewsSpec.plain.varTypes Tryz.prog).any (Tryz.prog.ifacesRec ·)))=true:=by kernel_rfl
theorem eV:((Rows.beginNewsRow.mapsOut==Tryz.prog.mapsAmong Tryz.f3.resultTypes.toList))=true:=by kernel_rfl
theorem eW:((Rows.beginNewsRow.loops==(Tryz.f3.params.toList++Rows.beginNewsSpec.plain.varTypes Tryz.prog).any (Tryz.prog.loopsFrom ·)))=true:=by kernel_rfl
theorem eX:((Rows.beginNewsRow.wideKeys==(Tryz.f3.params.toList++Rows.beginNewsSpec.plain.varTypes Tryz.prog++Tryz.f3.resultTypes.toList).any (Tryz.prog.wideKeysFrom ·)))=true:=by kernel_rfl
theorem eY:(Rows.beginNewsSpec.vars.all (Tryz.prog.varReadable ·))=true:=by kernel_rfl
theorem eZ:(Tryz.f3.resultTypes.all (fun t=>Tryz.prog.readableRec t&&decide (t<Tryz.prog.types.size)))=true:=by kernel_rfl
theorem fa:((Rows.beginNewsRow.ifacesOut==Tryz.f3.resultTypes.toList.any (Tryz.prog.ifacesRec ·)))=true:=by kernel_rfl
theorem fb:((Rows.beginNewsRow.loopsOut==Tryz.f3.resultTypes.toList.any (Tryz.prog.loopsFrom ·)))=true:=by kernel_rfl
theorem fc:((Rows.beginNewsRow.plainKeys==Tryz.prog.plainKeys))=true:=by kernel_rfl
theorem fe:(Rows.beginNewsRow.shortTexts.isNone)=true:=by kernel_rfl
theorem ff:(Tryz.prog.stopsHeard)=true:=by kernel_rfl
theorem fg:(Tryz.prog.mayEnter)=true:=by kernel_rfl
theorem fh:((Rows.beginNewsRow.lifted==Tryz.prog.liftsFinal))=true:=by kernel_rfl
theorem fi:((Tryz.prog.make==some Rows.beginNewsRow.make))=true:=by kernel_rfl
theorem fj:(Rows.beginNewsRow.domain.isEmpty&&(Rows.beginNewsRow.kinds==[]))=true:=by kernel_rfl
theorem fk:((Rows.beginNewsRow.pinned==Rows.beginNewsRow.pinnedBy))=true:=by kernel_rfl
theorem fl:((Rows.beginNewsRow.veiled==(Tryz.f3.params.toList++Rows.beginNewsSpec.plain.varTypes Tryz.prog++Tryz.f3.resultTypes.toList).any (Tryz.prog.veiledRec ·)))=true:=by kernel_rfl
theorem fo:(Rows.beginNewsRow.veiledFits Tryz.prog Tryz.f3.params.toList (Tryz.f3.params.toList++Rows.beginNewsSpec.plain.varTypes Tryz.prog++Tryz.f3.resultTypes.toList))=true:=by kernel_rfl
theorem Wv:joinedFacts Tryz.prog 3 Tryz.f3 Rows.beginNewsSpec Rows.beginNewsRow=true:=wW lI lJ lK lL lM lN lO lP lQ lR eP eQ eR eT eU eV eW eX eY eZ fa fb fc fe ff fg fh fi fj fk fl fo
theorem lS:(Tryz.f3.params.toList.all fun t=>Tryz.prog.readableRec t&&decide (t<Tryz.prog.types.size))=true:=by kernel_rfl
set_option maxRecDepth 100000 in
theorem Ww (os:Os) (started:os.Started) (H:Type) (enc:TypeId×Value->H):
 ReturnsInHanded {} Tryz.checked os 3 .any (fun w args=>(Rows.beginNewsSpec.pre enc Tryz.prog Tryz.f3 [] false w args/\laidMetH Tryz.prog Rows.beginNewsRow.laid w)/\sizedMet enc Tryz.prog Tryz.f3 (OpenSpec.ofChange Rows.beginNewsSpec) false w args)
  (Rows.beginNewsSpec.post enc Tryz.prog Tryz.f3 false true false false):=by
 refine Acs (C:=Tryz.checked) (X:=fun w _=>laidMetH Tryz.prog Rows.beginNewsRow.laid w) (fun _ _ _ hh h=>h.of_heap hh) own started (by kernel_rfl) Tryz.func3
  (ChangeSpec.witness_shaped (enc:=enc) (C:=Tryz.checked) (os:=os) (X:=fun w _=>laidMetH Tryz.prog Rows.beginNewsRow.laid w) false (World.laidAll Tryz.prog os Rows.beginNewsRow.laid) #[.agg #[.slice none 0 0, .slice none 0 0, .int .u64 0, .int .i64 0]] 8 (World.laidAll_os _ _ _)
   (World.shaped_of_ZipB (by kernel_rfl) (by kernel_rfl)) (by kernel_rfl) (by kernel_rfl) (by kernel_rfl)
   (by rw [MakeChecks.laidMetH_plain _ _ _ (by kernel_rfl)];exact laidMet_laidAll _ (by kernel_rfl) (by kernel_rfl))) ?_
 intro W base args ds gs before auJ hW _ hS hL hsh _;have ajD: ∀ (j:Nat) t v,Tryz.f3.params[j]? =some t->args[j]? =some v->Value.okWide Tryz.prog W .any base t v:=auJ;have hW':=hW;obtain⟨p,q,hA0,hV,rfl,_,_⟩:=hW;have hA:DataW.TrodAll enc Tryz.prog W 0 (fun _=>true) true Tryz.f3.params.toList args.toList ds p:=hA0;have hA1:=hA;obtain⟨rfl,rfl⟩:=trodVars_none hV;simp only [List.append_nil]at hW';have hlt: ∀ x∈p,x.block<W.heap.size:=fun x hx=>by simpa using hW'.lt x hx
 rw [Tryz.params3]at hA ajD;obtain⟨v0,vs0,d0,ds0,p0,q0,ab9,rfl,rfl,h0,r0⟩:=trodAll_cons hA;obtain⟨rfl,rfl,rfl⟩:=trodAll_nil r0;obtain rfl:args= #[v0]:=by cases args;simp_all
 have hS1:(DataW.weightsEach Tryz.prog Tryz.f3.params.toList [d0]).all (· <=reachBytes)=true:=hS;rw [Tryz.params3]at hS1;obtain⟨s0,hS1⟩:=rR hS1;obtain⟨x0,ok0,R0⟩:=Acr (e:=Nn) 20 (by kernel_rfl) Tryz.underlying26 tq (ajD 0 26 v0 rfl rfl) h0 s0;refine(Cd.law (Si (eO pA (iT ok0).1 (iT ok0).2)) (p8 hL hsh) (args:=_) (by simp only [Aq];exact⟨_,_,rfl,R0,rfl⟩)).mono fun e W' ⟨he,hb⟩=>?_;subst he;have hB:=QM AdJ hb lS hA1 hlt;exact⟨_,rfl,_,_,_,[],_,[],hW',trodAll_mk1 (shut_bool Tryz.underlying4 _),hB,rfl,hb.frame _,fun h=>by cases h⟩
theorem Yp:Rows.BeginNewsSaid:=
 OpenClaim.holds_of_wide 3 Tryz.f3 rfl rfl rfl rfl rfl rfl rfl ⟨rfl,rfl,rfl,rfl,rfl⟩ rfl rfl rfl rfl rfl (by kernel_rfl) Tryz.func3 Wv
  (of_decide_eq_true (by kernel_rfl)) (by unfold Func.isWrapper;first | (rw [if_pos (by decide+kernel)];kernel_rfl) | (rw [if_neg (by decide+kernel)];exact⟨rfl,rfl⟩))
  (fun os started H enc _=>Ww os started H enc)
theorem lT:Rows.beginNewsRow.wfByText (OpenSpec.ofChange Rows.beginNewsSpec)=true:=by kernel_rfl
theorem lU:Tryz.prog.mainIs=some (Rows.beginNewsCard.stood.harness.1,Rows.beginNewsCard.stood.harness.2.toList):=by kernel_rfl
theorem lV:Tryz.prog.funcNamed "cardgame/cardgamelaw49.BeginNews" =some 3:=by kernel_rfl
theorem lW:false=Tryz.prog.looks []:=by kernel_rfl
theorem lX:false=Rows.beginNewsRow.goesBy Tryz.prog:=by kernel_rfl
theorem beginNews_card:Rows.BeginNewsCardSaid:=
 Claim7.holds_tied_plain_at .later [] _ _ _ _ Yp (fun _ h=>by cases h) lT (fun _ h=>by cases h) beginNews_row_tie rfl ⟨rfl,rfl⟩ lU rfl
  (fun f fn hf hfn=>by
   obtain rfl:f=3:=Option.some.inj (lV.symm.trans hf) |>.symm;obtain rfl:fn=Tryz.f3:=(Option.some.inj (Tryz.func3.symm.trans hfn)).symm;exact⟨lW,fun j t ht=>by
    rw [Tryz.params3]at ht;have hm:t∈[26]:=by simpa using Array.mem_of_getElem? ht
    have af5:([26].all fun u=> !Tryz.prog.wantsStandIn u)=true:=by kernel_rfl
    exact(show Tryz.prog.wantsStandIn t=false by simpa using List.all_eq_true.1 af5 t hm)⟩)
  lX
end Go.Proofs.YteginlijmbcopaaGreatDoor
