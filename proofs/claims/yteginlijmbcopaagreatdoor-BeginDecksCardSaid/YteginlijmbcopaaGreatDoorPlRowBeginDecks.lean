/- The row and the card of BeginDecks. -/
import Derived.Test.YteginlijmbcopaaGreatDoorPlClb
import Derived.Test.YteginlijmbcopaaGreatDoorPlBkS
import Derived.Test.YteginlijmbcopaaGreatDoorPlBkD
import Derived.Test.YteginlijmbcopaaGreatDoorTqtoPlPx
import Derived.Test.YteginlijmbcopaaGreatDoorTqtoPlPx
import Derived.Test.YteginlijmbcopaaGreatDoorTqtoPlPx
import Derived.Test.YteginlijmbcopaaGreatDoorTie
import Derived.Test.YteginlijmbcopaaGreatDoorCards
namespace Go.Proofs.YteginlijmbcopaaGreatDoor
open Go.ChangeShapes Go.WideShapes Go.ChangeAt Go.RowKit Go.PL Go.ChangeMaps
set_option linter.all false
theorem own:ownKnob Tryz.prog.godebug=none:=by kernel_rfl
theorem AaC:laidOutB Tryz.prog=true:=by kernel_rfl
theorem Ahq:Tryz.prog.globalNamed "internal/strconv.uint64pow10" =some 3:=by kernel_rfl
theorem Ahr:(Tryz.prog.globals[3]?).map (·.type)=some 305:=by kernel_rfl
theorem Ahs:Tryz.prog.cellsOf 305=20:=by kernel_rfl
theorem cPe:Tryz.prog.cellsOf 24=1:=by kernel_rfl
theorem AfI:Tryz.prog.globalNamed "cardgame/counter.names" =some 0:=by kernel_rfl
theorem AfJ:(Tryz.prog.globals[0]?).map (·.type)=some 262:=by kernel_rfl
theorem AfK:Tryz.prog.cellsOf 262=3:=by kernel_rfl
theorem AfL:Tryz.prog.cellsOf 9=1:=by kernel_rfl
theorem AfM:Tryz.prog.globalNamed "cardgame/color.names" =some 2:=by kernel_rfl
theorem AfN:(Tryz.prog.globals[2]?).map (·.type)=some 274:=by kernel_rfl
theorem AfO:Tryz.prog.cellsOf 274=5:=by kernel_rfl
theorem AfP:Tryz.prog.cellsOf 9=1:=by kernel_rfl
theorem lY {W:World} (h:laidMetH Tryz.prog Rows.beginDecksRow.laid W) (hsh:W.ShapedOpen Tryz.prog):I0 W:=by rw [MakeChecks.laidMetH_plain _ _ _ (by kernel_rfl)]at h;have hp:=h.filter (fun x=>x.1== "internal/strconv.uint64pow10");have h0:=h.filter (fun x=>x.1== "cardgame/counter.names");have h1:=h.filter (fun x=>x.1== "cardgame/color.names");exact⟨Lib.tabIs_of_head (rest:=[]) Ahq Ahr Tryz.underlying305 Tryz.underlying24 cPe Ahs hp,hsh,RW (ss:=HJ) (rest:=[]) AfI AfJ Tryz.underlying262 Tryz.underlying9 AfL AfK h0,RW (ss:=EJ) (rest:=[]) AfM AfN Tryz.underlying274 Tryz.underlying9 AfP AfO h1⟩
theorem bl:(Rows.beginDecksRow.wf (OpenSpec.ofChange Rows.beginDecksSpec))=true:=by kernel_rfl
theorem bm:(laidOutB Tryz.prog)=true:=by kernel_rfl
theorem bn:(mapsRowed Tryz.prog)=true:=by kernel_rfl
theorem bp:(Tryz.f5.params.all (Tryz.prog.readableRec ·))=true:=by kernel_rfl
theorem br:(namedTie Tryz.prog Rows.beginDecksRow.named Rows.beginDecksSpec.vars)=true:=by kernel_rfl
theorem bt:((Rows.beginDecksRow.stops==[]))=true:=by kernel_rfl
theorem bu:((Tryz.prog.stops==[]))=true:=by kernel_rfl
theorem bw:((Rows.beginDecksRow.knobs==[]))=true:=by kernel_rfl
theorem bA:((Tryz.prog.stopKnobs==[]))=true:=by kernel_rfl
theorem bB:((Rows.beginDecksRow.inPlace==Tryz.prog.inPlace 5))=true:=by kernel_rfl
theorem ZH:((Rows.beginDecksRow.unfollowed==Tryz.prog.unfollowed 5))=true:=by kernel_rfl
theorem ZI:((Rows.beginDecksRow.recurses==Tryz.prog.recurses 5))=true:=by kernel_rfl
theorem ZJ:((Rows.beginDecksRow.named==Tryz.prog.varsNamed 5))=true:=by kernel_rfl
theorem ZK:((Rows.beginDecksRow.maps==(Tryz.f5.params.toList++Rows.beginDecksSpec.plain.varTypes Tryz.prog).any (Tryz.prog.mapsRec ·)))=true:=by kernel_rfl
theorem ZL:((Rows.beginDecksRow.ifaces==(Tryz.f5.params.toList++Rows.beginDecksSpec.plain.varTypes Tryz.prog).any (Tryz.prog.ifacesRec ·)))=true:=by kernel_rfl
theorem ZM:((Rows.beginDecksRow.mapsOut==Tryz.prog.mapsAmong Tryz.f5.resultTypes.toList))=true:=by kernel_rfl
theorem ZN:((Rows.beginDecksRow.loops==(Tryz.f5.params.toList++Rows.beginDecksSpec.plain.varTypes Tryz.prog).any (Tryz.prog.loopsFrom ·)))=true:=by kernel_rfl
theorem ZO:((Rows.beginDecksRow.wideKeys==(Tryz.f5.params.toList++Rows.beginDecksSpec.plain.varTypes Tryz.prog++Tryz.f5.resultTypes.toList).any (Tryz.prog.wideKeysFrom ·)))=true:=by kernel_rfl
theorem ZP:(Rows.beginDecksSpec.vars.all (Tryz.prog.varReadable ·))=true:=by kernel_rfl
theorem ZQ:(Tryz.f5.resultTypes.all (fun t=>Tryz.prog.readableRec t&&decide (t<Tryz.prog.types.size)))=true:=by kernel_rfl
theorem ZR:((Rows.beginDecksRow.ifacesOut==Tryz.f5.resultTypes.toList.any (Tryz.prog.ifacesRec ·)))=true:=by kernel_rfl
theorem ZS:((Rows.beginDecksRow.loopsOut==Tryz.f5.resultTypes.toList.any (Tryz.prog.loopsFrom ·)))=true:=by kernel_rfl
theorem ZT:((Rows.beginDecksRow.plainKeys==Tryz.prog.plainKeys))=true:=by kernel_rfl
theorem ZU:(Rows.beginDecksRow.shortTexts.isNone)=true:=by kernel_rfl
theorem ZV:(Tryz.prog.stopsHeard)=true:=by kernel_rfl
theorem ZW:(Tryz.prog.mayEnter)=true:=by kernel_rfl
theorem ZX:((Rows.beginDecksRow.lifted==Tryz.prog.liftsFinal))=true:=by kernel_rfl
theorem ZY:((Tryz.prog.make==some Rows.beginDecksRow.make))=true:=by kernel_rfl
theorem ZZ:(Rows.beginDecksRow.domain.isEmpty&&(Rows.beginDecksRow.kinds==[]))=true:=by kernel_rfl
theorem Z0:((Rows.beginDecksRow.pinned==Rows.beginDecksRow.pinnedBy))=true:=by kernel_rfl
theorem Z1:((Rows.beginDecksRow.veiled==(Tryz.f5.params.toList++Rows.beginDecksSpec.plain.varTypes Tryz.prog++Tryz.f5.resultTypes.toList).any (Tryz.prog.veiledRec ·)))=true:=by kernel_rfl
theorem Z2:(Rows.beginDecksRow.veiledFits Tryz.prog Tryz.f5.params.toList (Tryz.f5.params.toList++Rows.beginDecksSpec.plain.varTypes Tryz.prog++Tryz.f5.resultTypes.toList))=true:=by kernel_rfl
theorem SH:joinedFacts Tryz.prog 5 Tryz.f5 Rows.beginDecksSpec Rows.beginDecksRow=true:=sJ bl bm bn bp br bt bu bw bA bB ZH ZI ZJ ZK ZL ZM ZN ZO ZP ZQ ZR ZS ZT ZU ZV ZW ZX ZY ZZ Z0 Z1 Z2
theorem bD:(Tryz.f5.params.toList.all fun t=>Tryz.prog.readableRec t&&decide (t<Tryz.prog.types.size))=true:=by kernel_rfl
set_option maxRecDepth 100000 in
theorem SI (os:Os) (started:os.Started) (H:Type) (enc:TypeId×Value->H):
 ReturnsInHanded {} Tryz.checked os 5 .any (fun w args=>(Rows.beginDecksSpec.pre enc Tryz.prog Tryz.f5 [] false w args/\laidMetH Tryz.prog Rows.beginDecksRow.laid w)/\sizedMet enc Tryz.prog Tryz.f5 (OpenSpec.ofChange Rows.beginDecksSpec) false w args)
  (Rows.beginDecksSpec.post enc Tryz.prog Tryz.f5 false true false false):=by
 refine ze (C:=Tryz.checked) (X:=fun w _=>laidMetH Tryz.prog Rows.beginDecksRow.laid w) (fun _ _ _ hh h=>h.of_heap hh) own started (by kernel_rfl) Tryz.func5
  (ChangeSpec.witness_shaped (enc:=enc) (C:=Tryz.checked) (os:=os) (X:=fun w _=>laidMetH Tryz.prog Rows.beginDecksRow.laid w) false (World.laidAll Tryz.prog os Rows.beginDecksRow.laid) #[.agg #[.slice none 0 0, .slice none 0 0, .int .u64 0, .int .i64 0], .slice none 0 0] 8 (World.laidAll_os _ _ _)
   (World.shaped_of_ZipB (by kernel_rfl) (by kernel_rfl)) (by kernel_rfl) (by kernel_rfl) (by kernel_rfl)
   (by rw [MakeChecks.laidMetH_plain _ _ _ (by kernel_rfl)];exact laidMet_laidAll _ (by kernel_rfl) (by kernel_rfl))) ?_
 intro W base args ds gs before ate hW _ hS hL hsh _;have ahI: ∀ (j:Nat) t v,Tryz.f5.params[j]? =some t->args[j]? =some v->Value.okWide Tryz.prog W .any base t v:=ate;have hW':=hW;obtain⟨p,q,hA0,hV,rfl,_,_⟩:=hW;have hA:DataW.TrodAll enc Tryz.prog W 0 (fun _=>true) true Tryz.f5.params.toList args.toList ds p:=hA0;have hA1:=hA;obtain⟨rfl,rfl⟩:=trodVars_none hV;simp only [List.append_nil]at hW';have hlt: ∀ x∈p,x.block<W.heap.size:=fun x hx=>by simpa using hW'.lt x hx
 rw [Tryz.params5]at hA ahI;obtain⟨v0,vs0,d0,ds0,p0,q0,abQ,rfl,rfl,h0,r0⟩:=trodAll_cons hA;obtain⟨v1,vs1,d1,ds1,p1,q1,rfl,rfl,rfl,h1,r1⟩:=trodAll_cons r0;obtain⟨rfl,rfl,rfl⟩:=trodAll_nil r1;obtain rfl:args= #[v0,v1]:=by cases args;simp_all
 have hS1:(DataW.weightsEach Tryz.prog Tryz.f5.params.toList [d0,d1]).all (· <=reachBytes)=true:=hS;rw [Tryz.params5]at hS1;obtain⟨s0,hS1⟩:=YD hS1;obtain⟨x0,ok0,R0⟩:=y9 (e:=M8) 20 (by kernel_rfl) Tryz.underlying26 o8 (ahI 0 26 v0 rfl rfl) h0 s0;obtain⟨s1,hS1⟩:=YD hS1;obtain⟨x1,ok1,R1⟩:=AcO (e:=eL (eI .i64)) 20 (by kernel_rfl) Tryz.underlying23 (dL Tryz.underlying23 qJ (dL Tryz.underlying31 xh (dI Tryz.underlying3))) (ahI 1 23 v1 rfl rfl) h1 s1;refine(BV.law (PH (ZC lA (ed ok0).1 (ed ok0).2 (ZG ok1).1 (ZG ok1).2)) (lY hL hsh) (args:=_) (by simp only [As];exact⟨_,_,rfl,R0,⟨_,_,rfl,R1,rfl⟩⟩)).mono fun e W' ⟨he,hb⟩=>?_;subst he;have hB:=PM AaC hb bD hA1 hlt;exact⟨_,rfl,_,_,_,[],_,[],hW',trodAll_mk1 (shut_bool Tryz.underlying4 _),hB,rfl,hb.frame _,fun h=>by cases h⟩
theorem Uz:Rows.BeginDecksSaid:=
 OpenClaim.holds_of_wide 5 Tryz.f5 rfl rfl rfl rfl rfl rfl rfl ⟨rfl,rfl,rfl,rfl,rfl⟩ rfl rfl rfl rfl rfl (by kernel_rfl) Tryz.func5 SH
  (of_decide_eq_true (by kernel_rfl)) (by unfold Func.isWrapper;first | (rw [if_pos (by decide+kernel)];kernel_rfl) | (rw [if_neg (by decide+kernel)];exact⟨rfl,rfl⟩))
  (fun os started H enc _=>SI os started H enc)
theorem bG:Rows.beginDecksRow.wfByText (OpenSpec.ofChange Rows.beginDecksSpec)=true:=by kernel_rfl
theorem bH:Tryz.prog.mainIs=some (Rows.beginDecksCard.stood.harness.1,Rows.beginDecksCard.stood.harness.2.toList):=by kernel_rfl
theorem bI:Tryz.prog.funcNamed "cardgame/cardgamelaw49.BeginDecks" =some 5:=by kernel_rfl
theorem bJ:false=Tryz.prog.looks []:=by kernel_rfl
theorem bK:false=Rows.beginDecksRow.goesBy Tryz.prog:=by kernel_rfl
theorem beginDecks_card:Rows.BeginDecksCardSaid:=
 Claim7.holds_tied_plain_at .later [] _ _ _ _ Uz (fun _ h=>by cases h) bG (fun _ h=>by cases h) beginDecks_row_tie rfl ⟨rfl,rfl⟩ bH rfl
  (fun f fn hf hfn=>by
   obtain rfl:f=5:=Option.some.inj (bI.symm.trans hf) |>.symm;obtain rfl:fn=Tryz.f5:=(Option.some.inj (Tryz.func5.symm.trans hfn)).symm;exact⟨bJ,fun j t ht=>by
    rw [Tryz.params5]at ht;have hm:t∈[26,23]:=by simpa using Array.mem_of_getElem? ht
    have ae1:([26,23].all fun u=> !Tryz.prog.wantsStandIn u)=true:=by kernel_rfl
    exact(show Tryz.prog.wantsStandIn t=false by simpa using List.all_eq_true.1 ae1 t hm)⟩)
  bK
end Go.Proofs.YteginlijmbcopaaGreatDoor
