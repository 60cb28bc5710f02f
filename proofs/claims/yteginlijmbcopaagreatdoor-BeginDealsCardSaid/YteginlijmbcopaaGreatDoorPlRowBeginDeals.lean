/- The row and the card of BeginDeals. -/
import Derived.Test.YteginlijmbcopaaGreatDoorPlClb
import Derived.Test.YteginlijmbcopaaGreatDoorPlBlV
import Derived.Test.YteginlijmbcopaaGreatDoorPlBlD
import Derived.Test.YteginlijmbcopaaGreatDoorTv2toPlPx
import Derived.Test.YteginlijmbcopaaGreatDoorTv2toPlPx
import Derived.Test.YteginlijmbcopaaGreatDoorTv2toPlPx
import Derived.Test.YteginlijmbcopaaGreatDoorTie
import Derived.Test.YteginlijmbcopaaGreatDoorCards
namespace Go.Proofs.YteginlijmbcopaaGreatDoor
open Go.ChangeShapes Go.WideShapes Go.ChangeAt Go.RowKit Go.PL Go.ChangeMaps
set_option linter.all false
theorem own:ownKnob Tryz.prog.godebug=none:=by kernel_rfl
theorem AcH:laidOutB Tryz.prog=true:=by kernel_rfl
theorem Ajm:Tryz.prog.globalNamed "internal/strconv.uint64pow10" =some 3:=by kernel_rfl
theorem Ajn:(Tryz.prog.globals[3]?).map (·.type)=some 305:=by kernel_rfl
theorem Ajo:Tryz.prog.cellsOf 305=20:=by kernel_rfl
theorem cPe:Tryz.prog.cellsOf 24=1:=by kernel_rfl
theorem Ah3:Tryz.prog.globalNamed "cardgame/counter.names" =some 0:=by kernel_rfl
theorem Ah4:(Tryz.prog.globals[0]?).map (·.type)=some 262:=by kernel_rfl
theorem Ah5:Tryz.prog.cellsOf 262=3:=by kernel_rfl
theorem Ah6:Tryz.prog.cellsOf 9=1:=by kernel_rfl
theorem Ah7:Tryz.prog.globalNamed "cardgame/color.names" =some 2:=by kernel_rfl
theorem Ah8:(Tryz.prog.globals[2]?).map (·.type)=some 274:=by kernel_rfl
theorem Ah9:Tryz.prog.cellsOf 274=5:=by kernel_rfl
theorem Aia:Tryz.prog.cellsOf 9=1:=by kernel_rfl
theorem oo {W:World} (h:laidMetH Tryz.prog Rows.beginDealsRow.laid W) (hsh:W.ShapedOpen Tryz.prog):I0 W:=by rw [MakeChecks.laidMetH_plain _ _ _ (by kernel_rfl)]at h;have hp:=h.filter (fun x=>x.1== "internal/strconv.uint64pow10");have h0:=h.filter (fun x=>x.1== "cardgame/counter.names");have h1:=h.filter (fun x=>x.1== "cardgame/color.names");exact⟨Lib.tabIs_of_head (rest:=[]) Ajm Ajn Tryz.underlying305 Tryz.underlying24 cPe Ajo hp,hsh,RP (ss:=Zg) (rest:=[]) Ah3 Ah4 Tryz.underlying262 Tryz.underlying9 Ah6 Ah5 h0,RP (ss:=mr) (rest:=[]) Ah7 Ah8 Tryz.underlying274 Tryz.underlying9 Aia Ah9 h1⟩
theorem da:(Rows.beginDealsRow.wf (OpenSpec.ofChange Rows.beginDealsSpec))=true:=by kernel_rfl
theorem db:(laidOutB Tryz.prog)=true:=by kernel_rfl
theorem dc:(mapsRowed Tryz.prog)=true:=by kernel_rfl
theorem de:(Tryz.f4.params.all (Tryz.prog.readableRec ·))=true:=by kernel_rfl
theorem df:(namedTie Tryz.prog Rows.beginDealsRow.named Rows.beginDealsSpec.vars)=true:=by kernel_rfl
theorem dg:((Rows.beginDealsRow.stops==[]))=true:=by kernel_rfl
theorem dh:((Tryz.prog.stops==[]))=true:=by kernel_rfl
theorem di:((Rows.beginDealsRow.knobs==[]))=true:=by kernel_rfl
theorem dj:((Tryz.prog.stopKnobs==[]))=true:=by kernel_rfl
theorem dk:((Rows.beginDealsRow.inPlace==Tryz.prog.inPlace 4))=true:=by kernel_rfl
theorem bg:((Rows.beginDealsRow.unfollowed==Tryz.prog.unfollowed 4))=true:=by kernel_rfl
theorem bh:((Rows.beginDealsRow.recurses==Tryz.prog.recurses 4))=true:=by kernel_rfl
theorem bi:((Rows.beginDealsRow.named==Tryz.prog.varsNamed 4))=true:=by kernel_rfl
theorem bj:((Rows.beginDealsRow.maps==(Tryz.f4.params.toList++Rows.beginDealsSpec.plain.varTypes Tryz.prog).any (Tryz.prog.mapsRec ·)))=true:=by kernel_rfl
theorem bk:((Rows.beginDealsRow.ifaces==(Tryz.f4.params.toList++Rows.beginDealsSpec.plain.varTypes Tryz.prog).any (Tryz.prog.ifacesRec ·)))=true:=by kernel_rfl
theorem bl:((Rows.beginDealsRow.mapsOut==Tryz.prog.mapsAmong Tryz.f4.resultTypes.toList))=true:=by kernel_rfl
theorem bm:((Rows.beginDealsRow.loops==(Tryz.f4.params.toList++Rows.beginDealsSpec.plain.varTypes Tryz.prog).any (Tryz.prog.loopsFrom ·)))=true:=by kernel_rfl
theorem bn:((Rows.beginDealsRow.wideKeys==(Tryz.f4.params.toList++Rows.beginDealsSpec.plain.varTypes Tryz.prog++Tryz.f4.resultTypes.toList).any (Tryz.prog.wideKeysFrom ·)))=true:=by kernel_rfl
theorem bp:(Rows.beginDealsSpec.vars.all (Tryz.prog.varReadable ·))=true:=by kernel_rfl
theorem br:(Tryz.f4.resultTypes.all (fun t=>Tryz.prog.readableRec t&&decide (t<Tryz.prog.types.size)))=true:=by kernel_rfl
theorem bt:((Rows.beginDealsRow.ifacesOut==Tryz.f4.resultTypes.toList.any (Tryz.prog.ifacesRec ·)))=true:=by kernel_rfl
theorem bu:((Rows.beginDealsRow.loopsOut==Tryz.f4.resultTypes.toList.any (Tryz.prog.loopsFrom ·)))=true:=by kernel_rfl
theorem bw:((Rows.beginDealsRow.plainKeys==Tryz.prog.plainKeys))=true:=by kernel_rfl
theorem bx:(Rows.beginDealsRow.shortTexts.isNone)=true:=by kernel_rfl
theorem bA:(Tryz.prog.stopsHeard)=true:=by kernel_rfl
theorem bB:(Tryz.prog.mayEnter)=true:=by kernel_rfl
theorem bC:((Rows.beginDealsRow.lifted==Tryz.prog.liftsFinal))=true:=by kernel_rfl
theorem bD:((Tryz.prog.make==some Rows.beginDealsRow.make))=true:=by kernel_rfl
theorem bE:(Rows.beginDealsRow.domain.isEmpty&&(Rows.beginDealsRow.kinds==[]))=true:=by kernel_rfl
theorem bG:((Rows.beginDealsRow.pinned==Rows.beginDealsRow.pinnedBy))=true:=by kernel_rfl
theorem bH:((Rows.beginDealsRow.veiled==(Tryz.f4.params.toList++Rows.beginDealsSpec.plain.varTypes Tryz.prog++Tryz.f4.resultTypes.toList).any (Tryz.prog.veiledRec ·)))=true:=by kernel_rfl
theorem bI:(Rows.beginDealsRow.veiledFits Tryz.prog Tryz.f4.params.toList (Tryz.f4.params.toList++Rows.beginDealsSpec.plain.varTypes Tryz.prog++Tryz.f4.resultTypes.toList))=true:=by kernel_rfl
theorem SZ:joinedFacts Tryz.prog 4 Tryz.f4 Rows.beginDealsSpec Rows.beginDealsRow=true:=vp da db dc de df dg dh di dj dk bg bh bi bj bk bl bm bn bp br bt bu bw bx bA bB bC bD bE bG bH bI
theorem dl:(Tryz.f4.params.toList.all fun t=>Tryz.prog.readableRec t&&decide (t<Tryz.prog.types.size))=true:=by kernel_rfl
set_option maxRecDepth 100000 in
theorem S0 (os:Os) (started:os.Started) (H:Type) (enc:TypeId×Value->H):
 ReturnsInHanded {} Tryz.checked os 4 .any (fun w args=>(Rows.beginDealsSpec.pre enc Tryz.prog Tryz.f4 [] false w args/\laidMetH Tryz.prog Rows.beginDealsRow.laid w)/\sizedMet enc Tryz.prog Tryz.f4 (OpenSpec.ofChange Rows.beginDealsSpec) false w args)
  (Rows.beginDealsSpec.post enc Tryz.prog Tryz.f4 false true false false):=by
 refine Abw (C:=Tryz.checked) (X:=fun w _=>laidMetH Tryz.prog Rows.beginDealsRow.laid w) (fun _ _ _ hh h=>h.of_heap hh) own started (by kernel_rfl) Tryz.func4
  (ChangeSpec.witness_shaped (enc:=enc) (C:=Tryz.checked) (os:=os) (X:=fun w _=>laidMetH Tryz.prog Rows.beginDealsRow.laid w) false (World.laidAll Tryz.prog os Rows.beginDealsRow.laid) #[.slice none 0 0, .agg #[.slice none 0 0, .slice none 0 0, .slice none 0 0, .slice none 0 0, .slice none 0 0, .slice none 0 0, .slice none 0 0, .int .i64 0, .int .i64 0, .int .i64 0, .bool false, .int .i64 0, .int .i64 0, .int .i64 0, .int .i64 0, .int .u64 0, .slice none 0 0, .int .i64 0, .int .i64 0], .slice none 0 0] 8 (World.laidAll_os _ _ _)
   (World.shaped_of_ZipB (by kernel_rfl) (by kernel_rfl)) (by kernel_rfl) (by kernel_rfl) (by kernel_rfl)
   (by rw [MakeChecks.laidMetH_plain _ _ _ (by kernel_rfl)];exact laidMet_laidAll _ (by kernel_rfl) (by kernel_rfl))) ?_
 intro W base args ds gs before ayK hW _ hS hL hsh _;have ajz: ∀ (j:Nat) t v,Tryz.f4.params[j]? =some t->args[j]? =some v->Value.okWide Tryz.prog W .any base t v:=ayK;have hW':=hW;obtain⟨p,q,hA0,hV,rfl,_,_⟩:=hW;have hA:DataW.TrodAll enc Tryz.prog W 0 (fun _=>true) true Tryz.f4.params.toList args.toList ds p:=hA0;have hA1:=hA;obtain⟨rfl,rfl⟩:=trodVars_none hV;simp only [List.append_nil]at hW';have hlt: ∀ x∈p,x.block<W.heap.size:=fun x hx=>by simpa using hW'.lt x hx
 rw [Tryz.params4]at hA ajz;obtain⟨v0,vs0,d0,ds0,p0,q0,acY,rfl,rfl,h0,r0⟩:=trodAll_cons hA;obtain⟨v1,vs1,d1,ds1,p1,q1,rfl,rfl,rfl,h1,r1⟩:=trodAll_cons r0;obtain⟨v2,vs2,d2,ds2,p2,q2,rfl,rfl,rfl,h2,r2⟩:=trodAll_cons r1;obtain⟨rfl,rfl,rfl⟩:=trodAll_nil r2;obtain rfl:args= #[v0,v1,v2]:=by cases args;simp_all
 have hS1:(DataW.weightsEach Tryz.prog Tryz.f4.params.toList [d0,d1,d2]).all (· <=reachBytes)=true:=hS;rw [Tryz.params4]at hS1;obtain⟨s0,hS1⟩:=QN hS1;obtain⟨x0,ok0,R0⟩:=yp (e:=N8) 20 (by kernel_rfl) Tryz.underlying22 (dL Tryz.underlying22 zI zT) (ajz 0 22 v0 rfl rfl) h0 s0;obtain⟨s1,hS1⟩:=QN hS1;obtain⟨x1,ok1,R1⟩:=Abu (e:=Pa) 20 (by kernel_rfl) Tryz.underlying36 wi (ajz 1 36 v1 rfl rfl) h1 s1;obtain⟨s2,hS1⟩:=QN hS1;obtain⟨x2,ok2,R2⟩:=yp (e:=eL (eI .i64)) 20 (by kernel_rfl) Tryz.underlying23 (dL Tryz.underlying23 AcD (dL Tryz.underlying31 OM (dI Tryz.underlying3))) (ajz 2 23 v2 rfl rfl) h2 s2;refine(CZ.law (Pz (a6 nS (zX ok0) (zY ok1) (be ok2).1 (be ok2).2)) (oo hL hsh) (args:=_) (by simp only [Aw];exact⟨_,_,rfl,R0,⟨_,_,rfl,R1,⟨_,_,rfl,R2,rfl⟩⟩⟩)).mono fun e W' ⟨he,hb⟩=>?_;subst he;have hB:=PF AcH hb dl hA1 hlt;exact⟨_,rfl,_,_,_,[],_,[],hW',trodAll_mk1 (shut_bool Tryz.underlying4 _),hB,rfl,hb.frame _,fun h=>by cases h⟩
theorem UQ:Rows.BeginDealsSaid:=
 OpenClaim.holds_of_wide 4 Tryz.f4 rfl rfl rfl rfl rfl rfl rfl ⟨rfl,rfl,rfl,rfl,rfl⟩ rfl rfl rfl rfl rfl (by kernel_rfl) Tryz.func4 SZ
  (of_decide_eq_true (by kernel_rfl)) (by unfold Func.isWrapper;first | (rw [if_pos (by decide+kernel)];kernel_rfl) | (rw [if_neg (by decide+kernel)];exact⟨rfl,rfl⟩))
  (fun os started H enc _=>S0 os started H enc)
theorem dm:Rows.beginDealsRow.wfByText (OpenSpec.ofChange Rows.beginDealsSpec)=true:=by kernel_rfl
theorem dn:Tryz.prog.mainIs=some (Rows.beginDealsCard.stood.harness.1,Rows.beginDealsCard.stood.harness.2.toList):=by kernel_rfl
theorem dq:Tryz.prog.funcNamed "cardgame/cardgamelaw49.BeginDeals" =some 4:=by kernel_rfl
theorem dt:false=Tryz.prog.looks []:=by kernel_rfl
theorem du:false=Rows.beginDealsRow.goesBy Tryz.prog:=by kernel_rfl
theorem beginDeals_card:Rows.BeginDealsCardSaid:=
 Claim7.holds_tied_plain_at .later [] _ _ _ _ UQ (fun _ h=>by cases h) dm (fun _ h=>by cases h) beginDeals_row_tie rfl ⟨rfl,rfl⟩ dn rfl
  (fun f fn hf hfn=>by
   obtain rfl:f=4:=Option.some.inj (dq.symm.trans hf) |>.symm;obtain rfl:fn=Tryz.f4:=(Option.some.inj (Tryz.func4.symm.trans hfn)).symm;exact⟨dt,fun j t ht=>by
    rw [Tryz.params4]at ht;have hm:t∈[22,36,23]:=by simpa using Array.mem_of_getElem? ht
    have aiN:([22,36,23].all fun u=> !Tryz.prog.wantsStandIn u)=true:=by kernel_rfl
    exact(show Tryz.prog.wantsStandIn t=false by simpa using List.all_eq_true.1 aiN t hm)⟩)
  du
end Go.Proofs.YteginlijmbcopaaGreatDoor
