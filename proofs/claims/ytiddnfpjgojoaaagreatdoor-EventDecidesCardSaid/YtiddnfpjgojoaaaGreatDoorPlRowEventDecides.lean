/- The row and the card of EventDecides. -/
import Derived.Test.YtiddnfpjgojoaaaGreatDoorPlEtV
import Derived.Test.YtiddnfpjgojoaaaGreatDoorPlEdD
import Derived.Test.YtiddnfpjgojoaaaGreatDoorPlZtoTf
import Derived.Test.YtiddnfpjgojoaaaGreatDoorTgtoPlPd
import Derived.Test.YtiddnfpjgojoaaaGreatDoorTie
import Derived.Test.YtiddnfpjgojoaaaGreatDoorCards
namespace Go.Proofs.YtiddnfpjgojoaaaGreatDoor
open Go.ChangeShapes Go.WideShapes Go.ChangeAt Go.RowKit Go.PL Go.ChangeMaps
set_option linter.all false
theorem own:ownKnob Tryz.prog.godebug=none:=by kernel_rfl
theorem uM:laidOutB Tryz.prog=true:=by kernel_rfl
theorem zn:Tryz.prog.globalNamed "internal/strconv.uint64pow10" =some 1:=by kernel_rfl
theorem zo:(Tryz.prog.globals[1]?).map (·.type)=some 230:=by kernel_rfl
theorem zp:Tryz.prog.cellsOf 230=20:=by kernel_rfl
theorem zx:Tryz.prog.cellsOf 29=1:=by kernel_rfl
theorem jw {W:World} (h:laidMetH Tryz.prog Rows.eventDecidesRow.laid W):I0 W:=by
 rw [MakeChecks.laidMetH_plain _ _ _ (by kernel_rfl)]at h
 have hp:=h.filter (fun x=>x.1== "internal/strconv.uint64pow10")
 exact Lib.tabIs_of_head (rest:=[]) zn zo Tryz.underlying230 Tryz.underlying29 zx zp hp
theorem uN:Tryz.prog.bytesOf 73=176:=by kernel_rfl
theorem Vr:(Rows.eventDecidesRow.wf (OpenSpec.ofChange Rows.eventDecidesSpec))=true:=by kernel_rfl
theorem Vs:(laidOutB Tryz.prog)=true:=by kernel_rfl
theorem Vt:(mapsRowed Tryz.prog)=true:=by kernel_rfl
theorem Vu:(Tryz.f3.params.all (Tryz.prog.readableRec ·))=true:=by kernel_rfl
theorem Vv:(namedTie Tryz.prog Rows.eventDecidesRow.named Rows.eventDecidesSpec.vars)=true:=by kernel_rfl
theorem Vw:((Rows.eventDecidesRow.stops==[]))=true:=by kernel_rfl
theorem Vx:((Tryz.prog.stops==[]))=true:=by kernel_rfl
theorem Vy:((Rows.eventDecidesRow.knobs==[]))=true:=by kernel_rfl
theorem Vz:((Tryz.prog.stopKnobs==[]))=true:=by kernel_rfl
theorem VA:((Rows.eventDecidesRow.inPlace==Tryz.prog.inPlace 3))=true:=by kernel_rfl
theorem Tu:((Rows.eventDecidesRow.unfollowed==Tryz.prog.unfollowed 3))=true:=by kernel_rfl
theorem Tv:((Rows.eventDecidesRow.recurses==Tryz.prog.recurses 3))=true:=by kernel_rfl
theorem Tw:((Rows.eventDecidesRow.named==Tryz.prog.varsNamed 3))=true:=by kernel_rfl
theorem Tx:((Rows.eventDecidesRow.maps==(Tryz.f3.params.toList++Rows.eventDecidesSpec.plain.varTypes Tryz.prog).any (Tryz.prog.mapsRec ·)))=true:=by kernel_rfl
theorem Tz:((Rows.eventDecidesRow.ifaces==(Tryz.f3.params.toList++Rows.eventDecidesSpec.plain.varTypes Tryz.prog).any (Tryz.prog.ifacesRec ·)))=true:=by kernel_rfl
theorem TA:((Rows.eventDecidesRow.mapsOut==Tryz.prog.mapsAmong Tryz.f3.resultTypes.toList))=true:=by kernel_rfl
theorem TB:((Rows.eventDecidesRow.loops==(Tryz.f3.params.toList++Rows.eventDecidesSpec.plain.varTypes Tryz.prog).any (Tryz.prog.loopsFrom ·)))=true:=by kernel_rfl
theorem TC:((Rows.eventDecidesRow.wideKeys==(Tryz.f3.params.toList++Rows.eventDecidesSpec.plain.varTypes Tryz.prog++Tryz.f3.resultTypes.toList).any (Tryz.prog.wideKeysFrom ·)))=true:=by kernel_rfl
theorem TD:(Rows.eventDecidesSpec.vars.all (Tryz.prog.varReadable ·))=true:=by kernel_rfl
theorem TF:(Tryz.f3.resultTypes.all (fun t=>Tryz.prog.readableRec t&&decide (t<Tryz.prog.types.size)))=true:=by kernel_rfl
theorem TG:((Rows.eventDecidesRow.ifacesOut==Tryz.f3.resultTypes.toList.any (Tryz.prog.ifacesRec ·)))=true:=by kernel_rfl
theorem TH:((Rows.eventDecidesRow.loopsOut==Tryz.f3.resultTypes.toList.any (Tryz.prog.loopsFrom ·)))=true:=by kernel_rfl
theorem TI:((Rows.eventDecidesRow.plainKeys==Tryz.prog.plainKeys))=true:=by kernel_rfl
theorem TJ:(Rows.eventDecidesRow.shortTexts.isNone)=true:=by kernel_rfl
theorem TK:(Tryz.prog.stopsHeard)=true:=by kernel_rfl
theorem TL:(Tryz.prog.mayEnter)=true:=by kernel_rfl
theorem TM:((Rows.eventDecidesRow.lifted==Tryz.prog.liftsFinal))=true:=by kernel_rfl
theorem TN:((Tryz.prog.make==some Rows.eventDecidesRow.make))=true:=by kernel_rfl
theorem TO:(Rows.eventDecidesRow.domain.isEmpty&&(Rows.eventDecidesRow.kinds==[]))=true:=by kernel_rfl
theorem TP:((Rows.eventDecidesRow.pinned==Rows.eventDecidesRow.pinnedBy))=true:=by kernel_rfl
theorem TQ:((Rows.eventDecidesRow.veiled==(Tryz.f3.params.toList++Rows.eventDecidesSpec.plain.varTypes Tryz.prog++Tryz.f3.resultTypes.toList).any (Tryz.prog.veiledRec ·)))=true:=by kernel_rfl
theorem TR:(Rows.eventDecidesRow.veiledFits Tryz.prog Tryz.f3.params.toList (Tryz.f3.params.toList++Rows.eventDecidesSpec.plain.varTypes Tryz.prog++Tryz.f3.resultTypes.toList))=true:=by kernel_rfl
theorem Om:joinedFacts Tryz.prog 3 Tryz.f3 Rows.eventDecidesSpec Rows.eventDecidesRow=true:=pg Vr Vs Vt Vu Vv Vw Vx Vy Vz VA Tu Tv Tw Tx Tz TA TB TC TD TF TG TH TI TJ TK TL TM TN TO TP TQ TR
theorem VB:(Tryz.f3.params.toList.all fun t=>Tryz.prog.readableRec t&&decide (t<Tryz.prog.types.size))=true:=by kernel_rfl
set_option maxRecDepth 100000 in
theorem Oo (os:Os) (started:os.Started) (H:Type) (enc:TypeId×Value→H):
 ReturnsInHanded {} Tryz.checked os 3 .any (fun w args=>(Rows.eventDecidesSpec.pre enc Tryz.prog Tryz.f3 [] false w args∧laidMetH Tryz.prog Rows.eventDecidesRow.laid w)∧sizedMet enc Tryz.prog Tryz.f3 (OpenSpec.ofChange Rows.eventDecidesSpec) false w args)
  (Rows.eventDecidesSpec.post enc Tryz.prog Tryz.f3 false true false false):=by
 refine returnsInHanded_of_change_and (C:=Tryz.checked) (X:=fun w _=>laidMetH Tryz.prog Rows.eventDecidesRow.laid w) (fun _ _ _ hh h=>h.of_heap hh) own started (by kernel_rfl) Tryz.func3
  (ChangeSpec.witness_shaped (enc:=enc) (C:=Tryz.checked) (os:=os) (X:=fun w _=>laidMetH Tryz.prog Rows.eventDecidesRow.laid w) false (World.laidAll Tryz.prog os Rows.eventDecidesRow.laid) #[.slice none 0 0, .agg #[.slice none 0 0, .slice none 0 0, .slice none 0 0, .slice none 0 0, .slice none 0 0, .slice none 0 0, .slice none 0 0, .int .i64 0, .int .i64 0, .int .i64 0, .bool false, .int .i64 0, .int .i64 0, .int .i64 0, .int .i64 0, .int .u64 0, .slice none 0 0, .int .i64 0, .int .i64 0], .agg #[.int .i64 0, .int .i64 0, .int .i64 0, .int .i64 0, .int .i64 0, .int .i64 0, .int .i64 0, .int .i64 0, .int .i64 0, .int .i64 0, .bool false, .bool false, .int .i64 0, .int .i64 0, .int .i64 0]] 8 (World.laidAll_os _ _ _)
   (World.shaped_of_ZipB (by kernel_rfl) (by kernel_rfl)) (by kernel_rfl) (by kernel_rfl) (by kernel_rfl)
   (by rw [MakeChecks.laidMetH_plain _ _ _ (by kernel_rfl)];exact laidMet_laidAll _ (by kernel_rfl) (by kernel_rfl))) ?_
 intro W base args ds gs before hval0 hW _ hS hL _
 have hval: ∀ (j:Nat) t v,Tryz.f3.params[j]? =some t→args[j]? =some v→Value.okWide Tryz.prog W .any base t v:=hval0
 have hW':=hW
 obtain⟨p,q,hA0,hV,rfl,_,_⟩:=hW
 have hA:DataW.TrodAll enc Tryz.prog W 0 (fun _=>true) true Tryz.f3.params.toList args.toList ds p:=hA0
 have hA1:=hA
 obtain⟨rfl,rfl⟩:=trodVars_none hV
 simp only [List.append_nil]at hW'
 have hlt: ∀ x∈p,x.block<W.heap.size:=fun x hx=>by simpa using hW'.lt x hx
 rw [Tryz.params3]at hA hval
 obtain⟨v0,vs0,d0,ds0,p0,q0,hargs,rfl,rfl,h0,r0⟩:=trodAll_cons hA
 obtain⟨v1,vs1,d1,ds1,p1,q1,rfl,rfl,rfl,h1,r1⟩:=trodAll_cons r0
 obtain⟨v2,vs2,d2,ds2,p2,q2,rfl,rfl,rfl,h2,r2⟩:=trodAll_cons r1
 obtain⟨rfl,rfl,rfl⟩:=trodAll_nil r2
 obtain rfl:args= #[v0,v1,v2]:=by cases args;simp_all
 have hS1:(DataW.weightsEach Tryz.prog Tryz.f3.params.toList [d0,d1,d2]).all (· ≤reachBytes)=true:=hS
 rw [Tryz.params3]at hS1
 obtain⟨s0,hS1⟩:=Pf hS1
 obtain⟨x0,ok0,R0⟩:=vY (e:=B8) 20 (by kernel_rfl) Tryz.underlying22 (dL Tryz.underlying22 uN sD) (hval 0 22 v0 rfl rfl) h0 s0
 obtain⟨s1,hS1⟩:=Pf hS1
 obtain⟨x1,ok1,R1⟩:=nh (e:=A4) 20 (by kernel_rfl) Tryz.underlying31 pM (hval 1 31 v1 rfl rfl) h1 s1
 obtain⟨s2,hS1⟩:=Pf hS1
 obtain⟨x2,ok2,R2⟩:=nh (e:=FK) 20 (by kernel_rfl) Tryz.underlying34 S2 (hval 2 34 v2 rfl rfl) h2 s2
 refine(AQ.law (L2 (Tt (CQ (fun _ h=>mt h) ok0) (i7 ok1))) (jw hL) (args:=_) (by simp only [AJ];exact⟨_,_,rfl,R0,⟨_,_,rfl,R1,⟨_,_,rfl,R2,rfl⟩⟩⟩)).mono fun e W' ⟨he,hb⟩=>?_
 subst he
 have hB:=Oy uM hb VB hA1 hlt
 exact⟨_,rfl,_,_,_,[],_,[],hW',trodAll_mk1 (shut_bool Tryz.underlying4 _),hB,rfl,hb.frame _,fun h=>by cases h⟩
theorem PR:Rows.EventDecidesSaid:=
 OpenClaim.holds_of_wide 3 Tryz.f3 rfl rfl rfl rfl rfl rfl rfl ⟨rfl,rfl,rfl,rfl,rfl⟩ rfl rfl rfl rfl rfl (by kernel_rfl) Tryz.func3 Om
  (of_decide_eq_true (by kernel_rfl)) (by unfold Func.isWrapper;first | (rw [if_pos (by decide+kernel)];kernel_rfl) | (rw [if_neg (by decide+kernel)];exact⟨rfl,rfl⟩))
  (fun os started H enc _=>Oo os started H enc)
theorem eventDecides_card:Rows.EventDecidesCardSaid:=
 Claim7.holds_tied_plain_at .later [] _ _ _ _ PR (fun _ h=>by cases h) (by kernel_rfl) (fun _ h=>by cases h) eventDecides_row_tie rfl ⟨rfl,rfl⟩ (by kernel_rfl) rfl
  (fun f fn hf hfn=>by
   obtain rfl:f=3:=Option.some.inj ((show Tryz.prog.funcNamed "cardgame/cardgamelaw32.EventDecides" =some 3 by kernel_rfl).symm.trans hf) |>.symm
   obtain rfl:fn=Tryz.f3:=(Option.some.inj (Tryz.func3.symm.trans hfn)).symm
   exact⟨by kernel_rfl,fun j t ht=>by
    rw [Tryz.params3]at ht
    have hm:t∈[22,31,34]:=by simpa using Array.mem_of_getElem? ht
    have hall:([22,31,34].all fun u=> !Tryz.prog.wantsStandIn u)=true:=by kernel_rfl
    exact(show Tryz.prog.wantsStandIn t=false by simpa using List.all_eq_true.1 hall t hm)⟩)
  (by kernel_rfl)
end Go.Proofs.YtiddnfpjgojoaaaGreatDoor
