/- The row and the card of BeginHands. -/
import Derived.Test.YtfmknfnfpeopeaaGreatDoorPlBhR
import Derived.Test.YtfmknfnfpeopeaaGreatDoorTw2toPlPx
import Derived.Test.YtfmknfnfpeopeaaGreatDoorTw2toPlPx
import Derived.Test.YtfmknfnfpeopeaaGreatDoorTw2toPlPx
import Derived.Test.YtfmknfnfpeopeaaGreatDoorTie
import Derived.Test.YtfmknfnfpeopeaaGreatDoorCards
namespace Go.Proofs.YtfmknfnfpeopeaaGreatDoor
open Go.ChangeShapes Go.WideShapes Go.ChangeAt Go.RowKit Go.PL Go.ChangeMaps
set_option linter.all false
theorem own:ownKnob Tryz.prog.godebug=none:=by kernel_rfl
theorem ji:laidOutB Tryz.prog=true:=by kernel_rfl
theorem og:Tryz.prog.globalNamed "internal/strconv.uint64pow10" =some 3:=by kernel_rfl
theorem oh:(Tryz.prog.globals[3]?).map (·.type)=some 261:=by kernel_rfl
theorem ol:Tryz.prog.cellsOf 261=20:=by kernel_rfl
theorem oM:Tryz.prog.cellsOf 22=1:=by kernel_rfl
theorem Yt {W:World} (h:laidMetH Tryz.prog Rows.beginHandsRow.laid W) (hsh:W.ShapedOpen Tryz.prog):I0 W:=by
 rw [MakeChecks.laidMetH_plain _ _ _ (by kernel_rfl)]at h
 have hp:=h.filter (fun x=>x.1== "internal/strconv.uint64pow10")
 exact⟨Lib.tabIs_of_head (rest:=[]) og oh Tryz.underlying261 Tryz.underlying22 oM ol hp,hsh⟩
theorem TX:(Rows.beginHandsRow.wf (OpenSpec.ofChange Rows.beginHandsSpec))=true:=by kernel_rfl
theorem TY:(laidOutB Tryz.prog)=true:=by kernel_rfl
theorem TZ:(mapsRowed Tryz.prog)=true:=by kernel_rfl
theorem T0:(Tryz.f3.params.all (Tryz.prog.readableRec ·))=true:=by kernel_rfl
theorem T1:(namedTie Tryz.prog Rows.beginHandsRow.named Rows.beginHandsSpec.vars)=true:=by kernel_rfl
theorem T3:((Rows.beginHandsRow.stops==[]))=true:=by kernel_rfl
theorem T4:((Tryz.prog.stops==[]))=true:=by kernel_rfl
theorem T5:((Rows.beginHandsRow.knobs==[]))=true:=by kernel_rfl
theorem T6:((Tryz.prog.stopKnobs==[]))=true:=by kernel_rfl
theorem T7:((Rows.beginHandsRow.inPlace==Tryz.prog.inPlace 3))=true:=by kernel_rfl
theorem SH:((Rows.beginHandsRow.unfollowed==Tryz.prog.unfollowed 3))=true:=by kernel_rfl
theorem SI:((Rows.beginHandsRow.recurses==Tryz.prog.recurses 3))=true:=by kernel_rfl
theorem SJ:((Rows.beginHandsRow.named==Tryz.prog.varsNamed 3))=true:=by kernel_rfl
theorem SK:((Rows.beginHandsRow.maps==(Tryz.f3.params.toList++Rows.beginHandsSpec.plain.varTypes Tryz.prog).any (Tryz.prog.mapsRec ·)))=true:=by kernel_rfl
theorem SL:((Rows.beginHandsRow.ifaces==(Tryz.f3.params.toList++Rows.beginHandsSpec.plain.varTypes Tryz.prog).any (Tryz.prog.ifacesRec ·)))=true:=by kernel_rfl
theorem SM:((Rows.beginHandsRow.mapsOut==Tryz.prog.mapsAmong Tryz.f3.resultTypes.toList))=true:=by kernel_rfl
theorem SN:((Rows.beginHandsRow.loops==(Tryz.f3.params.toList++Rows.beginHandsSpec.plain.varTypes Tryz.prog).any (Tryz.prog.loopsFrom ·)))=true:=by kernel_rfl
theorem SO:((Rows.beginHandsRow.wideKeys==(Tryz.f3.params.toList++Rows.beginHandsSpec.plain.varTypes Tryz.prog++Tryz.f3.resultTypes.toList).any (Tryz.prog.wideKeysFrom ·)))=true:=by kernel_rfl
theorem SP:(Rows.beginHandsSpec.vars.all (Tryz.prog.varReadable ·))=true:=by kernel_rfl
theorem SQ:(Tryz.f3.resultTypes.all (fun t=>Tryz.prog.readableRec t&&decide (t<Tryz.prog.types.size)))=true:=by kernel_rfl
theorem SR:((Rows.beginHandsRow.ifacesOut==Tryz.f3.resultTypes.toList.any (Tryz.prog.ifacesRec ·)))=true:=by kernel_rfl
theorem SS:((Rows.beginHandsRow.loopsOut==Tryz.f3.resultTypes.toList.any (Tryz.prog.loopsFrom ·)))=true:=by kernel_rfl
theorem SU:((Rows.beginHandsRow.plainKeys==Tryz.prog.plainKeys))=true:=by kernel_rfl
theorem SV:(Rows.beginHandsRow.shortTexts.isNone)=true:=by kernel_rfl
theorem SW:(Tryz.prog.stopsHeard)=true:=by kernel_rfl
theorem SX:(Tryz.prog.mayEnter)=true:=by kernel_rfl
theorem SY:((Rows.beginHandsRow.lifted==Tryz.prog.liftsFinal))=true:=by kernel_rfl
theorem SZ:((Tryz.prog.make==some Rows.beginHandsRow.make))=true:=by kernel_rfl
theorem S1:(Rows.beginHandsRow.domain.isEmpty&&(Rows.beginHandsRow.kinds==[]))=true:=by kernel_rfl
theorem S2:((Rows.beginHandsRow.pinned==Rows.beginHandsRow.pinnedBy))=true:=by kernel_rfl
theorem S3:((Rows.beginHandsRow.veiled==(Tryz.f3.params.toList++Rows.beginHandsSpec.plain.varTypes Tryz.prog++Tryz.f3.resultTypes.toList).any (Tryz.prog.veiledRec ·)))=true:=by kernel_rfl
theorem S4:(Rows.beginHandsRow.veiledFits Tryz.prog Tryz.f3.params.toList (Tryz.f3.params.toList++Rows.beginHandsSpec.plain.varTypes Tryz.prog++Tryz.f3.resultTypes.toList))=true:=by kernel_rfl
theorem M6:joinedFacts Tryz.prog 3 Tryz.f3 Rows.beginHandsSpec Rows.beginHandsRow=true:=dc TX TY TZ T0 T1 T3 T4 T5 T6 T7 SH SI SJ SK SL SM SN SO SP SQ SR SS SU SV SW SX SY SZ S1 S2 S3 S4
theorem T8:(Tryz.f3.params.toList.all fun t=>Tryz.prog.readableRec t&&decide (t<Tryz.prog.types.size))=true:=by kernel_rfl
set_option maxRecDepth 100000 in
theorem M7 (os:Os) (started:os.Started) (H:Type) (enc:TypeId×Value→H):
 ReturnsInHanded {} Tryz.checked os 3 .any (fun w args=>(Rows.beginHandsSpec.pre enc Tryz.prog Tryz.f3 [] false w args∧laidMetH Tryz.prog Rows.beginHandsRow.laid w)∧sizedMet enc Tryz.prog Tryz.f3 (OpenSpec.ofChange Rows.beginHandsSpec) false w args)
  (Rows.beginHandsSpec.post enc Tryz.prog Tryz.f3 false true false false):=by
 refine iR (C:=Tryz.checked) (X:=fun w _=>laidMetH Tryz.prog Rows.beginHandsRow.laid w) (fun _ _ _ hh h=>h.of_heap hh) own started (by kernel_rfl) Tryz.func3
  (ChangeSpec.witness_shaped (enc:=enc) (C:=Tryz.checked) (os:=os) (X:=fun w _=>laidMetH Tryz.prog Rows.beginHandsRow.laid w) false (World.laidAll Tryz.prog os Rows.beginHandsRow.laid) #[.int .i64 0, .int .i64 0, .int .u64 0] 8 (World.laidAll_os _ _ _)
   (World.shaped_of_ZipB (by kernel_rfl) (by kernel_rfl)) (by kernel_rfl) (by kernel_rfl) (by kernel_rfl)
   (by rw [MakeChecks.laidMetH_plain _ _ _ (by kernel_rfl)];exact laidMet_laidAll _ (by kernel_rfl) (by kernel_rfl))) ?_
 intro W base args ds gs before hval0 hW _ hS hL hsh _
 have hval: ∀ (j:Nat) t v,Tryz.f3.params[j]? =some t→args[j]? =some v→Value.okWide Tryz.prog W .any base t v:=hval0
 have hW':=hW
 obtain⟨p,q,hA0,hV,rfl,_,_⟩:=hW
 have hA:DataW.TrodAll enc Tryz.prog W 0 (fun _=>true) true Tryz.f3.params.toList args.toList ds p:=hA0
 have hA1:=hA
 obtain⟨rfl,rfl⟩:=trodVars_none hV
 simp only [List.append_nil]at hW'
 have hlt: ∀ x∈p,x.block<W.heap.size:=fun x hx=>by simpa using hW'.lt x hx
 rw [Tryz.params3]at hA hval
 obtain⟨v0,vs0,d0,ds0,p0,q0,hargs,rfl,rfl,h0,r0⟩:=trodAll_cons hA
 obtain⟨v1,vs1,d1,ds1,p1,q1,rfl,rfl,rfl,h1,r1⟩:=trodAll_cons r0
 obtain⟨v2,vs2,d2,ds2,p2,q2,rfl,rfl,rfl,h2,r2⟩:=trodAll_cons r1
 obtain⟨rfl,rfl,rfl⟩:=trodAll_nil r2
 obtain rfl:args= #[v0,v1,v2]:=by cases args;simp_all
 have hS1:(DataW.weightsEach Tryz.prog Tryz.f3.params.toList [d0,d1,d2]).all (· ≤reachBytes)=true:=hS
 rw [Tryz.params3]at hS1
 obtain⟨s0,hS1⟩:=LV hS1
 obtain⟨x0,ok0,R0⟩:=Wn 20 (by kernel_rfl) Tryz.underlying3 (hval 0 3 v0 rfl rfl) h0 s0
 obtain⟨s1,hS1⟩:=LV hS1
 obtain⟨x1,ok1,R1⟩:=Wn 20 (by kernel_rfl) Tryz.underlying3 (hval 1 3 v1 rfl rfl) h1 s1
 obtain⟨s2,hS1⟩:=LV hS1
 obtain⟨x2,ok2,R2⟩:=Wn 20 (by kernel_rfl) Tryz.underlying22 (hval 2 22 v2 rfl rfl) h2 s2
 refine(CC.law (KZ (SG x0 x1 x2)) (Yt hL hsh) (args:=_) (by simp only [Ap];exact⟨_,_,rfl,R0,⟨_,_,rfl,R1,⟨_,_,rfl,R2,rfl⟩⟩⟩)).mono fun e W' ⟨he,hb⟩=>?_
 subst he
 have hB:=K2 ji hb T8 hA1 hlt
 exact⟨_,rfl,_,_,_,[],_,[],hW',trodAll_mk1 (shut_bool Tryz.underlying4 _),hB,rfl,hb.frame _,fun h=>by cases h⟩
theorem Oe:Rows.BeginHandsSaid:=
 OpenClaim.holds_of_wide 3 Tryz.f3 rfl rfl rfl rfl rfl rfl rfl ⟨rfl,rfl,rfl,rfl,rfl⟩ rfl rfl rfl rfl rfl (by kernel_rfl) Tryz.func3 M6
  (of_decide_eq_true (by kernel_rfl)) (by unfold Func.isWrapper;first | (rw [if_pos (by decide+kernel)];kernel_rfl) | (rw [if_neg (by decide+kernel)];exact⟨rfl,rfl⟩))
  (fun os started H enc _=>M7 os started H enc)
theorem beginHands_card:Rows.BeginHandsCardSaid:=
 Claim7.holds_tied_plain_at .later [] _ _ _ _ Oe (fun _ h=>by cases h) (by kernel_rfl) (fun _ h=>by cases h) beginHands_row_tie rfl ⟨rfl,rfl⟩ (by kernel_rfl) rfl
  (fun f fn hf hfn=>by
   obtain rfl:f=3:=Option.some.inj ((show Tryz.prog.funcNamed "cardgame/cardgamelaw49.BeginHands" =some 3 by kernel_rfl).symm.trans hf) |>.symm
   obtain rfl:fn=Tryz.f3:=(Option.some.inj (Tryz.func3.symm.trans hfn)).symm
   exact⟨by kernel_rfl,fun j t ht=>by
    rw [Tryz.params3]at ht
    have hm:t∈[3,3,22]:=by simpa using Array.mem_of_getElem? ht
    have hall:([3,3,22].all fun u=> !Tryz.prog.wantsStandIn u)=true:=by kernel_rfl
    exact(show Tryz.prog.wantsStandIn t=false by simpa using List.all_eq_true.1 hall t hm)⟩)
  (by kernel_rfl)
end Go.Proofs.YtfmknfnfpeopeaaGreatDoor
