/- The row and the card of StateLimits. -/
import Derived.Test.YtelbpfkjhndccaaGreatDoorPlSce
import Derived.Test.YtelbpfkjhndccaaGreatDoorPlSbD
import Derived.Test.YtelbpfkjhndccaaGreatDoorPlOtoPlPj
import Derived.Test.YtelbpfkjhndccaaGreatDoorPlPktoPlPx
import Derived.Test.YtelbpfkjhndccaaGreatDoorPlPktoPlPx
import Derived.Test.YtelbpfkjhndccaaGreatDoorTie
import Derived.Test.YtelbpfkjhndccaaGreatDoorCards
namespace Go.Proofs.YtelbpfkjhndccaaGreatDoor
open Go.ChangeShapes Go.WideShapes Go.ChangeAt Go.RowKit Go.PL Go.ChangeMaps
set_option linter.all false
theorem own:ownKnob Tryz.prog.godebug=none:=by kernel_rfl
theorem jf:laidOutB Tryz.prog=true:=by kernel_rfl
theorem pm:Tryz.prog.globalNamed "internal/strconv.uint64pow10" =some 3:=by kernel_rfl
theorem pn:(Tryz.prog.globals[3]?).map (·.type)=some 247:=by kernel_rfl
theorem po:Tryz.prog.cellsOf 247=20:=by kernel_rfl
theorem pT:Tryz.prog.cellsOf 29=1:=by kernel_rfl
theorem nU:Tryz.prog.globalNamed "cardgame/counter.names" =some 0:=by kernel_rfl
theorem nV:(Tryz.prog.globals[0]?).map (·.type)=some 184:=by kernel_rfl
theorem nW:Tryz.prog.cellsOf 184=3:=by kernel_rfl
theorem nX:Tryz.prog.cellsOf 9=1:=by kernel_rfl
theorem nY:Tryz.prog.globalNamed "cardgame/color.names" =some 1:=by kernel_rfl
theorem nZ:(Tryz.prog.globals[1]?).map (·.type)=some 197:=by kernel_rfl
theorem oa:Tryz.prog.cellsOf 197=5:=by kernel_rfl
theorem ob:Tryz.prog.cellsOf 9=1:=by kernel_rfl
theorem ZI {W:World} (h:laidMetH Tryz.prog Rows.stateLimitsRow.laid W) (hsh:W.ShapedOpen Tryz.prog):I0 W:=by
 rw [MakeChecks.laidMetH_plain _ _ _ (by kernel_rfl)]at h
 have hp:=h.filter (fun x=>x.1== "internal/strconv.uint64pow10")
 have h0:=h.filter (fun x=>x.1== "cardgame/counter.names")
 have h1:=h.filter (fun x=>x.1== "cardgame/color.names")
 exact⟨Lib.tabIs_of_head (rest:=[]) pm pn Tryz.underlying247 Tryz.underlying29 pT po hp,hsh,PI (ss:=I7) (rest:=[]) nU nV Tryz.underlying184 Tryz.underlying9 nX nW h0,PI (ss:=Ee) (rest:=[]) nY nZ Tryz.underlying197 Tryz.underlying9 ob oa h1⟩
theorem gw:Tryz.prog.bytesOf 270=176:=by kernel_rfl
theorem UY:(Rows.stateLimitsRow.wf (OpenSpec.ofChange Rows.stateLimitsSpec))=true:=by kernel_rfl
theorem UZ:(laidOutB Tryz.prog)=true:=by kernel_rfl
theorem U0:(mapsRowed Tryz.prog)=true:=by kernel_rfl
theorem U1:(Tryz.f4.params.all (Tryz.prog.readableRec ·))=true:=by kernel_rfl
theorem U2:(namedTie Tryz.prog Rows.stateLimitsRow.named Rows.stateLimitsSpec.vars)=true:=by kernel_rfl
theorem U3:((Rows.stateLimitsRow.stops==[]))=true:=by kernel_rfl
theorem U4:((Tryz.prog.stops==[]))=true:=by kernel_rfl
theorem U5:((Rows.stateLimitsRow.knobs==[]))=true:=by kernel_rfl
theorem U6:((Tryz.prog.stopKnobs==[]))=true:=by kernel_rfl
theorem U7:((Rows.stateLimitsRow.inPlace==Tryz.prog.inPlace 4))=true:=by kernel_rfl
theorem Sv:((Rows.stateLimitsRow.unfollowed==Tryz.prog.unfollowed 4))=true:=by kernel_rfl
theorem Sw:((Rows.stateLimitsRow.recurses==Tryz.prog.recurses 4))=true:=by kernel_rfl
theorem Sx:((Rows.stateLimitsRow.named==Tryz.prog.varsNamed 4))=true:=by kernel_rfl
theorem SA:((Rows.stateLimitsRow.maps==(Tryz.f4.params.toList++Rows.stateLimitsSpec.plain.varTypes Tryz.prog).any (Tryz.prog.mapsRec ·)))=true:=by kernel_rfl
theorem SB:((Rows.stateLimitsRow.ifaces==(Tryz.f4.params.toList++Rows.stateLimitsSpec.plain.varTypes Tryz.prog).any (Tryz.prog.ifacesRec ·)))=true:=by kernel_rfl
theorem SC:((Rows.stateLimitsRow.mapsOut==Tryz.prog.mapsAmong Tryz.f4.resultTypes.toList))=true:=by kernel_rfl
theorem SD:((Rows.stateLimitsRow.loops==(Tryz.f4.params.toList++Rows.stateLimitsSpec.plain.varTypes Tryz.prog).any (Tryz.prog.loopsFrom ·)))=true:=by kernel_rfl
theorem SE:((Rows.stateLimitsRow.wideKeys==(Tryz.f4.params.toList++Rows.stateLimitsSpec.plain.varTypes Tryz.prog++Tryz.f4.resultTypes.toList).any (Tryz.prog.wideKeysFrom ·)))=true:=by kernel_rfl
theorem SF:(Rows.stateLimitsSpec.vars.all (Tryz.prog.varReadable ·))=true:=by kernel_rfl
theorem SG:(Tryz.f4.resultTypes.all (fun t=>Tryz.prog.readableRec t&&decide (t<Tryz.prog.types.size)))=true:=by kernel_rfl
theorem SH:((Rows.stateLimitsRow.ifacesOut==Tryz.f4.resultTypes.toList.any (Tryz.prog.ifacesRec ·)))=true:=by kernel_rfl
theorem SI:((Rows.stateLimitsRow.loopsOut==Tryz.f4.resultTypes.toList.any (Tryz.prog.loopsFrom ·)))=true:=by kernel_rfl
theorem SJ:((Rows.stateLimitsRow.plainKeys==Tryz.prog.plainKeys))=true:=by kernel_rfl
theorem SK:(Rows.stateLimitsRow.shortTexts.isNone)=true:=by kernel_rfl
theorem SN:(Tryz.prog.stopsHeard)=true:=by kernel_rfl
theorem SO:(Tryz.prog.mayEnter)=true:=by kernel_rfl
theorem SP:((Rows.stateLimitsRow.lifted==Tryz.prog.liftsFinal))=true:=by kernel_rfl
theorem SQ:((Tryz.prog.make==some Rows.stateLimitsRow.make))=true:=by kernel_rfl
theorem SR:(Rows.stateLimitsRow.domain.isEmpty&&(Rows.stateLimitsRow.kinds==[]))=true:=by kernel_rfl
theorem SS:((Rows.stateLimitsRow.pinned==Rows.stateLimitsRow.pinnedBy))=true:=by kernel_rfl
theorem ST:((Rows.stateLimitsRow.veiled==(Tryz.f4.params.toList++Rows.stateLimitsSpec.plain.varTypes Tryz.prog++Tryz.f4.resultTypes.toList).any (Tryz.prog.veiledRec ·)))=true:=by kernel_rfl
theorem SU:(Rows.stateLimitsRow.veiledFits Tryz.prog Tryz.f4.params.toList (Tryz.f4.params.toList++Rows.stateLimitsSpec.plain.varTypes Tryz.prog++Tryz.f4.resultTypes.toList))=true:=by kernel_rfl
theorem Ph:joinedFacts Tryz.prog 4 Tryz.f4 Rows.stateLimitsSpec Rows.stateLimitsRow=true:=dl UY UZ U0 U1 U2 U3 U4 U5 U6 U7 Sv Sw Sx SA SB SC SD SE SF SG SH SI SJ SK SN SO SP SQ SR SS ST SU
theorem U8:(Tryz.f4.params.toList.all fun t=>Tryz.prog.readableRec t&&decide (t<Tryz.prog.types.size))=true:=by kernel_rfl
set_option maxRecDepth 100000 in
theorem Pi (os:Os) (started:os.Started) (H:Type) (enc:TypeId×Value→H):
 ReturnsInHanded {} Tryz.checked os 4 .any (fun w args=>(Rows.stateLimitsSpec.pre enc Tryz.prog Tryz.f4 [] false w args∧laidMetH Tryz.prog Rows.stateLimitsRow.laid w)∧sizedMet enc Tryz.prog Tryz.f4 (OpenSpec.ofChange Rows.stateLimitsSpec) false w args)
  (Rows.stateLimitsSpec.post enc Tryz.prog Tryz.f4 false true false false):=by
 refine gZ (C:=Tryz.checked) (X:=fun w _=>laidMetH Tryz.prog Rows.stateLimitsRow.laid w) (fun _ _ _ hh h=>h.of_heap hh) own started (by kernel_rfl) Tryz.func4
  (ChangeSpec.witness_shaped (enc:=enc) (C:=Tryz.checked) (os:=os) (X:=fun w _=>laidMetH Tryz.prog Rows.stateLimitsRow.laid w) false (World.laidAll Tryz.prog os Rows.stateLimitsRow.laid) #[.slice none 0 0, .agg #[.int .i64 0, .int .i64 0, .int .i64 0, .int .i64 0, .int .i64 0, .bool false, .int .i64 0, .int .i64 0, .int .i64 0, .int .i64 0, .int .i64 0, .int .i64 0, .int .i64 0, .int .i64 0, .string ⟨#[]⟩, .int .i64 0, .int .i64 0, .int .i64 0, .int .i64 0, .int .i64 0, .int .i64 0, .int .i64 0, .int .i64 0, .slice none 0 0, .int .i64 0, .int .i64 0, .int .i64 0, .int .i64 0, .int .i64 0, .int .i64 0, .int .i64 0, .bool false, .bool false, .int .i64 0, .bool false, .int .i64 0, .int .i64 0, .int .i64 0, .int .i64 0, .int .i64 0, .int .i64 0, .int .i64 0, .int .i64 0, .int .i64 0, .string ⟨#[]⟩, .int .i64 0, .int .i64 0, .int .i64 0, .int .i64 0, .int .i64 0, .int .i64 0, .int .i64 0, .int .i64 0, .bool false, .slice none 0 0, .slice none 0 0, .int .i64 0, .int .i64 0, .int .i64 0, .int .i64 0, .int .i64 0, .int .i64 0, .int .i64 0, .int .i64 0, .int .i64 0, .string ⟨#[]⟩, .int .i64 0, .int .i64 0, .int .i64 0, .int .i64 0, .int .i64 0, .int .i64 0, .int .i64 0, .int .i64 0, .int .i64 0, .int .i64 0, .int .i64 0, .int .i64 0, .slice none 0 0, .int .i64 0, .int .i64 0, .int .i64 0, .int .i64 0, .int .i64 0, .int .i64 0, .int .i64 0, .int .i64 0, .int .i64 0, .int .i64 0, .bool false, .bool false, .int .i64 0, .int .i64 0, .int .i64 0, .int .i64 0, .int .i64 0, .int .i64 0, .int .i64 0, .int .i64 0, .int .i64 0, .int .i64 0, .int .i64 0, .int .i64 0, .int .i64 0, .string ⟨#[]⟩, .int .i64 0, .int .i64 0, .int .i64 0, .int .i64 0, .int .i64 0, .int .i64 0, .int .i64 0, .int .i64 0, .slice none 0 0, .int .i64 0, .int .i64 0, .int .i64 0, .int .i64 0, .int .i64 0, .int .i64 0, .int .i64 0, .bool false, .bool false, .int .i64 0, .bool false, .int .i64 0, .int .i64 0, .int .i64 0, .int .i64 0, .int .i64 0, .int .i64 0, .int .i64 0, .int .i64 0, .int .i64 0, .string ⟨#[]⟩, .int .i64 0, .int .i64 0, .int .i64 0, .int .i64 0, .int .i64 0, .int .i64 0, .int .i64 0, .int .i64 0, .bool false, .slice none 0 0, .slice none 0 0, .int .i64 0, .int .i64 0, .int .i64 0, .int .i64 0, .int .i64 0, .int .i64 0, .int .i64 0, .int .i64 0, .int .i64 0, .string ⟨#[]⟩, .int .i64 0, .int .i64 0, .int .i64 0, .int .i64 0, .int .i64 0, .int .i64 0, .int .i64 0, .int .i64 0, .int .i64 0, .int .i64 0, .int .i64 0, .int .i64 0, .int .i64 0, .int .i64 0, .int .i64 0, .int .i64 0, .int .i64 0, .int .i64 0, .int .i64 0, .int .i64 0, .int .i64 0, .int .i64 0, .bool false, .bool false, .int .i64 0, .int .i64 0, .int .i64 0, .int .i64 0, .int .i64 0, .int .i64 0, .int .i64 0, .slice none 0 0, .slice none 0 0, .int .i64 0, .int .i64 0, .int .i64 0, .int .i64 0, .int .i64 0, .bool false, .bool false, .bool false, .bool false, .int .i64 0, .int .i64 0, .int .i64 0, .int .i64 0, .int .i64 0, .int .i64 0, .int .i64 0, .bool false, .int .i64 0, .int .i64 0], .int .u8 0] 8 (World.laidAll_os _ _ _)
   (World.shaped_of_ZipB (by kernel_rfl) (by kernel_rfl)) (by kernel_rfl) (by kernel_rfl) (by kernel_rfl)
   (by rw [MakeChecks.laidMetH_plain _ _ _ (by kernel_rfl)];exact laidMet_laidAll _ (by kernel_rfl) (by kernel_rfl))) ?_
 intro W base args ds gs before hval0 hW _ hS hL hsh _
 have hval: ∀ (j:Nat) t v,Tryz.f4.params[j]? =some t→args[j]? =some v→Value.okWide Tryz.prog W .any base t v:=hval0
 have hW':=hW
 obtain⟨p,q,hA0,hV,rfl,_,_⟩:=hW
 have hA:DataW.TrodAll enc Tryz.prog W 0 (fun _=>true) true Tryz.f4.params.toList args.toList ds p:=hA0
 have hA1:=hA
 obtain⟨rfl,rfl⟩:=trodVars_none hV
 simp only [List.append_nil]at hW'
 have hlt: ∀ x∈p,x.block<W.heap.size:=fun x hx=>by simpa using hW'.lt x hx
 rw [Tryz.params4]at hA hval
 obtain⟨v0,vs0,d0,ds0,p0,q0,hargs,rfl,rfl,h0,r0⟩:=trodAll_cons hA
 obtain⟨v1,vs1,d1,ds1,p1,q1,rfl,rfl,rfl,h1,r1⟩:=trodAll_cons r0
 obtain⟨v2,vs2,d2,ds2,p2,q2,rfl,rfl,rfl,h2,r2⟩:=trodAll_cons r1
 obtain⟨rfl,rfl,rfl⟩:=trodAll_nil r2
 obtain rfl:args= #[v0,v1,v2]:=by cases args;simp_all
 have hS1:(DataW.weightsEach Tryz.prog Tryz.f4.params.toList [d0,d1,d2]).all (· ≤reachBytes)=true:=hS
 rw [Tryz.params4]at hS1
 obtain⟨s0,hS1⟩:=OZ hS1
 obtain⟨x0,ok0,R0⟩:=kr (e:=JD) 20 (by kernel_rfl) Tryz.underlying22 (dL Tryz.underlying22 gw f7) (hval 0 22 v0 rfl rfl) h0 s0
 obtain⟨s1,hS1⟩:=OZ hS1
 obtain⟨x1,ok1,R1⟩:=gR (e:=Eg) 20 (by kernel_rfl) Tryz.underlying65 ga (hval 1 65 v1 rfl rfl) h1 s1
 obtain⟨s2,hS1⟩:=OZ hS1
 obtain⟨x2,ok2,R2⟩:=gS 20 (by kernel_rfl) Tryz.underlying5 (hval 2 5 v2 rfl rfl) h2 s2
 refine(Ah.law (NU (Su ok1 ok2)) (ZI hL hsh) (args:=_) (by simp only [Bc];exact⟨_,_,rfl,R0,⟨_,_,rfl,R1,⟨_,_,rfl,R2,rfl⟩⟩⟩)).mono fun e W' ⟨he,hb⟩=>?_
 subst he
 have hB:=OB jf hb U8 hA1 hlt
 exact⟨_,rfl,_,_,_,[],_,[],hW',trodAll_mk1 (shut_bool Tryz.underlying4 _),hB,rfl,hb.frame _,fun h=>by cases h⟩
theorem Qz:Rows.StateLimitsSaid:=
 OpenClaim.holds_of_wide 4 Tryz.f4 rfl rfl rfl rfl rfl rfl rfl ⟨rfl,rfl,rfl,rfl,rfl⟩ rfl rfl rfl rfl rfl (by kernel_rfl) Tryz.func4 Ph
  (of_decide_eq_true (by kernel_rfl)) (by unfold Func.isWrapper;first | (rw [if_pos (by decide+kernel)];kernel_rfl) | (rw [if_neg (by decide+kernel)];exact⟨rfl,rfl⟩))
  (fun os started H enc _=>Pi os started H enc)
theorem stateLimits_card:Rows.StateLimitsCardSaid:=
 Claim7.holds_tied_plain_at .later [] _ _ _ _ Qz (fun _ h=>by cases h) (by kernel_rfl) (fun _ h=>by cases h) stateLimits_row_tie rfl ⟨rfl,rfl⟩ (by kernel_rfl) rfl
  (fun f fn hf hfn=>by
   obtain rfl:f=4:=Option.some.inj ((show Tryz.prog.funcNamed "cardgame/cardgamelaw26.StateLimits" =some 4 by kernel_rfl).symm.trans hf) |>.symm
   obtain rfl:fn=Tryz.f4:=(Option.some.inj (Tryz.func4.symm.trans hfn)).symm
   exact⟨by kernel_rfl,fun j t ht=>by
    rw [Tryz.params4]at ht
    have hm:t∈[22,65,5]:=by simpa using Array.mem_of_getElem? ht
    have hall:([22,65,5].all fun u=> !Tryz.prog.wantsStandIn u)=true:=by kernel_rfl
    exact(show Tryz.prog.wantsStandIn t=false by simpa using List.all_eq_true.1 hall t hm)⟩)
  (by kernel_rfl)
end Go.Proofs.YtelbpfkjhndccaaGreatDoor
