/- The row and the card of StateIs. -/
import Derived.Test.YtelbpfkjhndccaaGreatDoorPlScc
import Derived.Test.YtelbpfkjhndccaaGreatDoorPlSbD
import Derived.Test.YtelbpfkjhndccaaGreatDoorPlOtoPlPj
import Derived.Test.YtelbpfkjhndccaaGreatDoorPlPktoPlPx
import Derived.Test.YtelbpfkjhndccaaGreatDoorPlPktoPlPx
import Derived.Test.YtelbpfkjhndccaaGreatDoorTie
import Derived.Test.YtelbpfkjhndccaaGreatDoorCards
namespace Go.Proofs.YtelbpfkjhndccaaGreatDoor
open Go.ChangeShapes Go.WideShapes Go.ChangeAt Go.RowKit Go.PL Go.ChangeMaps
set_option linter.all false
theorem own:ownKnob Tryz.prog.godebug=none:=by kernel_rfl
theorem pn:laidOutB Tryz.prog=true:=by kernel_rfl
theorem uV:Tryz.prog.globalNamed "internal/strconv.uint64pow10" =some 3:=by kernel_rfl
theorem uW:(Tryz.prog.globals[3]?).map (·.type)=some 247:=by kernel_rfl
theorem uX:Tryz.prog.cellsOf 247=20:=by kernel_rfl
theorem vq:Tryz.prog.cellsOf 29=1:=by kernel_rfl
theorem tO:Tryz.prog.globalNamed "cardgame/counter.names" =some 0:=by kernel_rfl
theorem tP:(Tryz.prog.globals[0]?).map (·.type)=some 184:=by kernel_rfl
theorem tQ:Tryz.prog.cellsOf 184=3:=by kernel_rfl
theorem tR:Tryz.prog.cellsOf 9=1:=by kernel_rfl
theorem tS:Tryz.prog.globalNamed "cardgame/color.names" =some 1:=by kernel_rfl
theorem tT:(Tryz.prog.globals[1]?).map (·.type)=some 197:=by kernel_rfl
theorem tU:Tryz.prog.cellsOf 197=5:=by kernel_rfl
theorem tV:Tryz.prog.cellsOf 9=1:=by kernel_rfl
theorem dH {W:World} (h:laidMetH Tryz.prog Rows.stateIsRow.laid W) (hsh:W.ShapedOpen Tryz.prog):I0 W:=by
 rw [MakeChecks.laidMetH_plain _ _ _ (by kernel_rfl)]at h
 have hp:=h.filter (fun x=>x.1== "internal/strconv.uint64pow10")
 have h0:=h.filter (fun x=>x.1== "cardgame/counter.names")
 have h1:=h.filter (fun x=>x.1== "cardgame/color.names")
 exact⟨Lib.tabIs_of_head (rest:=[]) uV uW Tryz.underlying247 Tryz.underlying29 vq uX hp,hsh,SC (ss:=KY) (rest:=[]) tO tP Tryz.underlying184 Tryz.underlying9 tR tQ h0,SC (ss:=Et) (rest:=[]) tS tT Tryz.underlying197 Tryz.underlying9 tV tU h1⟩
theorem ni:Tryz.prog.bytesOf 270=176:=by kernel_rfl
theorem gm:(Rows.stateIsRow.wf (OpenSpec.ofChange Rows.stateIsSpec))=true:=by kernel_rfl
theorem gn:(laidOutB Tryz.prog)=true:=by kernel_rfl
theorem gp:(mapsRowed Tryz.prog)=true:=by kernel_rfl
theorem gq:(Tryz.f3.params.all (Tryz.prog.readableRec ·))=true:=by kernel_rfl
theorem gt:(namedTie Tryz.prog Rows.stateIsRow.named Rows.stateIsSpec.vars)=true:=by kernel_rfl
theorem gu:((Rows.stateIsRow.stops==[]))=true:=by kernel_rfl
theorem gw:((Tryz.prog.stops==[]))=true:=by kernel_rfl
theorem gx:((Rows.stateIsRow.knobs==[]))=true:=by kernel_rfl
theorem gy:((Tryz.prog.stopKnobs==[]))=true:=by kernel_rfl
theorem gz:((Rows.stateIsRow.inPlace==Tryz.prog.inPlace 3))=true:=by kernel_rfl
theorem dJ:((Rows.stateIsRow.unfollowed==Tryz.prog.unfollowed 3))=true:=by kernel_rfl
theorem dK:((Rows.stateIsRow.recurses==Tryz.prog.recurses 3))=true:=by kernel_rfl
theorem dM:((Rows.stateIsRow.named==Tryz.prog.varsNamed 3))=true:=by kernel_rfl
theorem dN:((Rows.stateIsRow.maps==(Tryz.f3.params.toList++Rows.stateIsSpec.plain.varTypes Tryz.prog).any (Tryz.prog.mapsRec ·)))=true:=by kernel_rfl
theorem dO:((Rows.stateIsRow.ifaces==(Tryz.f3.params.toList++Rows.stateIsSpec.plain.varTypes Tryz.prog).any (Tryz.prog.ifacesRec ·)))=true:=by kernel_rfl
theorem dP:((Rows.stateIsRow.mapsOut==Tryz.prog.mapsAmong Tryz.f3.resultTypes.toList))=true:=by kernel_rfl
theorem dQ:((Rows.stateIsRow.loops==(Tryz.f3.params.toList++Rows.stateIsSpec.plain.varTypes Tryz.prog).any (Tryz.prog.loopsFrom ·)))=true:=by kernel_rfl
theorem dR:((Rows.stateIsRow.wideKeys==(Tryz.f3.params.toList++Rows.stateIsSpec.plain.varTypes Tryz.prog++Tryz.f3.resultTypes.toList).any (Tryz.prog.wideKeysFrom ·)))=true:=by kernel_rfl
theorem dT:(Rows.stateIsSpec.vars.all (Tryz.prog.varReadable ·))=true:=by kernel_rfl
theorem dU:(Tryz.f3.resultTypes.all (fun t=>Tryz.prog.readableRec t&&decide (t<Tryz.prog.types.size)))=true:=by kernel_rfl
theorem dV:((Rows.stateIsRow.ifacesOut==Tryz.f3.resultTypes.toList.any (Tryz.prog.ifacesRec ·)))=true:=by kernel_rfl
theorem dW:((Rows.stateIsRow.loopsOut==Tryz.f3.resultTypes.toList.any (Tryz.prog.loopsFrom ·)))=true:=by kernel_rfl
theorem dX:((Rows.stateIsRow.plainKeys==Tryz.prog.plainKeys))=true:=by kernel_rfl
theorem dY:(Rows.stateIsRow.shortTexts.isNone)=true:=by kernel_rfl
theorem dZ:(Tryz.prog.stopsHeard)=true:=by kernel_rfl
theorem ec:(Tryz.prog.mayEnter)=true:=by kernel_rfl
theorem ed:((Rows.stateIsRow.lifted==Tryz.prog.liftsFinal))=true:=by kernel_rfl
theorem ee:((Tryz.prog.make==some Rows.stateIsRow.make))=true:=by kernel_rfl
theorem eg:(Rows.stateIsRow.domain.isEmpty&&(Rows.stateIsRow.kinds==[]))=true:=by kernel_rfl
theorem eh:((Rows.stateIsRow.pinned==Rows.stateIsRow.pinnedBy))=true:=by kernel_rfl
theorem ei:((Rows.stateIsRow.veiled==(Tryz.f3.params.toList++Rows.stateIsSpec.plain.varTypes Tryz.prog++Tryz.f3.resultTypes.toList).any (Tryz.prog.veiledRec ·)))=true:=by kernel_rfl
theorem ej:(Rows.stateIsRow.veiledFits Tryz.prog Tryz.f3.params.toList (Tryz.f3.params.toList++Rows.stateIsSpec.plain.varTypes Tryz.prog++Tryz.f3.resultTypes.toList))=true:=by kernel_rfl
theorem Xk:joinedFacts Tryz.prog 3 Tryz.f3 Rows.stateIsSpec Rows.stateIsRow=true:=jv gm gn gp gq gt gu gw gx gy gz dJ dK dM dN dO dP dQ dR dT dU dV dW dX dY dZ ec ed ee eg eh ei ej
theorem gB:(Tryz.f3.params.toList.all fun t=>Tryz.prog.readableRec t&&decide (t<Tryz.prog.types.size))=true:=by kernel_rfl
set_option maxRecDepth 100000 in
theorem Xl (os:Os) (started:os.Started) (H:Type) (enc:TypeId×Value→H):
 ReturnsInHanded {} Tryz.checked os 3 .any (fun w args=>(Rows.stateIsSpec.pre enc Tryz.prog Tryz.f3 [] false w args∧laidMetH Tryz.prog Rows.stateIsRow.laid w)∧sizedMet enc Tryz.prog Tryz.f3 (OpenSpec.ofChange Rows.stateIsSpec) false w args)
  (Rows.stateIsSpec.post enc Tryz.prog Tryz.f3 false true false false):=by
 refine nV (C:=Tryz.checked) (X:=fun w _=>laidMetH Tryz.prog Rows.stateIsRow.laid w) (fun _ _ _ hh h=>h.of_heap hh) own started (by kernel_rfl) Tryz.func3
  (ChangeSpec.witness_shaped (enc:=enc) (C:=Tryz.checked) (os:=os) (X:=fun w _=>laidMetH Tryz.prog Rows.stateIsRow.laid w) false (World.laidAll Tryz.prog os Rows.stateIsRow.laid) #[.slice none 0 0, .agg #[.slice none 0 0, .slice none 0 0, .slice none 0 0, .slice none 0 0, .slice none 0 0, .slice none 0 0, .slice none 0 0, .int .i64 0, .int .i64 0, .int .i64 0, .bool false, .int .i64 0, .int .i64 0, .int .i64 0, .int .i64 0, .int .u64 0, .slice none 0 0, .int .i64 0, .int .i64 0]] 8 (World.laidAll_os _ _ _)
   (World.shaped_of_ZipB (by kernel_rfl) (by kernel_rfl)) (by kernel_rfl) (by kernel_rfl) (by kernel_rfl)
   (by rw [MakeChecks.laidMetH_plain _ _ _ (by kernel_rfl)];exact laidMet_laidAll _ (by kernel_rfl) (by kernel_rfl))) ?_
 intro W base args ds gs before hval0 hW _ hS hL hsh _
 have hval: ∀ (j:Nat) t v,Tryz.f3.params[j]? =some t→args[j]? =some v→Value.okWide Tryz.prog W .any base t v:=hval0
 have hW':=hW
 obtain⟨p,q,hA0,hV,rfl,_,_⟩:=hW
 have hA:DataW.TrodAll enc Tryz.prog W 0 (fun _=>true) true Tryz.f3.params.toList args.toList ds p:=hA0
 have hA1:=hA
 obtain⟨rfl,rfl⟩:=trodVars_none hV
 simp only [List.append_nil]at hW'
 have hlt: ∀ x∈p,x.block<W.heap.size:=fun x hx=>by simpa using hW'.lt x hx
 rw [Tryz.params3]at hA hval
 obtain⟨v0,vs0,d0,ds0,p0,q0,hargs,rfl,rfl,h0,r0⟩:=trodAll_cons hA
 obtain⟨v1,vs1,d1,ds1,p1,q1,rfl,rfl,rfl,h1,r1⟩:=trodAll_cons r0
 obtain⟨rfl,rfl,rfl⟩:=trodAll_nil r1
 obtain rfl:args= #[v0,v1]:=by cases args;simp_all
 have hS1:(DataW.weightsEach Tryz.prog Tryz.f3.params.toList [d0,d1]).all (· ≤reachBytes)=true:=hS
 rw [Tryz.params3]at hS1
 obtain⟨s0,hS1⟩:=Wa hS1
 obtain⟨x0,ok0,R0⟩:=qJ (e:=G9) 20 (by kernel_rfl) Tryz.underlying22 (dL Tryz.underlying22 ni mQ) (hval 0 22 v0 rfl rfl) h0 s0
 obtain⟨s1,hS1⟩:=Wa hS1
 obtain⟨x1,ok1,R1⟩:=nM (e:=Aj) 20 (by kernel_rfl) Tryz.underlying31 ke (hval 1 31 v1 rfl rfl) h1 s1
 refine(Af.law (T4 (dG ok1)) (dH hL hsh) (args:=_) (by simp only [Bf];exact⟨_,_,rfl,R0,⟨_,_,rfl,R1,rfl⟩⟩)).mono fun e W' ⟨he,hb⟩=>?_
 subst he
 have hB:=Rs pn hb gB hA1 hlt
 exact⟨_,rfl,_,_,_,[],_,[],hW',trodAll_mk1 (shut_bool Tryz.underlying4 _),hB,rfl,hb.frame _,fun h=>by cases h⟩
theorem XU:Rows.StateIsSaid:=
 OpenClaim.holds_of_wide 3 Tryz.f3 rfl rfl rfl rfl rfl rfl rfl ⟨rfl,rfl,rfl,rfl,rfl⟩ rfl rfl rfl rfl rfl (by kernel_rfl) Tryz.func3 Xk
  (of_decide_eq_true (by kernel_rfl)) (by unfold Func.isWrapper;first | (rw [if_pos (by decide+kernel)];kernel_rfl) | (rw [if_neg (by decide+kernel)];exact⟨rfl,rfl⟩))
  (fun os started H enc _=>Xl os started H enc)
theorem stateIs_card:Rows.StateIsCardSaid:=
 Claim7.holds_tied_plain_at .later [] _ _ _ _ XU (fun _ h=>by cases h) (by kernel_rfl) (fun _ h=>by cases h) stateIs_row_tie rfl ⟨rfl,rfl⟩ (by kernel_rfl) rfl
  (fun f fn hf hfn=>by
   obtain rfl:f=3:=Option.some.inj ((show Tryz.prog.funcNamed "cardgame/cardgamelaw26.StateIs" =some 3 by kernel_rfl).symm.trans hf) |>.symm
   obtain rfl:fn=Tryz.f3:=(Option.some.inj (Tryz.func3.symm.trans hfn)).symm
   exact⟨by kernel_rfl,fun j t ht=>by
    rw [Tryz.params3]at ht
    have hm:t∈[22,31]:=by simpa using Array.mem_of_getElem? ht
    have hall:([22,31].all fun u=> !Tryz.prog.wantsStandIn u)=true:=by kernel_rfl
    exact(show Tryz.prog.wantsStandIn t=false by simpa using List.all_eq_true.1 hall t hm)⟩)
  (by kernel_rfl)
end Go.Proofs.YtelbpfkjhndccaaGreatDoor
