/- The row and the card of BeginErrors. -/
import Derived.Test.YtenjiecnhncfiaaGreatDoorPlClb
import Derived.Test.YtenjiecnhncfiaaGreatDoorPlClc
import Derived.Test.YtenjiecnhncfiaaGreatDoorPlBeD
import Derived.Test.YtenjiecnhncfiaaGreatDoorTuatoPlPc
import Derived.Test.YtenjiecnhncfiaaGreatDoorPlPltoPlPx
import Derived.Test.YtenjiecnhncfiaaGreatDoorPlPltoPlPx
import Derived.Test.YtenjiecnhncfiaaGreatDoorTie
import Derived.Test.YtenjiecnhncfiaaGreatDoorCards
namespace Go.Proofs.YtenjiecnhncfiaaGreatDoor
open Go.ChangeShapes Go.WideShapes Go.ChangeAt Go.RowKit Go.PL Go.ChangeMaps
set_option linter.all false
theorem own:ownKnob Tryz.prog.godebug=none:=by kernel_rfl
theorem AbZ:laidOutB Tryz.prog=true:=by kernel_rfl
theorem Ah5:Tryz.prog.globalNamed "internal/strconv.uint64pow10" =some 3:=by kernel_rfl
theorem Ah6:(Tryz.prog.globals[3]?).map (·.type)=some 281:=by kernel_rfl
theorem Ah7:Tryz.prog.cellsOf 281=20:=by kernel_rfl
theorem cPe:Tryz.prog.cellsOf 24=1:=by kernel_rfl
theorem AgV:Tryz.prog.globalNamed "cardgame/counter.names" =some 0:=by kernel_rfl
theorem AgW:(Tryz.prog.globals[0]?).map (·.type)=some 237:=by kernel_rfl
theorem AgX:Tryz.prog.cellsOf 237=3:=by kernel_rfl
theorem AgY:Tryz.prog.cellsOf 9=1:=by kernel_rfl
theorem AgZ:Tryz.prog.globalNamed "cardgame/color.names" =some 2:=by kernel_rfl
theorem Ag0:(Tryz.prog.globals[2]?).map (·.type)=some 249:=by kernel_rfl
theorem Ag1:Tryz.prog.cellsOf 249=5:=by kernel_rfl
theorem Ag2:Tryz.prog.cellsOf 9=1:=by kernel_rfl
theorem oA {W:World} (h:laidMetH Tryz.prog Rows.beginErrorsRow.laid W) (hsh:W.ShapedOpen Tryz.prog):I0 W:=by rw [MakeChecks.laidMetH_plain _ _ _ (by kernel_rfl)]at h;have hp:=h.filter (fun x=>x.1== "internal/strconv.uint64pow10");have h0:=h.filter (fun x=>x.1== "cardgame/counter.names");have h1:=h.filter (fun x=>x.1== "cardgame/color.names");exact⟨Lib.tabIs_of_head (rest:=[]) Ah5 Ah6 Tryz.underlying281 Tryz.underlying24 cPe Ah7 hp,hsh,SS (ss:=Hs) (rest:=[]) AgV AgW Tryz.underlying237 Tryz.underlying9 AgY AgX h0,SS (ss:=Eu) (rest:=[]) AgZ Ag0 Tryz.underlying249 Tryz.underlying9 Ag2 Ag1 h1⟩
theorem cZ:(Rows.beginErrorsRow.wf (OpenSpec.ofChange Rows.beginErrorsSpec))=true:=by kernel_rfl
theorem c9:(laidOutB Tryz.prog)=true:=by kernel_rfl
theorem da:(mapsRowed Tryz.prog)=true:=by kernel_rfl
theorem db:(Tryz.f4.params.all (Tryz.prog.readableRec ·))=true:=by kernel_rfl
theorem dc:(namedTie Tryz.prog Rows.beginErrorsRow.named Rows.beginErrorsSpec.vars)=true:=by kernel_rfl
theorem de:((Rows.beginErrorsRow.stops==[]))=true:=by kernel_rfl
theorem df:((Tryz.prog.stops==[]))=true:=by kernel_rfl
theorem dg:((Rows.beginErrorsRow.knobs==[]))=true:=by kernel_rfl
theorem dh:((Tryz.prog.stopKnobs==[]))=true:=by kernel_rfl
theorem di:((Rows.beginErrorsRow.inPlace==Tryz.prog.inPlace 4))=true:=by kernel_rfl
theorem X7:((Rows.beginErrorsRow.unfollowed==Tryz.prog.unfollowed 4))=true:=by kernel_rfl
theorem X8:((Rows.beginErrorsRow.recurses==Tryz.prog.recurses 4))=true:=by kernel_rfl
theorem X9:((Rows.beginErrorsRow.named==Tryz.prog.varsNamed 4))=true:=by kernel_rfl
theorem Ya:((Rows.beginErrorsRow.maps==(Tryz.f4.params.toList++Rows.beginErrorsSpec.plain.varTypes Tryz.prog).any (Tryz.prog.mapsRec ·)))=true:=by kernel_rfl
theorem Yb:((Rows.beginErrorsRow.ifaces==(Tryz.f4.params.toList++Rows.beginErrorsSpec.plain.varTypes Tryz.prog).any (Tryz.prog.ifacesRec ·)))=true:=by kernel_rfl
theorem Yc:((Rows.beginErrorsRow.mapsOut==Tryz.prog.mapsAmong Tryz.f4.resultTypes.toList))=true:=by kernel_rfl
theorem Yd:((Rows.beginErrorsRow.loops==(Tryz.f4.params.toList++Rows.beginErrorsSpec.plain.varTypes Tryz.prog).any (Tryz.prog.loopsFrom ·)))=true:=by kernel_rfl
theorem Ye:((Rows.beginErrorsRow.wideKeys==(Tryz.f4.params.toList++Rows.beginErrorsSpec.plain.varTypes Tryz.prog++Tryz.f4.resultTypes.toList).any (Tryz.prog.wideKeysFrom ·)))=true:=by kernel_rfl
theorem Yf:(Rows.beginErrorsSpec.vars.all (Tryz.prog.varReadable ·))=true:=by kernel_rfl
theorem Yg:(Tryz.f4.resultTypes.all (fun t=>Tryz.prog.readableRec t&&decide (t<Tryz.prog.types.size)))=true:=by kernel_rfl
theorem Yh:((Rows.beginErrorsRow.ifacesOut==Tryz.f4.resultTypes.toList.any (Tryz.prog.ifacesRec ·)))=true:=by kernel_rfl
theorem Yi:((Rows.beginErrorsRow.loopsOut==Tryz.f4.resultTypes.toList.any (Tryz.prog.loopsFrom ·)))=true:=by kernel_rfl
theorem Yj:((Rows.beginErrorsRow.plainKeys==Tryz.prog.plainKeys))=true:=by kernel_rfl
theorem Yk:(Rows.beginErrorsRow.shortTexts.isNone)=true:=by kernel_rfl
theorem Ym:(Tryz.prog.stopsHeard)=true:=by kernel_rfl
theorem Yn:(Tryz.prog.mayEnter)=true:=by kernel_rfl
theorem Yo:((Rows.beginErrorsRow.lifted==Tryz.prog.liftsFinal))=true:=by kernel_rfl
theorem Yp:((Tryz.prog.make==some Rows.beginErrorsRow.make))=true:=by kernel_rfl
theorem Yq:(Rows.beginErrorsRow.domain.isEmpty&&(Rows.beginErrorsRow.kinds==[]))=true:=by kernel_rfl
theorem Yr:((Rows.beginErrorsRow.pinned==Rows.beginErrorsRow.pinnedBy))=true:=by kernel_rfl
theorem Ys:((Rows.beginErrorsRow.veiled==(Tryz.f4.params.toList++Rows.beginErrorsSpec.plain.varTypes Tryz.prog++Tryz.f4.resultTypes.toList).any (Tryz.prog.veiledRec ·)))=true:=by kernel_rfl
theorem Yt:(Rows.beginErrorsRow.veiledFits Tryz.prog Tryz.f4.params.toList (Tryz.f4.params.toList++Rows.beginErrorsSpec.plain.varTypes Tryz.prog++Tryz.f4.resultTypes.toList))=true:=by kernel_rfl
theorem RY:joinedFacts Tryz.prog 4 Tryz.f4 Rows.beginErrorsSpec Rows.beginErrorsRow=true:=uT cZ c9 da db dc de df dg dh di X7 X8 X9 Ya Yb Yc Yd Ye Yf Yg Yh Yi Yj Yk Ym Yn Yo Yp Yq Yr Ys Yt
theorem dj:(Tryz.f4.params.toList.all fun t=>Tryz.prog.readableRec t&&decide (t<Tryz.prog.types.size))=true:=by kernel_rfl
set_option maxRecDepth 100000 in
theorem RZ (os:Os) (started:os.Started) (H:Type) (enc:TypeId×Value->H):
 ReturnsInHanded {} Tryz.checked os 4 .any (fun w args=>(Rows.beginErrorsSpec.pre enc Tryz.prog Tryz.f4 [] false w args/\laidMetH Tryz.prog Rows.beginErrorsRow.laid w)/\sizedMet enc Tryz.prog Tryz.f4 (OpenSpec.ofChange Rows.beginErrorsSpec) false w args)
  (Rows.beginErrorsSpec.post enc Tryz.prog Tryz.f4 false true false false):=by
 refine AaR (C:=Tryz.checked) (X:=fun w _=>laidMetH Tryz.prog Rows.beginErrorsRow.laid w) (fun _ _ _ hh h=>h.of_heap hh) own started (by kernel_rfl) Tryz.func4
  (ChangeSpec.witness_shaped (enc:=enc) (C:=Tryz.checked) (os:=os) (X:=fun w _=>laidMetH Tryz.prog Rows.beginErrorsRow.laid w) false (World.laidAll Tryz.prog os Rows.beginErrorsRow.laid) #[.agg #[.slice none 0 0, .slice none 0 0, .int .u64 0, .int .i64 0]] 8 (World.laidAll_os _ _ _)
   (World.shaped_of_ZipB (by kernel_rfl) (by kernel_rfl)) (by kernel_rfl) (by kernel_rfl) (by kernel_rfl)
   (by rw [MakeChecks.laidMetH_plain _ _ _ (by kernel_rfl)];exact laidMet_laidAll _ (by kernel_rfl) (by kernel_rfl))) ?_
 intro W base args ds gs before atg hW _ hS hL hsh _;have akm: ∀ (j:Nat) t v,Tryz.f4.params[j]? =some t->args[j]? =some v->Value.okWide Tryz.prog W .any base t v:=atg;have hW':=hW;obtain⟨p,q,hA0,hV,rfl,_,_⟩:=hW;have hA:DataW.TrodAll enc Tryz.prog W 0 (fun _=>true) true Tryz.f4.params.toList args.toList ds p:=hA0;have hA1:=hA;obtain⟨rfl,rfl⟩:=trodVars_none hV;simp only [List.append_nil]at hW';have hlt: ∀ x∈p,x.block<W.heap.size:=fun x hx=>by simpa using hW'.lt x hx
 rw [Tryz.params4]at hA akm;obtain⟨v0,vs0,d0,ds0,p0,q0,acQ,rfl,rfl,h0,r0⟩:=trodAll_cons hA;obtain⟨rfl,rfl,rfl⟩:=trodAll_nil r0;obtain rfl:args= #[v0]:=by cases args;simp_all
 have hS1:(DataW.weightsEach Tryz.prog Tryz.f4.params.toList [d0]).all (· <=reachBytes)=true:=hS;rw [Tryz.params4]at hS1;obtain⟨s0,hS1⟩:=qk hS1;obtain⟨x0,ok0,R0⟩:=AaP (e:=Nd) 20 (by kernel_rfl) Tryz.underlying26 rz (akm 0 26 v0 rfl rfl) h0 s0;refine(Ce.law (PE (X6 nQ (ib ok0).1 (ib ok0).2)) (oA hL hsh) (args:=_) (by simp only [Aq];exact⟨_,_,rfl,R0,rfl⟩)).mono fun e W' ⟨he,hb⟩=>?_;subst he;have hB:=Qy AbZ hb dj hA1 hlt;exact⟨_,rfl,_,_,_,[],_,[],hW',trodAll_mk1 (shut_bool Tryz.underlying4 _),hB,rfl,hb.frame _,fun h=>by cases h⟩
theorem Ux:Rows.BeginErrorsSaid:=
 OpenClaim.holds_of_wide 4 Tryz.f4 rfl rfl rfl rfl rfl rfl rfl ⟨rfl,rfl,rfl,rfl,rfl⟩ rfl rfl rfl rfl rfl (by kernel_rfl) Tryz.func4 RY
  (of_decide_eq_true (by kernel_rfl)) (by unfold Func.isWrapper;first | (rw [if_pos (by decide+kernel)];kernel_rfl) | (rw [if_neg (by decide+kernel)];exact⟨rfl,rfl⟩))
  (fun os started H enc _=>RZ os started H enc)
theorem beginErrors_card:Rows.BeginErrorsCardSaid:=
 Claim7.holds_tied_plain_at .later [] _ _ _ _ Ux (fun _ h=>by cases h) (by kernel_rfl) (fun _ h=>by cases h) beginErrors_row_tie rfl ⟨rfl,rfl⟩ (by kernel_rfl) rfl
  (fun f fn hf hfn=>by
   obtain rfl:f=4:=Option.some.inj ((show Tryz.prog.funcNamed "cardgame/cardgamelaw49.BeginErrors" =some 4 by kernel_rfl).symm.trans hf) |>.symm;obtain rfl:fn=Tryz.f4:=(Option.some.inj (Tryz.func4.symm.trans hfn)).symm;exact⟨by kernel_rfl,fun j t ht=>by
    rw [Tryz.params4]at ht;have hm:t∈[26]:=by simpa using Array.mem_of_getElem? ht
    have afX:([26].all fun u=> !Tryz.prog.wantsStandIn u)=true:=by kernel_rfl
    exact(show Tryz.prog.wantsStandIn t=false by simpa using List.all_eq_true.1 afX t hm)⟩)
  (by kernel_rfl)
end Go.Proofs.YtenjiecnhncfiaaGreatDoor
