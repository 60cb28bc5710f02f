/- The pure logic: PlPl, PlPq, PlPw, PlPd, PlPx. -/
import Derived.Test.YtenjiecnhncfiaaGreatDoorTuatoPlPc
import Derived.Lib.AtoiAll
import Derived.Lib.Bytealg
import Derived.Lib.Join
import Derived.JoinedOf
import Derived.Handed
import Derived.LaidSub
import Derived.Lib.LaidTab
set_option linter.all false
namespace Go.PL
open Go
set_option linter.all false
theorem oC (g q:Bool):gd g (some q)=some (g&&q):=by cases g<;>rfl
theorem Vp (b q:Bool):(if b then q else false)=(b&&q):=by grind
theorem SR (b q:Bool):(if b then true else q)=(b||q):=by grind
theorem bT (b:Bool):(b==true)=b:=by simp_all
theorem bF (b:Bool):(b==false)= !b:=by grind
section
variable {α:Type} [Inhabited α] [DecidableEq α] {l m:List α} {B:Int->Option (Int⊕(Unit⊕Unit))}
theorem Ad5 (hl:l.length=m.length) (hB: ∀ (i:Nat) (h:i<l.length) (h':i<m.length),B (i:Int)=some (if l[i]=m[i]then .inl ((i:Int)+1)else .inr (.inl ()))) (hE:B (l.length:Int)=some (.inr (.inr ()))):
 ∀ (k i N:Nat),i+k=l.length->k<N->iter B N (i:Int)=some (if l.drop i=m.drop i then .inr ()else .inl ())
 | 0,i,N+1,hi,_=>by
   obtain rfl:i=l.length:=by omega
   grind [Cr]
 | k+1,i,N+1,hi,hN=>by
   have h:i<l.length:=by omega
   have h':i<m.length:=by omega
   have:=hB i h h';rw [List.drop_eq_getElem_cons h,List.drop_eq_getElem_cons h'];by_cases he:l[i]=m[i]
   ·rw [if_pos he]at this;rw [CH this];have e:((i:Int)+1)=((i+1:Nat):Int):=by omega
    rw [e,Ad5 hl hB hE k (i+1) N (by omega) (by omega)];grind
   ·rw [if_neg he]at this;rw [Cr this,if_neg (fun h=>he (List.cons.inj h).1)]
end
theorem AfT {α:Type} [DecidableEq α] (a b:α):(a==b)=decide (a=b):=by grind
theorem oD (b q:Bool):(if b then some false else some q)=some (!b&&q):=by grind
theorem sK (b q:Bool):(if b then some q else some false)=some (b&&q):=by grind
theorem aan (a b:Bool):(!a|| !(a&&b))=(!a|| !b):=by grind
section
variable {α:Type} [Inhabited α] [DecidableEq α] {l m:List α} {B:Int->Option (Int⊕(Unit⊕Unit))}
end
theorem QC {α:Type} [Inhabited α] (g:Bool) (x:α):gd g (some x)=some (if g then x else default):=by cases g<;>rfl
abbrev T {α:Type} (o:Option α):Prop:= ∃ r,o=some r
theorem Tif {α:Type} {c:Bool} {a b:Option α} (h1:T a) (h2:T b):T (if c then a else b):=by grind
theorem YM {α:Type} [Inhabited α] {l:List α} {i:Nat} (h:i<l.length):l.getD i default=l[i]:=by grind
theorem AfU {α:Type} {b:Nat} {l m:List α} (h:(l.length+m.length)*b<=140737488355328) (hb:1<=b):app b l m=some (l++m):=by refine mI ⟨h,?_⟩;have:(l.length+m.length)*1<=(l.length+m.length)*b:=Nat.mul_le_mul_left _ hb;unfold maxLen;omega
end Go.PL
namespace Go.PL
open Go Go.Lib
set_option linter.all false
end Go.PL
namespace Go.PL
open Go
set_option linter.all false
def LB (k:Nat) (l:List (List UInt8)):Prop:=l.length<=k/\ ∀ y∈l,y.length<=600
theorem LB.nil {k:Nat}:LB k []:=⟨by simp,by simp⟩
theorem LB.le {k m:Nat} {l:List (List UInt8)} (h:LB k l) (hk:k<=m):LB m l:=⟨by have:=h.1;omega,h.2⟩
theorem LB.add {k:Nat} {l:List (List UInt8)} {x:List UInt8} (h:LB k l) (hx:x.length<=600):LB (k+1) (l++[x]):=by
 refine⟨by have:=h.1;simp;omega,fun y hy=>?_⟩;rw [List.mem_append,List.mem_singleton]at hy;rcases hy with hy | rfl
 ·exact h.2 y hy
 ·exact hx
def vy (b:Nat):Option (List UInt8)->Bool
 | some w=>Nat.ble w.length b
 | none=>false
theorem AfV {b:Nat} {o:Option (List UInt8)} (h:vy b o=true):W o (fun r=>r.length<=b):=by
 cases o with
 | none=>cases h
 | some w=>exact⟨w,rfl,Nat.le_of_ble_eq_true h⟩
theorem uS {n b:Nat} {f:Int->Option (List UInt8)} (h:((List.range n).all fun i=>vy b (f (i:Int)))=true) {i:Nat} (hi:i<n):W (f (i:Int)) (fun r=>r.length<=b):=
 AfV (List.all_eq_true.1 h i (List.mem_range.2 hi))
theorem ql {n b:Nat} {f:Int->Option (List UInt8)} (h:((List.range n).all fun i=>vy b (f (i:Int)))=true) {i:Int} (h0:0<=i) (hi:i<n):W (f i) (fun r=>r.length<=b):=by have:=uS h (i:=i.toNat) (by omega);rwa [Int.toNat_of_nonneg h0]at this
section
variable {α β:Type} {Q:β->Prop} {k:Nat} {l:List (List UInt8)} {x:List UInt8}
theorem xQ {J:List (List UInt8)->Option β} (h:LB k l) (hx:x.length<=600) (hJ: ∀ l',LB (k+1) l'->W (J l') Q) (hk:k<=1000:=by omega):W ((app 16 l ([x]:List (List UInt8))).bind J) Q:=by have h1:=h.1;refine W.bd (W.app (b:=16) (l:=l) (m:=[x]) (by simp;omega) (by unfold maxLen;simp;omega)) (fun e he=>?_);subst he;exact hJ _ (h.add hx)
theorem qm {c:Bool} {J:List (List UInt8)->Option β} (h:LB k l) (hx:x.length<=600) (hJ: ∀ l',LB (k+1) l'->W (J l') Q) (hk:k<=1000:=by omega):W (if c then(app 16 l ([x]:List (List UInt8))).bind J else J l) Q:=
 W.if (fun _=>xQ h hx hJ hk) (fun _=>hJ _ (h.le (by omega)))
theorem wTs {c:Bool} {J:List (List UInt8)->Option β} (h:LB k l) (hx:x.length<=600) (hJ: ∀ l',LB (k+1) l'->W (J l') Q) (hk:k<=1000:=by omega):W (if c then J l else(app 16 l ([x]:List (List UInt8))).bind J) Q:=
 W.if (fun _=>hJ _ (h.le (by omega))) (fun _=>xQ h hx hJ hk)
theorem Hr {a b:List UInt8} {f:List UInt8->Option β} (m:Nat) (h:a.length+b.length<=m) (hf: ∀ s,s.length=a.length+b.length->W (f s) Q) (hm:m<=100000000000:=by omega):W ((cat a b).bind f) Q:=
 W.bd (W.cat (by omega)) (fun s hs=>hf s hs.2)
def Rnd (i k:Nat) (r:(Int×List (List UInt8))⊕List (List UInt8)):Prop:= ∃ l',r= .inl ((i:Int)+1,l')/\LB (k+1) l'
theorem oE {i:Nat} {l':List (List UInt8)} (h:LB (k+1) l') (hi:i<=100000:=by omega):W (some (.inl (Ad ((i:Int)+1),l'))) (Rnd i k):=
 ⟨_,rfl,l',by rw [AU (by omega) (by omega)],h⟩
theorem xR {B:Int->List (List UInt8)->Option ((Int×List (List UInt8))⊕List (List UInt8))} {f:List (List UInt8)->Option β} (n:Nat) (hl:LB k l)
 (he: ∀ l,B (n:Int) l=some (.inr l)) (hs: ∀ (i m:Nat) l,i<n->m<=k+n->LB m l->W (B (i:Int) l) (Rnd i m)) (hf: ∀ l',LB (k+n) l'->W (f l') Q) (hn:n<=1000:=by omega):
 W ((iter (fun(v:Int×List (List UInt8))=>B v.1 v.2) FU (0,l)).bind f) Q:=by
 have key: ∀ (j i N:Nat) (l:List (List UInt8)),i+j=n->j<N->LB (k+i) l-> ∃ l',LB (k+n) l'/\iter (fun(v:Int×List (List UInt8))=>B v.1 v.2) N ((i:Int),l)=some l':=by
  intro j;induction j with
  | zero=>
    intro i N l hi hN hl;obtain⟨N,rfl⟩: ∃ M,N=M+1:=⟨N - 1,by omega⟩;obtain rfl:i=n:=by omega
    exact⟨l,hl,Cr (he l)⟩
  | succ j ih=>
    intro i N l hi hN hl;obtain⟨N,rfl⟩: ∃ M,N=M+1:=⟨N - 1,by omega⟩;obtain⟨r,h1,l',rfl,h2⟩:=hs i (k+i) l (by omega) (by omega) hl;obtain⟨l2,h3,h4⟩:=ih (i+1) N l' (by omega) (by omega) h2;refine⟨l2,h3,?_⟩;rw [CH h1];exact h4
 obtain⟨l',h1,h2⟩:=key n 0 FU l (by omega) (by unfold FU;omega) hl;have h2':iter (fun(v:Int×List (List UInt8))=>B v.1 v.2) FU (0,l)=some l':=h2;rw [h2'];exact hf l' h1
theorem wMk {B:Int->Int->Option ((Int×Int)⊕Int)} {f:Int->Option β} {a:Int} {g:Int->Int} (n:Int) (hn:n<=1000)
 (hB: ∀ m k,B m k=if decide (k<n) then some (.inl (g m,Ad (k+1)))else some (.inr m)) (hf: ∀ m,W (f m) Q):W ((iter (fun(v:Int×Int)=>B v.1 v.2) FU (a,0)).bind f) Q:=by
 refine W.it (fun v=>0<=v.2/\(v.2<=n\/v.2<=0)) (fun v=>(n - v.2).toNat) ⟨by simp,by simp⟩ (by dsimp only;omega) (fun v hv=>?_);obtain⟨m,k⟩:=v;dsimp only at hv ⊢;rw [hB];refine W.if (fun h=>?_) (fun h=>W.ex (hf m))
 have h:=of_decide_eq_true h;have:=AU (x:=k+1) (by omega) (by omega);exact W.nx (by dsimp only;omega) (by dsimp only;omega)
end
theorem a7 (sep:List UInt8) (n:Nat): ∀ {l:List (List UInt8)},(∀ y∈l,y.length<=n)->(Lib.join l sep).length <=l.length*(n+sep.length)
 | [],_=>by simp [Lib.join_nil]
 | [a],h=>by have:=h a (by simp);rw [Lib.join_one];simp;omega
 | a::b::l,h=>by
   have h1:=h a (by simp);have h2:=a7 sep n (l:=b::l) (fun y hy=>h y (by simp [hy]));have e:Lib.join (a::b::l) sep=a++(sep++Lib.join (b::l) sep):=by simp [Lib.join_cons,Lib.joinTail]
   rw [e,List.length_append,List.length_append,List.length_cons];rw [Nat.add_mul];omega
end Go.PL
namespace Go.PL
open Go
theorem uT {P:Program} {f:FuncId} {fn:Func} {s:ChangeSpec} {c:OpenClaim} (h0:(c.wf (OpenSpec.ofChange s))=true) (h1:(laidOutB P)=true) (h2:(mapsRowed P)=true) (h3:(fn.params.all (P.readableRec ·))=true) (h4:(namedTie P c.named s.vars)=true) (h5:((c.stops==[]))=true) (h6:((P.stops==[]))=true) (h7:((c.knobs==[]))=true) (h8:((P.stopKnobs==[]))=true) (h9:((c.inPlace==P.inPlace f))=true) (h10:((c.unfollowed==P.unfollowed f))=true) (h11:((c.recurses==P.recurses f))=true) (h12:((c.named==P.varsNamed f))=true) (h13:((c.maps==(fn.params.toList++s.plain.varTypes P).any (P.mapsRec ·)))=true) (h14:((c.ifaces==(fn.params.toList++s.plain.varTypes P).any (P.ifacesRec ·)))=true) (h15:((c.mapsOut==P.mapsAmong fn.resultTypes.toList))=true) (h16:((c.loops==(fn.params.toList++s.plain.varTypes P).any (P.loopsFrom ·)))=true) (h17:((c.wideKeys==(fn.params.toList++s.plain.varTypes P++fn.resultTypes.toList).any (P.wideKeysFrom ·)))=true) (h18:(s.vars.all (P.varReadable ·))=true) (h19:(fn.resultTypes.all (fun t=>P.readableRec t&&decide (t<P.types.size)))=true) (h20:((c.ifacesOut==fn.resultTypes.toList.any (P.ifacesRec ·)))=true) (h21:((c.loopsOut==fn.resultTypes.toList.any (P.loopsFrom ·)))=true) (h22:((c.plainKeys==P.plainKeys))=true) (h23:(c.shortTexts.isNone)=true) (h24:(P.stopsHeard)=true) (h25:(P.mayEnter)=true) (h26:((c.lifted==P.liftsFinal))=true) (h27:((P.make==some c.make))=true) (h28:(c.domain.isEmpty&&(c.kinds==[]))=true) (h29:((c.pinned==c.pinnedBy))=true) (h30:((c.veiled==(fn.params.toList++s.plain.varTypes P++fn.resultTypes.toList).any (P.veiledRec ·)))=true) (h31:(c.veiledFits P fn.params.toList (fn.params.toList++s.plain.varTypes P++fn.resultTypes.toList))=true):joinedFacts P f fn s c=true:=by simp_all [joinedFacts]
end Go.PL
namespace Go.PL
open Go
section
variable {H:Type} {enc:TypeId×Value->H}
theorem AaR {a:Assume} {C:Checked} {os:Os} {f:FuncId} {fn:Func} {s:ChangeSpec} {conds:List PathCond} {apart fresh handsOn again:Bool} {X:World->Array Value->Prop}
 (hX: ∀ (w w':World) (args:Array Value),w.heap=w'.heap->X w args->X w' args)
 (own:ownKnob C.prog.godebug=none) (started:os.Started) (aqr:C.prog.inits.idxOf? f=none) (hfn:C.prog.funcs[f]? =some fn)
 (witness: ∃ (w:World) (tape:Tape) (i:Input),w.os=os/\(w.forCall tape i).Shaped C.prog/\i.vars=[]/\Input.okWide C.prog (w.forCall tape i) .any w.heap.size f i/\
  ((s.pre enc C.prog fn conds apart (w.forCall tape i).memory i.args/\X (w.forCall tape i).memory i.args)/\sizedMet enc C.prog fn (OpenSpec.ofChange s) apart (w.forCall tape i).memory i.args)/\a.holds C.prog (lone (Frame.enter C.prog f i.args .normal) [] (w.forCall tape i)))
 (contract: ∀ (W:World) (base:Nat) (args:Array Value) (ds gs:List (DataW H)) (before:List MemPlace),
  (∀ (j:Nat) t v,fn.params[j]? =some t->args[j]? =some v->Value.okWide C.prog W .any base t v)->
  DataW.Whole enc C.prog fn.params.toList s.vars apart W args.toList ds gs before->
  conds.all (PathCond.test C.prog ⟨fn.params.toList,ds,s.plain.varTypes C.prog,gs⟩)=true->
  (DataW.weightsEach C.prog (fn.params.toList++s.plain.varTypes C.prog) (ds++gs)).all (· <=reachBytes)=true->X W args->W.ShapedOpen C.prog->
  a.holds C.prog (lone (Frame.enter C.prog f args .normal) [] W)->
  Calls C.prog f args W fun e W'=> ∃ v,e= .returned v/\s.post enc C.prog fn apart fresh handsOn again W args v W'):
 ReturnsInHanded a C os f .any (fun w args=>(s.pre enc C.prog fn conds apart w args/\X w args)/\sizedMet enc C.prog fn (OpenSpec.ofChange s) apart w args) (s.post enc C.prog fn apart fresh handsOn again):=by
 refine returnsInHanded_of_calls own started aqr witness ?_;intro w tape i _ hsh _ hok amZ aqU;obtain⟨_,_,_,fn',aEK,_,_,_,_,akm⟩:=hok;have e:fn'=fn:=(by grind);subst e;obtain⟨⟨⟨ds,gs,before,hw,hc⟩,hx⟩,hz⟩:=amZ;have hw':=DataW.Whole.of_heap (w':=w.forCall tape i) (by rfl) hw;refine(contract (w.forCall tape i) w.heap.size i.args ds gs before akm hw' hc (hz.weights hw) (hX _ _ _ (by rfl) hx) hsh aqU).mono fun e W' ⟨v,he,hp⟩=>?_;grind [ChangeSpec.post_blind]
def jx {H:Type} (ss:List (List UInt8)):DataW H:= .agg (ss.map fun s=> .lit (.string s))
theorem dC {H:Type} {enc:TypeId×Value->H} {P:Program} {w:World} {base:Nat} {sp:Nat->Bool} {held:Bool} {fuel:Nat} {t e:TypeId} {n:Nat} {cs:List Value} {ss:List (List UInt8)} {p:List MemPlace}
 (ht:P.underlying t=some (.array n e)) (he:P.underlying e=some .string) (hce:P.cellsOf e=1) (hct:P.cellsOf t=n)
 (h:DataW.trod enc P w base sp held fuel t cs=some (jx ss,p)):cs=ss.map fun s=>Value.string ⟨s.toArray⟩:=by
 cases fuel with
 | zero=>simp [DataW.trod]at h
 | succ fuel=>
   simp only [DataW.trod,ht,hce,hct,Nat.mul_one]at h;split at h
   ·rename_i hl;obtain⟨xs,hm,hx⟩:=Option.map_eq_some_iff.1 h;have hxs:xs.map (·.1)=ss.map fun s=>(DataW.lit (.string s):DataW H):=by simp_all [jx]
    have hxl:xs.length=n:=by simpa using Lib.mapM_length hm
    have hzl:ss.length=n:=by have:=congrArg List.length hxs;grind
    apply List.ext_getElem?;intro i;by_cases hi:i<n
    ·obtain⟨b,hb,hf⟩:=Lib.mapM_at hm i i (by simp [hi]);obtain⟨z,hc,rfl,_⟩:=DataW.trod_string he hf;have h1:cs[i]? =some (.string z):=by have:=congrArg (·[0]?) hc;grind
     have h2:(xs.map (·.1))[i]? =some (DataW.lit (.string z.data.toList):DataW H):=by simp [hb]
     simp_all
    grind
   ·cases h
theorem SS {P:Program} {W:World} {name:String} {ss:List (List UInt8)} {rest:List (String×DataW Unit)} {g:Nat} {t e:TypeId} {n:Nat}
 (hg:P.globalNamed name=some g) (hty:(P.globals[g]?).map (·.type)=some t) (ht:P.underlying t=some (.array n e)) (he:P.underlying e=some .string) (hce:P.cellsOf e=1) (hct:P.cellsOf t=n)
 (h:laidMet P ((name,jx ss)::rest) W): ∃ T fz,W.heap[g]? =some (.cells (ss.map fun s=>Value.string ⟨s.toArray⟩).toArray T fz):=by
 obtain⟨ps,⟨g',t',cs,fuel,p,q,hg',ht',aqH,hd,_,_⟩,_⟩:=h;obtain rfl:=Option.some.inj (hg.symm.trans hg');obtain rfl:=Option.some.inj (hty.symm.trans ht');have hc:=dC ht he hce hct hd;simp only [World.var?,hg,Option.bind_some]at aqH;split at aqH
 ·rename_i c T fz hh;injection aqH with hv;subst hv;refine⟨T,fz,?_⟩;rw [hh, <-hc]
 grind
end
end Go.PL
