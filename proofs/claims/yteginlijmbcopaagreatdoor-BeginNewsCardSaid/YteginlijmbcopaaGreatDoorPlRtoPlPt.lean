/- The pure logic: PlR, PlU, PlW, PlS, PlT, PlV, PlX, PlXd, PlXe, PlXf, PlY, PlZ, PlPe, PlPf, PlPg, PlPh, PlPi, PlPj, PlPk, PlPm, PlPn, PlPo, PlPp, PlPr, PlPt. -/
import Derived.Test.YteginlijmbcopaaGreatDoorPlAtoPlQ
import Derived.LoopN
import Derived.ProofKit
import Derived.OpenShut
import Derived.Handy
import Derived.Lay
import Derived.LaidSub
import Derived.SevenTiedAt
import Derived.Lib.LaidTab
import Derived.Lib.ConvBytes
import Derived.Lib.AtoiErrMem
import Derived.Laws.Cover3
import Derived.Scope
import Derived.Lib.AppendStr
import Derived.Lib.Builder
import Derived.Lib.UnsafeStr
import Derived.MapKept
open Prod.mk (injEq)
open Bool (and_eq_true or_eq_true not_eq_true' or_eq_false_iff)
open List (map_cons mem_map flatMap_cons all_eq_true mem_filter map_map mem_cons take_append_drop getElem?_append_right drop_drop cons_append getD_eq_getElem?_getD mem_iff_getElem getElem?_set append_assoc all_append filter_sublist mem_of_getElem? drop_left all_cons find?_some nodup_cons)
open Nat (eq_of_beq_eq_true le_refl add_comm add_assoc add_zero)
set_option linter.all false
namespace Go.PL
open Go Go.RowKit
def my:List V->List V->Prop
 | [],[]=>True
 | a::l,b::m=>(b= .undef \/b=a)/\my l m
 | _,_=>False
theorem my.get: ∀ {l m:List V},my l m->m.length=l.length/\ ∀ i,m.getD i .undef = .undef \/m.getD i .undef =l.getD i .undef
 | [],[],_=>(by grind)
 | a::l,b::m,h=>by
   obtain⟨h1,h2⟩:=h;obtain⟨q1,q2⟩:=my.get h2;refine⟨by simp [q1],fun i=>?_⟩;cases i with
   | zero=>simpa using h1
   | succ i=>simpa using q2 i
 | [],_::_,h=>h.elim
 | _::_,[],h=>h.elim
theorem Abi (a b:Nat):(([a]:List Nat)==[b])=(a==b):=by grind
theorem Abj (a b:Nat):(([a]:List Nat) != [b])=(a != b):=by grind
theorem xy (a b c d:Nat):(([a,c]:List Nat)==[b,d])=(a==b&&c==d):=by grind
theorem AeD (a b:Nat):(([a]:List Nat)=[b])=(a=b):=by simp
theorem mz (z:List C):Cj z 0=[]:=by simp [Cj]
theorem WK (z:List C) (k:Nat):Cj z (k+1)=z++Cj z k:=by
 unfold Cj;have e:(k+1)*z.length=z.length+k*z.length:=by grind
 rw [e,List.range_add,List.map_append];congr 1
 ·apply List.ext_getElem<;>simp;grind [Nat.mod_eq_of_lt]
 simp_all
theorem je (k:IntKind) (l:List Int):Ao (l.map (C.int k))=true:=PY _ (fun _=>rfl) l
theorem jf (l:List (List UInt8)):Ao (l.map C.str)=true:=PY _ (fun _=>rfl) l
theorem di (l:List Bool):Ao (l.map C.bool)=true:=PY _ (fun _=>rfl) l
theorem OP {g:C->C} (hg: ∀ c:C,c.pure=true->g c=c): ∀ {l:List C},Ao l=true->l.map g=l
 | [],_=>rfl
 | c::l,h=>by simp only [Ao,and_eq_true]at h;rw [map_cons,hg c h.1,OP hg h.2]
theorem qz (id:Ah) {c:C} (h:c.pure=true):Ig id c=c:=by simp [Ig,Ic id c h]
theorem qA {l:List C} (id:Ah) (h:Ao l=true):l.map (Ig id)=l:=OP (fun _ hc=>qz id hc) h
theorem vt {id:Ah} {len:Nat} {cs:List C} {c:C} (h:c.pure=true):KW id len cs c=c:=by cases c<;>simp_all [KW,C.pure,AP]
theorem vu {id:Ah} {len:Nat} {cs:List C} {l:List C} (h:Ao l=true):l.map (KW id len cs)=l:=OP (fun _ hc=>vt hc) h
theorem vv {c:C} (h:c.pure=true):Sy c=[]:=by cases c<;>simp_all [Sy,C.pure]
theorem fF: ∀ {l:List C},Ao l=true->l.flatMap Sy=[]
 | [],_=>rfl
 | c::l,h=>by simp only [Ao,and_eq_true]at h;rw [flatMap_cons,vv h.1,fF h.2];rfl
attribute [go_sem] BT je jf di qA vu fF AP
attribute [go_sem] Abi Abj xy AeD mz WK Nat.reduceLeDiff Nat.reduceLT le_refl Nat.reduceBEq Nat.reduceBNe Nat.reduceMul Nat.reduceAdd Nat.reduceSub
end Go.PL
namespace Go.PL
open Go Go.RowKit
section
variable {P:Program} {F:Fr} {st:St} {c:Code} {Q:Exit->St->Prop}
end
end Go.PL
namespace Go.PL
open Go Go.RowKit
def Yu (st:St) (x:Operand):Option (FuncId×List C):=
 match st.ev x with
 | .c (.fn f)=>some (f,[])
 | .c (.clo f cs)=>some (f,cs)
 | _=>none
def St.enter (st:St) (k:Nat) (args:List V) (n:Nat):St:=⟨args++List.replicate (n - args.length) .undef,st.so,st.tm++st.gh,k::st.pre⟩
def St.back (st:St) (m:Nat) (pre:Ah) (d:Option Nat) (r:V):St:=(⟨st.gh.take m,st.so,st.gh.drop m,pre⟩:St).put d r
def QA (P:Program) (st:St):ResultVar->Prop×V
 | .tmp t=>(True,st.get t)
 | .cell t T=>DM P T st (st.get t)
def CI (P:Program) (st:St):List ResultVar->Prop×List V
 | []=>(True,[])
 | x::xs=>((QA P st x).1/\(CI P st xs).1,(QA P st x).2::(CI P st xs).2)
def CA (P:Program) (st:St):List ResultVar->Prop×V
 | [x]=>QA P st x
 | xs=>((CI P st xs).1, .tup (CI P st xs).2)
section
variable {P:Program} {F:Fr} {st:St} {a:Act} {w:World} {G:AG}
theorem Y9 (h:R F st a w G) {x:ResultVar} (hs:(QA P st x).1): ∃ v,(J9 a.tmps x).run P w= .ok v w/\Ab w G (QA P st x).2 v:=by
 cases x with
 | tmp t=>exact⟨_,rfl,h.v_ t⟩
 | cell t T=>
   simp only [QA]at hs ⊢;obtain⟨v,q1,q2⟩:=OI (P:=P) h (h.v_ t) hs;obtain⟨p,ay4⟩:=fE (h.v_ t) hs;refine⟨v,?_,q1⟩;grind [C1.refl,J9,asAddr,Instr.loadAt,Instr.sureAddr]
theorem WL (h:R F st a w G): ∀ {xs:List ResultVar},(CI P st xs).1-> ∃ vs,(xs.mapM (J9 a.tmps)).run P w= .ok vs w/\Aq w G (CI P st xs).2 vs
 | [],_=>(by simp_all [CI,Aq])
 | x::xs,hs=>by simp only [CI]at hs ⊢;obtain⟨v,q1,q2⟩:=Y9 h hs.1;obtain⟨vs,k1,k2⟩:=WL h hs.2;exact⟨v::vs,by simp_all,by simp only [Aq];grind⟩
theorem vw {xs:List ResultVar}:(CI P st xs).2.length =xs.length:=by induction xs<;>grind [CI]
theorem MZ (h:R F st a w G) {fn:Func} (hs:(CA P st fn.results.toList).1): ∃ v,(results fn a.tmps).run P w= .ok v w/\Ab w G (CA P st fn.results.toList).2 v:=by
 generalize hx:fn.results.toList=xs at hs ⊢
 match xs,hx,hs with
 | [x],hx,hs=>
   simp only [CA]at hs ⊢;obtain⟨v,q1,q2⟩:=Y9 h hs;exact⟨v,by have:=F9 (P:=P) (w:=w) (fn:=fn) (tmps:=a.tmps) (vs:=[v]) (by rw [hx];simp [q1]);grind,q2⟩
 | [],hx,hs=>
   simp_all [CA,CI,Ab,Aq,F9]
 | x::y::xs,hx,hs=>
   simp only [CA]at hs ⊢;obtain⟨vs,q1,q2⟩:=WL h hs;refine⟨.tuple vs.toArray,?_,by simp only [Ab];grind⟩;have:=F9 (P:=P) (w:=w) (fn:=fn) (tmps:=a.tmps) (by rw [hx];exact q1);rw [this];have hl:=EX q2;rw [vw]at hl
   match vs,hl with
   | v::u::vs,_=>rfl
theorem Jf {w:World} {G:AG}: ∀ {xs ys:List V} {us vs:List Value},Aq w G xs us->Aq w G ys vs->Aq w G (xs++ys) (us++vs)
 | [],_,us,_,h,h'=>by grind [Aq]
 | x::xs,ys,us,vs,h,h'=>by simp only [Aq]at h;obtain⟨v,r,rfl,h1,h2⟩:=h;simp only [cons_append,Aq];exact⟨v,r++vs,rfl,h1,Jf h2 h'⟩
theorem WM {w:World} {G:AG}: ∀ {xs:List V} {us vs:List Value},Aq w G xs (us++vs)->Aq w G (xs.take us.length) us/\Aq w G (xs.drop us.length) vs
 | xs,[],vs,h=>(by grind [Aq])
 | [],u::us,vs,h=>by simp [Aq]at h
 | x::xs,u::us,vs,h=>by simp only [cons_append,Aq]at h;obtain⟨v,r,e,h1,h2⟩:=h;injection e with e1 e2;subst e1 e2;obtain⟨k1,k2⟩:=WM h2;simp only [List.length_cons,List.take_succ_cons,List.drop_succ_cons,Aq];grind
theorem OQ {w:World} {G:AG}: ∀ {xs:List V} {us:List Value},xs.length=us.length->(∀ i,Ab w G (xs.getD i .undef) (us.getD i Go.undef))->Aq w G xs us
 | [],[],_,_=>by simp [Aq]
 | x::xs,u::us,hl,h=>by simp only [Aq];exact⟨u,us,rfl,by simpa using h 0,OQ (by grind) (fun i=>by simpa using h (i+1))⟩
 | [],_::_,hl,_=>by simp at hl
 | _::_,[],hl,_=>by simp at hl
theorem UX {w:World} {G:AG}: ∀ {cs:List C} {us:List Value},Aj w G cs us->Aq w G (cs.map V.c) us
 | [],[],_=>by simp [Aq]
 | c::cs,u::us,h=>by simp only [Aj]at h;simp only [map_cons,Aq];exact⟨u,us,rfl,by grind [Ab],UX h.2⟩
 | [],_::_,h=>by simp [Aj]at h
 | _::_,[],h=>by simp [Aj]at h
theorem R.enter (h:R F st a w G) (k:Nat) {args:List V} {us:Array Value} (ha:Aq w G args us.toList) (n:Nat):
 R {F with gv:=a.tmps.toList++F.gv} (st.enter k args n) {tmps:=us++Array.replicate (n - us.size) Go.undef,defers:=[]} w G:=by
 have hl:=EX ha;have hl':args.length=us.size:=by grind
 exact {
  dfr:=rfl
  size:=by simp [St.enter,hl']
  v_:=by
   intro i;simp only [St.enter,getD_eq_getElem?_getD,Array.getD_eq_getD_getElem?];by_cases hi:i<args.length
   ·grind [Jv]
   grind [Ab]
  F_:=Jf (OQ (by simpa using h.size.symm) (fun i=>by have:=h.v_ i;simp_all)) h.F_
  store:=h.store,deep:=h.deep,x_:=h.x_,nodup:=h.nodup,inj:=h.inj,lt:=h.lt,new:=h.new,wr:=h.wr,aaS:=h.aaS,inv:=h.inv,aah:=h.aah
  os:=h.os,tape:=h.tape,output:=h.output,u_:=h.u_,ext:=h.ext}
theorem qB {w:World} {G:AG} {xs:List V} {us:List Value} (h:Aq w G xs us) (i:Nat):Ab w G (xs.getD i .undef) (us.getD i Go.undef):=by grind [Jv,Ab]
theorem R.back {a':Act} {an:St} (hd:a.defers=[]) {gv:List Value} (hgv:F.gv=a.tmps.toList++gv) (h:R F an a' w G) {m:Nat} (hm:m=a.tmps.size) (pre:Ah):R {F with gv:=gv} ⟨an.gh.take m,an.so,an.gh.drop m,pre⟩ a w G:=by
 have hg:=h.F_;rw [hgv]at hg;obtain⟨h1,h2⟩:=WM hg;have e:a.tmps.toList.length=m:=by simp [hm]
 rw [e]at h1 h2;exact {
  dfr:=hd
  size:=by grind [EX]
  v_:=fun i=>by have:=qB h1 i;simp_all
  F_:=h2
  store:=h.store,deep:=h.deep,x_:=h.x_,nodup:=h.nodup,inj:=h.inj,lt:=h.lt,new:=h.new,wr:=h.wr,aaS:=h.aaS,inv:=h.inv,aah:=h.aah
  os:=h.os,tape:=h.tape,output:=h.output,u_:=h.u_,ext:=h.ext}
end
def inQ (P:Program) (rs:List ResultVar) (m:Nat) (pre:Ah) (d:Option Nat) (K:St->Prop):Exit->St->Prop
 | .normal,st=>(CA P st rs).1/\K (st.back m pre d (CA P st rs).2)
 | .ret,st=>(CA P st rs).1/\K (st.back m pre d (CA P st rs).2)
 | _,_=>False
theorem DJ.inline {P:Program} {I:World->Prop} {o:Oper} {st:St} {K:St->Prop} {x:Operand} {xs:List Operand} {c:Call} {s:Prop} {vs:List V} {f:FuncId} {cs:List C} {fn:Func} {body:Code} {n:Nat} {rs:List ResultVar} (k:Nat)
 (ho:o.op= .call c) (aev:c.callee= .value x) (hxs:c.args.toList=xs) (ha:st.args true xs=(s,vs)) (hs:s) (hf:Yu st x=some (f,cs)) (abr:ent P f=true) (hfn:P.funcs[f]? =some fn) (hb:fn.body=some body) (hn:fn.ntmps=n) (hr:fn.results=rs.toArray)
 (h: ∀ w0 av old gv,Ae P ⟨w0,av,old,I,gv⟩ body (st.enter k (vs++cs.map V.c) n) (inQ P rs st.tm.length st.pre o.dst K)):DJ P I o st K:=by
 intro F a w G Q hI hR;have ab9:Aq w G vs (xs.map a.eval):=by have:=hR.args (g:=true) rfl (xs:=xs) (by grind);grind
 obtain⟨arr,hev,hcs⟩: ∃ arr:Array Value,a.eval x= .func (.func f) #[] arr/\Aj w G cs arr.toList:=by
  have hx:=hR.ev x;unfold Yu at hf;split at hf
  ·rename_i f' he;rw [he]at hx;simp only [Option.some.injEq,injEq]at hf;obtain⟨rfl,rfl⟩:=hf;grind [Ab,Ad,Aj]
  ·rename_i f' cs' he;rw [he]at hx;simp only [Option.some.injEq,injEq]at hf;obtain⟨rfl,rfl⟩:=hf;grind [Ab,Ad]
  ·cases hf
 have q_:(execOp a.eval o).run P w= .ok (.enter f ((xs.map a.eval).toArray ++arr)) w:=by
  have e:c.args.map a.eval=(xs.map a.eval).toArray :=by grind
  grind [execOp,resolve,Deferred.ofValue,invoke,acn]
 unfold Oper.wp Oper.upon;rw [q_];simp only;obtain⟨w0,av,old,I',gv⟩:=F;simp only at hI;subst hI;have af5:Aq w G (vs++cs.map V.c) ((xs.map a.eval).toArray ++arr).toList :=by grind [Jf,UX]
 refine calls_of_wp hfn hb ?_;have hR0:=hR.enter k af5 fn.ntmps;rw [hn]at hR0;rw [hn];refine Code.wp_mono (fun e a' w' ⟨an,G',q,hR'⟩=>?_) (h _ _ _ _ _ _ _ hR0);have hrs:fn.results.toList=rs:=by rw [hr]
 have fin:(CA P an rs).1/\K (an.back st.tm.length st.pre o.dst (CA P an rs).2)->
  a'.defers=[]/\ ∃ v,(results fn a'.tmps).run P w'= .ok v w'/\mv ⟨w0,av,old,I',gv⟩ K (a.put o.dst v) w':=by
  intro ⟨q1,q2⟩;rw [<-hrs]at q1 q2;obtain⟨v,k1,k2⟩:=MZ hR' (fn:=fn) q1;refine⟨hR'.dfr,v,k1,_,G',q2,?_⟩;exact(R.back hR.dfr rfl hR' hR.size.symm st.pre).put k2
 cases e<;>simp only [inQ]at q<;>first | exact fin q | exact q.elim
end Go.PL
namespace Go.PL
open Go Go.RowKit Go.ChangeShapes Go.WideShapes
theorem QM {H:Type} {enc:TypeId×Value->H} {P:Program} (hl:laidOutB P=true) {W W':World} (hb:Below W.heap.size W W'):
 ∀ {ts:List TypeId} {vs:List Value} {ds:List (DataW H)} {ps:List MemPlace},(ts.all fun t=>P.readableRec t&&decide (t<P.types.size))=true->DataW.TrodAll enc P W 0 (fun _=>true) true ts vs ds ps->(∀ x∈ps,x.block<W.heap.size)->
   DataW.TrodAll enc P W' 0 (fun b=>decide (b<W.heap.size)) true ts vs ds ps
 | [],_,_,_,_,h,_=>by obtain⟨rfl,rfl,rfl⟩:=trodAll_nil h;exact trodAll_mk0
 | t::ts,_,_,_,hr,h,hlt=>by obtain⟨v,vs1,d,ds1,a,b,rfl,rfl,rfl,h1,h2⟩:=trodAll_cons h;simp only [all_cons,and_eq_true,decide_eq_true_eq]at hr;exact⟨a,b,(by grind [Below.trod]),QM hl hb hr.2 h2 (fun x hx=>hlt x (by simp [hx])),rfl⟩
theorem Cd.law {P:Program} {I:World->Prop} {f:FuncId} {xs:List V} (h:Cd P I f xs (· = .c (.bool true))) {W:World} (hI:I W) {args:Array Value} (ha:Aq W (im fun _=>False) xs args.toList):
 Calls P f args W fun e W'=>e= .returned (.bool true)/\Below W.heap.size W W':=by
 refine(h.run W args (fun _=>False) hI (fun _ h=>h.elim) ha).mono fun e W' ⟨v,r,he,hr,_,hv,hb⟩=>⟨?_,hb⟩;grind [Ab,Ad]
end Go.PL
namespace Go.PL
open Go Go.RowKit Go.ChangeShapes Go.WideShapes
def UY (R:TypeId->List C->Prop):List TypeId->List (List C)->Prop
 | [],Df=>Df=[]
 | t::ts,Df=> ∃ ds r,Df=ds::r/\R t ds/\UY R ts r
def Bz (P:Program):Nat->TypeId->List C->Prop
 | 0,_,_=>False
 | n+1,t,cs=>match P.underlying t with
   | some .bool => ∃ b,cs=[.bool b]
   | some (.int k)=> ∃ z,cs=[.int k z]/\(Lit.int k z).wf =true
   | some .string => ∃ s:List UInt8,cs=[.str s]/\s.length<=reachBytes
   | some (.slice e)=> ∃ Df:List (List C),cs=[.sl Df.length Df.flatten]/\Df.length*P.bytesOf e<=reachBytes/\ ∀ ds∈Df,Bz P n e ds
   | some (.struct fs)=> ∃ Df:List (List C),cs=Df.flatten/\UY (Bz P n) (fs.toList.map (·.type)) Df
   | some (.array m e)=> ∃ Df:List (List C),cs=Df.flatten/\Df.length=m/\ ∀ ds∈Df,Bz P n e ds
   | some (.pointer e)=>cs=[.acu]\/ ∃ ds,cs=[.abQ ds 0]/\Bz P n e ds
   | some (.interface _)=>cs=[.aak]\/cs=[.held]
   | _=>False
theorem HX: ∀ {Df:List (List C)},(∀ ds∈Df,Ao ds=true)->Ao Df.flatten=true
 | [],_=>rfl
 | ds::Df,h=>by rw [List.flatten_cons,BT,h ds (by simp),HX (fun d hd=>h d (by simp [hd]))];rfl
theorem fG {R:TypeId->List C->Prop} (hR: ∀ t ds,R t ds->Ao ds=true): ∀ {ts:List TypeId} {Df:List (List C)},UY R ts Df-> ∀ ds∈Df,Ao ds=true
 | [],Df,h,ds,hd=>by grind [UY]
 | t::ts,Df,h,ds,hd=>by
   simp only [UY]at h;obtain⟨d,r,rfl,h1,h2⟩:=h;rcases mem_cons.1 hd with rfl | hd
   ·exact hR t _ h1
   ·exact fG hR h2 ds hd
theorem M0 {P:Program}: ∀ {n:Nat} {t:TypeId} {cs:List C},Bz P n t cs->Ao cs=true
 | 0,_,_,h=>h.elim
 | n+1,t,cs,h=>by
   unfold Bz at h;split at h
   ·obtain⟨b,rfl⟩:=h;rfl
   ·obtain⟨z,rfl,_⟩:=h;rfl
   ·obtain⟨s,rfl,_⟩:=h;rfl
   ·obtain⟨Df,rfl,_⟩:=h;rfl
   ·obtain⟨Df,rfl,h2⟩:=h;exact HX (fG (fun t ds h=>M0 h) h2)
   ·obtain⟨Df,rfl,_,h2⟩:=h;exact HX (fun ds hd=>M0 (h2 ds hd))
   ·rcases h with rfl | ⟨ds,rfl,_⟩<;>rfl
   ·rcases h with rfl | rfl<;>rfl
   grind
section
variable {H:Type} {enc:TypeId×Value->H} {P:Program} {w:World} {spare:Nat->Bool}
theorem Za {G:AG}: ∀ {a b:List C} {u v:List Value},Aj w G a u->Aj w G b v->Aj w G (a++b) (u++v)
 | [],_,[],_,_,h=>h
 | _::_,_,_::_,_,h,h'=>by simp only [Aj]at h;simp only [cons_append,Aj];exact⟨h.1,Za h.2 h'⟩
 | [],_,_::_,_,h,_=>by simp [Aj]at h
 | _::_,_,[],_,h,_=>by simp [Aj]at h
theorem mA {G:AG}: ∀ {a:List C} {u:List Value},Aj w G a u->a.length=u.length
 | [],[],_=>rfl
 | _::_,_::_,h=>by simp only [Aj]at h;simp [mA h.2]
 | [],_::_,h=>by simp [Aj]at h
 | _::_,[],h=>by simp [Aj]at h
theorem UZ {G:AG} {b:Nat}: ∀ {cs:List C} {ds:List Value} {o:Nat},Aj w G cs ds->(∀ j,j<ds.length->w.cell? ⟨b,o+j,none⟩=ds[j]?)->An w G cs b o
 | [],_,_,_,_=>by simp [An]
 | c::cs,d::ds,o,h,hc=>by simp only [Aj]at h;simp only [An];refine⟨⟨d,by simpa using hc 0 (by simp),h.1⟩,UZ h.2 (fun j hj=>?_)⟩;have:=hc (j+1) (by simp;omega);simpa [add_assoc,add_comm 1 j] using this
 | _::_,[],_,h,_=>by simp [Aj]at h
theorem Zb {G:AG} {b:Nat}: ∀ {cs cs':List C} {o:Nat},An w G cs b o->An w G cs' b (o+cs.length)->An w G (cs++cs') b o
 | [],_,_,_,h=>by grind
 | c::cs,cs',o,h,h'=>by simp only [An]at h;simp only [cons_append,An];exact⟨h.1,Zb h.2 (by simpa [add_assoc,add_comm 1] using h')⟩
theorem mB {a:Addr} {n:Nat} {cs:List Value} (hn:0<n) (h:w.cells? 0 a n=some cs):a=⟨a.block,a.off,none⟩/\a.block<w.heap.size/\cs.length=n/\ ∀ j,j<n->w.cell? ⟨a.block,a.off+j,none⟩=cs[j]? :=by
 obtain⟨_,hl,hc⟩:=World.cells?_some h;have h0:=hc 0 hn;obtain⟨b,o,sp⟩:=a;have hsp:sp=none:=by
  cases sp with
  | none=>rfl
  | some x=>
    have e:cs[0]? =some cs[0]:=by grind
    rw [e]at h0;simp only [Addr.add,if_true]at h0;grind [World.cell?]
 subst hsp;refine⟨rfl,World.cells?_block h hn,hl,fun j hj=>?_⟩;grind [Addr.add]
def Abk (P:Program):Nat->List Field->Bool
 | _,[]=>true
 | o,f::fs=>f.offset==o&&Abk P (o+P.cellsOf f.type) fs
def okT (P:Program):Nat->TypeId->Bool
 | 0,_=>false
 | n+1,t=>match P.underlying t with
   | some .bool =>P.cellsOf t==1
   | some (.int _)=>P.cellsOf t==1
   | some .string =>P.cellsOf t==1
   | some (.slice e)=>P.cellsOf t==1&&decide (0<P.cellsOf e)&&okT P n e
   | some (.struct fs)=>Abk P 0 fs.toList&&P.cellsOf t==(fs.toList.map fun f=>P.cellsOf f.type).sum &&fs.toList.all (fun f=>okT P n f.type)
   | some (.array m e)=>P.cellsOf t==m*P.cellsOf e&&okT P n e
   | some (.pointer e)=>P.cellsOf t==1&&decide (0<P.cellsOf e)&&okT P n e
   | some (.interface _)=>P.cellsOf t==1
   | _=>false
variable {G:AG} (hG: ∀ b,b<w.heap.size-> ¬G.wr b)
def tw (enc:TypeId×Value->H) (P:Program) (w:World) (spare:Nat->Bool) (G:AG) (n:Nat) (t:TypeId):Prop:=
 ∀ (fuel:Nat) (vs:List Value) (x:DataW H×List MemPlace),DataW.trod enc P w 0 spare true fuel t vs=some x->(x.1.weights P t).all (· <=reachBytes)=true-> ∃ cs,Aj w G cs vs/\Bz P n t cs/\vs.length=P.cellsOf t
theorem WN {n:Nat}: ∀ {fs:List Field} {o m:Nat} {vs:List Value} {xs:List (DataW H×List MemPlace)},Abk P o fs=true->vs.length=o+(fs.map fun f=>P.cellsOf f.type).sum ->xs.length=fs.length->
 (∀ f∈fs,tw enc P w spare G n f.type)->
 (∀ (i:Nat) (f:Field),fs[i]? =some f->DataW.trod enc P w 0 spare true m f.type ((vs.drop f.offset).take (P.cellsOf f.type))=xs[i]?)->
 (DataW.weightsEach P (fs.map (·.type)) (xs.map (·.1))).all (· <=reachBytes)=true-> ∃ Df:List (List C),Aj w G Df.flatten (vs.drop o)/\UY (Bz P n) (fs.map (·.type)) Df
 | [],o,m,vs,xs,_,hl,_,_,_,_=>by
   refine⟨[],?_,rfl⟩;have:vs.drop o=[]:=by simp_all
   rw [this];simp [Aj]
 | f::fs,o,m,vs,xs,ht,hl,hx,hr,hf,hw=>by
   simp only [Abk,and_eq_true,beq_iff_eq]at ht;obtain⟨h1,h2⟩:=ht;cases xs with
   | nil=>simp at hx
   | cons x xs=>
     simp only [map_cons,List.sum_cons]at hl;simp only [map_cons,DataW.weightsEach,all_append,and_eq_true]at hw;have h0:=hf 0 f rfl;simp only [List.getElem?_cons_zero]at h0;obtain⟨cs,q1,q2,q3⟩:=hr f (by simp) m _ x h0 hw.1;obtain⟨Df,k1,k2⟩:=WN (o:=o+P.cellsOf f.type) (m:=m) (vs:=vs) (xs:=xs) h2 (by omega) (by grind) (fun g hg=>hr g (by simp [hg]))
      (fun i g hg=>by have:=hf (i+1) g (by simpa using hg);grind) hw.2
     refine⟨cs::Df,?_,cs,Df,rfl,q2,k2⟩;grind [drop_drop,take_append_drop,Za]
theorem Zc {n e:Nat} (hr:tw enc P w spare G n e): ∀ (k o m:Nat) (vs:List Value) (xs:List (DataW H×List MemPlace)),vs.length=o+k*P.cellsOf e->xs.length=k->
 (∀ i,i<k->DataW.trod enc P w 0 spare true m e ((vs.drop (o+i*P.cellsOf e)).take (P.cellsOf e))=xs[i]?)->
 (DataW.weightsAll P e (xs.map (·.1))).all (· <=reachBytes)=true-> ∃ Df:List (List C),Aj w G Df.flatten (vs.drop o)/\Df.length=k/\ ∀ ds∈Df,Bz P n e ds
 | 0,o,m,vs,xs,hl,_,_,_=>by refine⟨[],?_,rfl,by simp⟩;grind [Aj]
 | k+1,o,m,vs,xs,hl,hx,hf,hw=>by
   cases xs with
   | nil=>simp at hx
   | cons x xs=>
     simp only [map_cons,DataW.weightsAll,all_append,and_eq_true]at hw;have h0:=hf 0 (by omega);simp only [Nat.zero_mul,add_zero,List.getElem?_cons_zero]at h0;obtain⟨cs,q1,q2,q3⟩:=hr m _ x h0 hw.1;obtain⟨Df,k1,k2,k3⟩:=Zc hr k (o+P.cellsOf e) m vs xs (by grind) (by grind)
      (by grind) hw.2
     refine⟨cs::Df,?_,by simp [k2],?_⟩
     ·grind [drop_drop,take_append_drop,Za]
     grind
theorem Zd {n e:Nat} (auZ:0<P.cellsOf e) (hr:tw enc P w spare G n e): ∀ (k o m:Nat) (a:Addr) (xs:List (DataW H×List MemPlace)),xs.length=k->
 (∀ i,i<k->(w.cells? 0 (a.add (o+i*P.cellsOf e)) (P.cellsOf e)).bind (DataW.trod enc P w 0 spare true m e)=xs[i]?)->
 (DataW.weightsAll P e (xs.map (·.1))).all (· <=reachBytes)=true->
 ∃ Df:List (List C),Df.length=k/\(∀ ds∈Df,Bz P n e ds)/\(0<k->a.block<w.heap.size/\(o=0->a=⟨a.block,a.off,none⟩)/\An w G Df.flatten a.block (a.off+o))
 | 0,o,m,a,xs,_,_,_=>(by simp_all)
 | k+1,o,m,a,xs,hx,hf,hw=>by
   cases xs with
   | nil=>simp at hx
   | cons x xs=>
     simp only [map_cons,DataW.weightsAll,all_append,and_eq_true]at hw;have h0:=hf 0 (by omega);simp only [Nat.zero_mul,add_zero,List.getElem?_cons_zero,Option.bind_eq_some_iff]at h0;obtain⟨vs,hvs,htr⟩:=h0;obtain⟨cs,q1,q2,q3⟩:=hr m _ x htr hw.1;obtain⟨c1,c2,c3,c4⟩:=mB auZ hvs;obtain⟨Df,k2,k3,k4⟩:=Zd auZ hr k (o+P.cellsOf e) m a xs (by grind)
      (by grind) hw.2
     have abD:(a.add o).block =a.block:=by grind [Addr.add]
     have acy:(a.add o).off =a.off+o:=by grind [Addr.add]
     refine⟨cs::Df,by simp [k2],?_,fun _=>⟨by grind,fun ho=>?_,?_⟩⟩
     ·grind
     ·subst ho;have e:a.add 0=a:=rfl;grind
     grind [mA,Zb,UZ,List.length_eq_zero_iff]
theorem Ze {c:C} {v:Value} (h:Ad w G c v):Aj w G [c] [v]:=by simp_all [Aj]
theorem tx {len:Nat} {cs:List C} {v:Value} (hp:Ao cs=true) (h: ∃ a cap,v= .slice a len cap/\len<=cap/\cap<=maxLen/\(len=0->cs=[])/\
 (len=0\/ ∃ b off,a=some ⟨b,off,none⟩/\ ¬G.wr b/\b<w.heap.size/\An w G cs b off)):Ad w G (.sl len cs) v:=by grind [Ad]
theorem vx {cs:List C} {off:Nat} {v:Value} (hp:Ao cs=true) (h: ∃ b o,v= .pointer (some ⟨b,o+off,none⟩)/\ ¬G.wr b/\b<w.heap.size/\An w G cs b o):Ad w G (.abQ cs off) v:=by grind [Ad]
include hG in
theorem OR: ∀ (n:Nat) (t:TypeId),okT P n t=true->tw enc P w spare G n t
 | 0,t,h=>by simp [okT]at h
 | n+1,t,h=>by
   intro fuel vs x hx hw;unfold okT at h;unfold Bz;split at h
   ·rename_i ht;obtain⟨b,rfl,rfl⟩:=DataW.trod_bool ht hx;exact⟨[.bool b],by simp [Aj,Ad],by grind,by grind⟩
   ·rename_i k ht;obtain⟨z,rfl,rfl,hwf⟩:=DataW.trod_int ht hx;exact⟨[.int k z],by simp [Aj,Ad],by grind,by grind⟩
   ·rename_i ht;obtain⟨s,rfl,rfl,hs⟩:=DataW.trod_string ht hx;simp only [DataW.weights,all_cons,List.all_nil,Bool.and_true,decide_eq_true_eq]at hw;exact⟨[.str s.data.toList],by simp [Aj,Ad],by grind,by grind⟩
   ·rename_i e ht;simp only [and_eq_true,decide_eq_true_eq,beq_iff_eq]at h;rcases DataW.trod_slice ht hx with ⟨rfl,rfl⟩ | ⟨a,len,cap,elems,rest,m,rfl,rfl,rfl,_,hle,asa,hlen,hel,_,_⟩
    ·refine⟨[.sl 0 []],?_,?_,by grind⟩
     ·exact Ze (tx rfl (by grind))
     ·exact⟨[],rfl,by simp,by simp⟩
    ·simp only [DataW.weights,ht,all_cons,all_append,and_eq_true,decide_eq_true_eq,List.length_map]at hw;obtain⟨Df,k2,k3,k4⟩:=Zd h.1.2 (OR n e h.2) len 0 m a elems hlen (by grind) hw.2.1;refine⟨[.sl Df.length Df.flatten],?_,?_,by grind⟩
     ·refine Ze (tx (HX (fun ds hd=>M0 (k3 ds hd))) ⟨some a,cap,by rw [k2],by omega,asa,fun h0=>by rw [List.length_eq_zero_iff.1 h0];rfl,?_⟩);rw [k2];by_cases hk:0<len
      ·obtain⟨q1,q2,q3⟩:=k4 hk;exact .inr ⟨a.block,a.off,by rw [<-q2 rfl],hG _ q1,q1,q3⟩
      ·exact .inl (by omega)
     grind
   ·rename_i fs ht;simp only [and_eq_true,beq_iff_eq,all_eq_true]at h;obtain⟨⟨h1,h2⟩,h3⟩:=h;obtain⟨xs,m,rfl,rfl,hl,hx2,hf⟩:=DataW.trod_struct ht hx;simp only [DataW.weights,ht]at hw;obtain⟨Df,k1,k2⟩:=WN (fs:=fs.toList) (o:=0) (m:=m) (vs:=vs) (xs:=xs) (enc:=enc) (spare:=spare) (n:=n) h1 (by grind) (by grind) (fun f hf=>OR n f.type (h3 f hf))
     (by grind) hw
    grind
   ·rename_i m e ht;simp only [and_eq_true,beq_iff_eq]at h;obtain⟨xs,q,rfl,rfl,hl,hx2,hf⟩:=DataW.trod_array ht hx;simp only [DataW.weights,ht]at hw;obtain⟨Df,k1,k2,k3⟩:=Zc (OR n e h.2) m 0 q vs xs (by grind) hx2 (by grind) hw;grind
   ·rename_i e ht;simp only [and_eq_true,decide_eq_true_eq,beq_iff_eq]at h;rcases DataW.trod_pointer ht hx with ⟨rfl,rfl⟩ | ⟨a,cs',y,m,rfl,rfl,rfl,hc,hy⟩
    ·exact⟨[.acu],by simp [Aj,Ad],by grind,by grind⟩
    ·simp only [DataW.weights,ht]at hw;obtain⟨ds,q1,q2,q3⟩:=OR n e h.2 m cs' y hy hw;obtain⟨c1,c2,c3,c4⟩:=mB h.1.2 hc;refine⟨[.abQ ds 0],?_,by grind,by grind⟩;exact Ze (vx (M0 q2) ⟨a.block,a.off,by grind,hG _ c2,c2,(by grind [UZ])⟩)
   ·rename_i ms ht;cases fuel with
    | zero=>simp [DataW.trod]at hx
    | succ fuel=>
      unfold DataW.trod at hx;rw [ht]at hx;split at hx<;>simp_all
      ·exact⟨[.aak],by simp [Aj,Ad], .inl rfl⟩
      ·exact⟨[.held],by simp [Aj,Ad], .inr rfl⟩
   ·cases h
end
end Go.PL
namespace Go.PL
open Go Go.RowKit
section
variable {P:Program} {t e:TypeId} {n:Nat} {cs:List C}
theorem qC (hu:P.underlying t=some .bool) (h:Bz P n t cs): ∃ b,cs=[.bool b]/\True:=by cases n<;>simp_all [Bz]
theorem vy {k:IntKind} (hu:P.underlying t=some (.int k)) (h:Bz P n t cs): ∃ z,cs=[.int k z]/\(Lit.int k z).wf =true:=by cases n<;>grind [Bz]
theorem vz (hu:P.underlying t=some .string) (h:Bz P n t cs): ∃ s:List UInt8,cs=[.str s]/\s.length<=reachBytes:=by cases n<;>grind [Bz]
theorem Zf {α:Type} {R:List C->Prop} {enc:α->List C} {ok:α->Prop} (hd: ∀ ds,R ds-> ∃ x,ds=enc x/\ok x): ∀ {Df:List (List C)},(∀ ds∈Df,R ds)-> ∃ l:List α,Df=l.map enc/\ ∀ y∈l,ok y
 | [],_=>(by simp_all)
 | ds::Df,h=>by obtain⟨x,h1,h2⟩:=hd ds (h ds (by simp));obtain⟨l,h3,h4⟩:=Zf hd (fun d hd'=>h d (by simp [hd']): ∀ d∈Df,R d);refine⟨x::l,by grind,fun y hy=>?_⟩;grind
theorem xz {α:Type} {enc:α->List C} {ok:α->Prop} {b:Nat} (hu:P.underlying t=some (.slice e)) (hb:P.bytesOf e=b) (hd: ∀ n ds,Bz P n e ds-> ∃ x,ds=enc x/\ok x) (h:Bz P n t cs):
 ∃ l:List α,cs=[.sl l.length (l.flatMap enc)]/\l.length*b<=reachBytes/\ ∀ y∈l,ok y:=by
 cases n with
 | zero=>exact h.elim
 | succ n=>
   simp only [Bz,hu]at h;obtain⟨Df,h1,h2,h3⟩:=h;obtain⟨l,rfl,h5⟩:=Zf (hd n) h3;grind
theorem mD {α:Type} (f:α->C): ∀ l:List α,l.flatMap (fun x=>[f x])=l.map f
 | []=>rfl
 | a::l=>by rw [flatMap_cons,mD f l];rfl
theorem Br {fs:Array Field} {ts:List TypeId} (hu:P.underlying t=some (.struct fs)) (hts:fs.toList.map (·.type)=ts) (h:Bz P n t cs): ∃ (m:Nat) (Df:List (List C)),cs=Df.flatten/\UY (Bz P m) ts Df:=by cases n<;>grind [Bz]
theorem fH {α:Type} {enc:α->List C} {n:Nat} (hn: ∀ x,(enc x).length =n) (l:List α) {i:Nat} (d:α) (hi:i<l.length) (j m:Nat) (hj:j+m<=n):
 ((l.flatMap enc).drop (i*n+j)).take m=((enc (l.getD i d)).drop j).take m:=by
 induction l generalizing i with
 | nil=>simp at hi
 | cons a l ih=>
   cases i with
   | zero=>
     grind
   | succ i=>
     have:=ih (i:=i) (by simpa using hi);rw [List.getD_cons_succ, <-this,flatMap_cons];have e:(i+1)*n+j=(enc a).length +(i*n+j):=by grind
     simp_all [List.drop_append,List.drop_of_length_le]
theorem xA {α:Type} {enc:α->List C} {n:Nat} (hn: ∀ x,(enc x).length =n) (l:List α) {i:Nat} (d:α) (hi:i<l.length) (j:Nat) (hj:j<n):
 (l.flatMap enc).getD (i*n+j) C.any=(enc (l.getD i d)).getD j C.any:=by
 have h:=fH hn l d hi j 1 (by omega);have e: ∀ (m:List C) (k:Nat),m.getD k C.any=((m.drop k).take 1).getD 0 C.any:=by grind
 grind
theorem BQ {α:Type} {enc:α->List C} {n:Nat} (hn: ∀ x,(enc x).length =n): ∀ l:List α,(l.flatMap enc).length =l.length*n
 | []=>by simp
 | a::l=>by rw [flatMap_cons,List.length_append,hn,BQ hn l,List.length_cons,Nat.add_mul];omega
end
end Go.PL
namespace Go.PL
open Go Go.RowKit
def A1:List Prop->Prop
 | []=>True
 | p::ps=>p/\A1 ps
theorem Ak: ∀ {a b:List Prop},A1 (a++b)↔A1 a/\A1 b
 | [],b=>by simp [A1]
 | p::a,b=>by simp_all [A1,Ak,and_assoc]
abbrev CV:=Option (List Prop×V)
def Yv {α:Type} (b:Bool) (r:α):Option α:=match b with
 | true=>some r
 | false=>none
theorem BM {α:Type} {b:Bool} {r x:α} (h:Yv b r=some x):b=true/\r=x:=by cases b<;>simp [Yv]at h;grind
def AX (st:St) (g:Bool) (x:Operand):List Prop×V:=
 match st.ev x with
 | .g c v=>([g=true->c=true],v)
 | v=>([],v)
theorem P3 {st:St} {g:Bool} {x:Operand} (hl:A1 (AX st g x).1):(st.arg g x).1/\(st.arg g x).2=(AX st g x).2:=by
 unfold AX at *;unfold St.arg;generalize st.ev x=e at *;cases e with
 | g c v=>exact⟨hl.1,rfl⟩
 | c _=>grind
 | agg _=>grind
 | tup _=>grind
 | undef=>grind
def Ih (st:St) (g:Bool):List Operand->List Prop×List V
 | []=>([],[])
 | x::xs=>((AX st g x).1++(Ih st g xs).1,(AX st g x).2::(Ih st g xs).2)
theorem SB {st:St} {g:Bool}: ∀ {xs:List Operand},A1 (Ih st g xs).1->(st.args g xs).1/\(st.args g xs).2=(Ih st g xs).2
 | [],_=>⟨trivial,rfl⟩
 | x::xs,hl=>by obtain⟨h1,h2⟩:=Ak.1 hl;have a:=P3 (st:=st) (g:=g) (x:=x) h1;have b:=SB (st:=st) (g:=g) (xs:=xs) h2;simp only [St.args,Ih];exact⟨⟨a.1,b.1⟩,by rw [a.2,b.2]⟩
def jg:V->Option (Option Bool×Bool)
 | .c (.bool q)=>some (none,q)
 | .g c (.c (.bool q))=>some (some c,q)
 | _=>none
def xB (p:Prop):Option Bool->List Prop
 | none=>[]
 | some c=>[p->c=true]
theorem WO {v:V} {c:Option Bool} {q:Bool} (h:jg v=some (c,q)):Rb v=some (c.getD true,q):=by
 unfold jg at h;split at h<;>simp at h
 ·obtain⟨rfl,rfl⟩:=h;rfl
 ·obtain⟨rfl,rfl⟩:=h;rfl
theorem Zg {p:Prop} {c:Option Bool} (h:A1 (xB p c)):p->c.getD true=true:=by
 cases c with
 | none=>intro _;rfl
 | some c=>exact h.1
def AdL (l:List Prop) (p:Bool) (a b:V):CV:=
 match jg a,jg b with
 | some (ca,q),some (cb,r)=>some (l++(xB (p=true) ca++xB (p=false) cb), .c (.bool (if p then q else r)))
 | _,_=>none
def tz (P:Program) (t:TypeId) (st:St) (l:List Prop):V->CV
 | .c (.ptr id off)=>match K0 P t,st.acS id with
   | some (ag,n),some e=>Yv (Nat.ble (off+n) e.cs.length&&(ag||Nat.blt 0 n)) (l,toV ag off n e.cs)
   | _,_=>none
 | .c (.abQ cs off)=>match K0 P t with
   | some (ag,n)=>Yv (Nat.ble (off+n) cs.length&&(ag||Nat.blt 0 n)) (l,toV ag off n cs)
   | _=>none
 | _=>none
theorem WP {P:Program} {t:TypeId} {st:St} {l l':List Prop} {x v:V} (h:tz P t st l x=some (l',v)):l=l'/\(DM P t st x).1/\(DM P t st x).2=v:=by
 unfold tz at h;unfold DM;split at h
 ·split at h
  ·rename_i ag n e h1 h2;obtain⟨hb,hr⟩:=BM h;simp_all
  ·cases h
 ·split at h
  ·rename_i ag n h1;obtain⟨hb,hr⟩:=BM h;simp_all
  ·cases h
 ·cases h
def xC (P:Program) (t:TypeId) (st:St) (l:List Prop) (u:V):V->CV
 | .c (.ptr id off)=>match K0 P t,st.acS id with
   | some (ag,n),some e=>Yv (ag||Nat.blt 0 n) (l++[off+n<=e.cs.length/\toV ag off n e.cs=u],u)
   | _,_=>none
 | .c (.abQ cs off)=>match K0 P t with
   | some (ag,n)=>Yv (ag||Nat.blt 0 n) (l++[off+n<=cs.length/\toV ag off n cs=u],u)
   | _=>none
 | _=>none
theorem mE {P:Program} {t:TypeId} {st:St} {l l':List Prop} {x u v:V} (h:xC P t st l u x=some (l',v)) (hl:A1 l'):A1 l/\(DM P t st x).1/\(DM P t st x).2=v:=by
 unfold xC at h;unfold DM;split at h
 ·split at h
  ·rename_i ag n e h1 h2;obtain⟨hb,hr⟩:=BM h;simp only [injEq]at hr;obtain⟨rfl,rfl⟩:=hr;obtain⟨q1,q2,_⟩:=Ak.1 hl;simp_all
  ·cases h
 ·split at h
  ·rename_i ag n h1;obtain⟨hb,hr⟩:=BM h;simp only [injEq]at hr;obtain⟨rfl,rfl⟩:=hr;obtain⟨q1,q2,_⟩:=Ak.1 hl;simp_all
  ·cases h
 ·cases h
def kEq:BinOp->IntKind->IntKind->Bool
 | .shl,_,_ | .shr,_,_=>true
 | _,k,k'=>k==k'
theorem mF {op:BinOp} {k k':IntKind} (h:kEq op k k'=true):L8 op k k':=by unfold kEq at h;grind [L8]
def AeE (op:BinOp) (b:Int):List Prop:=
 match op with
 | .quo | .rem =>[b ≠ 0]
 | .shl | .shr =>[0<=b]
 | _=>[]
theorem vC {op:BinOp} {k:IntKind} {a b:Int} (h:A1 (AeE op b)):(K1 op k a b).1:=by cases op<;>simp_all [AeE,K1,A1]
def AeF (op:BinOp) (a b:List UInt8):Option (List Prop):=
 match op with
 | .add =>some [a.length+b.length<=maxLen]
 | .eql | .neq | .lss | .leq | .gtr | .geq =>some []
 | _=>none
theorem vD {op:BinOp} {a b:List UInt8} {l:List Prop} (h:AeF op a b=some l) (hl:A1 l):(L7 op a b).1:=by cases op<;>simp_all [AeF,L7]<;>(subst h;exact hl.1)
def AeG (P:Program) (op:BinOp) (t:TypeId) (kc:Bool) (l:List Prop):V->V->CV
 | .c (.int k a), .c (.int k' b)=>Yv (kEq op k k') (l++AeE op b, .c (K1 op k a b).2)
 | .c (.str a), .c (.str b)=>match AeF op a b with
   | some c=>some (l++c, .c (L7 op a b).2)
   | none=>none
 | .agg cs, .agg ds=>match op with
   | .eql =>Yv (qu P t cs ds) (l, .c (.bool (BW cs ds)))
   | .neq =>Yv (qu P t cs ds) (l, .c (.bool !(BW cs ds)))
   | _=>none
 | x,y=>some (l++[(XM P op t kc x y).1],(XM P op t kc x y).2)
def M1 (P:Program) (op:BinOp) (t:TypeId) (k:Bool) (x y:V):Prop×V:=
 match x,y with
 | .agg cs, .agg ds=>mu P op t cs ds
 | x,y=>XM P op t k x y
theorem qD {P:Program} {op:BinOp} {t:TypeId} {kc:Bool} {l l':List Prop} {x y v:V} (h:AeG P op t kc l x y=some (l',v)) (hl:A1 l'):A1 l/\(M1 P op t kc x y).1/\(M1 P op t kc x y).2=v:=by
 unfold AeG at h;split at h
 ·obtain⟨hb,hr⟩:=BM h;simp only [injEq]at hr;obtain⟨rfl,rfl⟩:=hr;obtain⟨q1,q2⟩:=Ak.1 hl;exact⟨q1,⟨mF hb,vC q2⟩,rfl⟩
 ·split at h
  ·rename_i c hc;simp only [Option.some.injEq,injEq]at h;obtain⟨rfl,rfl⟩:=h;obtain⟨q1,q2⟩:=Ak.1 hl;exact⟨q1,vD hc q2,rfl⟩
  ·cases h
 ·split at h
  ·obtain⟨hb,hr⟩:=BM h;simp only [injEq]at hr;exact⟨hr.1▸hl,hb,hr.2⟩
  ·obtain⟨hb,hr⟩:=BM h;simp only [injEq]at hr;exact⟨hr.1▸hl,hb,hr.2⟩
  ·cases h
 ·rename_i Tj;simp only [Option.some.injEq,injEq]at h;obtain⟨rfl,rfl⟩:=h;obtain⟨q1,q2⟩:=Ak.1 hl;have e:M1 P op t kc x y=XM P op t kc x y:=by grind [M1]
  rw [e];exact⟨q1,q2.1,rfl⟩
def AeH (P:Program) (t:TypeId) (st:St) (l:List Prop) (x y:V):CV:=
 match y with
 | .c (.int _ i)=>match x with
   | .c (.sl len cs)=>match Dk P t with
     | some (_,n)=>some (l++[0<=i/\i<len], .c (.abQ cs (i.toNat*n)))
     | none=>none
   | .c (.e_ id)=>match Dk P t,st.acS id with
     | some (_,n),some e=>match e.row with
       | some (_,_,len)=>some (l++[0<=i/\i<len], .c (.ptr id (i.toNat*n)))
       | none=>none
     | _,_=>none
   | .c (.bsl id off len)=>match Dk P t with
     | some (_,n)=>some (l++[0<=i/\i<len], .c (.ptr id (off+i.toNat*n)))
     | none=>none
   | .c (.ptr id off)=>match Gx P t with
     | some (k,_,n)=>some (l++[0<=i/\i<k], .c (.ptr id (off+i.toNat*n)))
     | none=>none
   | .c (.abQ cs off)=>match Gx P t with
     | some (k,_,n)=>some (l++[0<=i/\i<k], .c (.abQ cs (off+i.toNat*n)))
     | none=>none
   | _=>none
 | _=>none
theorem qE {P:Program} {t:TypeId} {st:St} {l l':List Prop} {x y v:V} (h:AeH P t st l x y=some (l',v)) (hl:A1 l'):A1 l/\(Ch P t st x y).1/\(Ch P t st x y).2=v:=by
 unfold AeH at h;unfold Ch;split at h
 ·split at h
  ·split at h
   ·rename_i h1;simp only [Option.some.injEq,injEq]at h;obtain⟨rfl,rfl⟩:=h;obtain⟨q1,q2,_⟩:=Ak.1 hl;grind
   ·cases h
  ·split at h
   ·rename_i h1 h2;split at h
    ·rename_i h3;simp only [Option.some.injEq,injEq]at h;obtain⟨rfl,rfl⟩:=h;obtain⟨q1,q2,_⟩:=Ak.1 hl;grind
    ·cases h
   ·cases h
  ·split at h
   ·rename_i h1;simp only [Option.some.injEq,injEq]at h;obtain⟨rfl,rfl⟩:=h;obtain⟨q1,q2,_⟩:=Ak.1 hl;grind
   ·cases h
  ·split at h
   ·rename_i h1;simp only [Option.some.injEq,injEq]at h;obtain⟨rfl,rfl⟩:=h;obtain⟨q1,q2,_⟩:=Ak.1 hl;grind
   ·cases h
  ·split at h
   ·rename_i h1;simp only [Option.some.injEq,injEq]at h;obtain⟨rfl,rfl⟩:=h;obtain⟨q1,q2,_⟩:=Ak.1 hl;grind
   ·cases h
  ·cases h
 ·cases h
def AeI (P:Program) (t:TypeId) (l:List Prop) (x:V) (lo hi:Option V):CV:=
 match x with
 | .c (.str s)=>match df s.length lo hi with
   | some (a,h)=>Yv (Eh P t) (l++[0<=a/\a<=h/\h<=s.length], .c (.str ((s.drop a.toNat).take (h.toNat - a.toNat))))
   | none=>none
 | .c (.sl len cs)=>match Dk P t,df len lo hi with
   | some (_,n),some (a,h)=>some (l++[0<=a/\a<=h/\h<=len,cs.length=len*n], .c (.sl (h.toNat - a.toNat) ((cs.drop (a.toNat*n)).take ((h.toNat - a.toNat)*n))))
   | _,_=>none
 | .c (.ptr id off)=>match Gx P t with
   | some (k,_,n)=>match df k lo hi with
     | some (a,h)=>some (l++[0<=a/\a<k/\a<=h/\h<=k], .c (.bsl id (off+a.toNat*n) (h.toNat - a.toNat)))
     | none=>none
   | none=>none
 | _=>none
theorem qF {P:Program} {t:TypeId} {l l':List Prop} {x v:V} {lo hi:Option V} (h:AeI P t l x lo hi=some (l',v)) (hl:A1 l'):A1 l/\(Hi P t x lo hi).1/\(Hi P t x lo hi).2=v:=by
 unfold AeI at h;unfold Hi;split at h
 ·split at h
  ·rename_i a hh h1;obtain⟨hb,hr⟩:=BM h;simp only [injEq]at hr;obtain⟨rfl,rfl⟩:=hr;obtain⟨q1,q2,_⟩:=Ak.1 hl;grind
  ·cases h
 ·split at h
  ·rename_i h1 h2;simp only [Option.some.injEq,injEq]at h;obtain⟨rfl,rfl⟩:=h;obtain⟨q1,q2,q3,_⟩:=Ak.1 hl;grind
  ·cases h
 ·split at h
  ·rename_i h1;split at h
   ·rename_i h2;simp only [Option.some.injEq,injEq]at h;obtain⟨rfl,rfl⟩:=h;obtain⟨q1,q2,_⟩:=Ak.1 hl;grind
   ·cases h
  ·cases h
 ·cases h
def jh (st:St) (g:Bool):Option Operand->List Prop×Option V
 | none=>([],none)
 | some x=>((AX st g x).1,some (AX st g x).2)
theorem Abl {st:St} {g:Bool}: ∀ {x:Option Operand},A1 (jh st g x).1->(C5 st g x).1/\(C5 st g x).2=(jh st g x).2
 | none,_=>⟨trivial,rfl⟩
 | some x,hl=>by grind [P3,C5,jh]
def AeJ (P:Program) (s:TypeId) (f:Nat) (l:List Prop):V->CV
 | .c (.ptr id off)=>match xu P s f with
   | some (o,_,n)=>Yv (Nat.blt 0 n) (l, .c (.ptr id (off+o)))
   | none=>none
 | .c (.abQ cs off)=>match xu P s f with
   | some (o,_,n)=>Yv (Nat.blt 0 n) (l, .c (.abQ cs (off+o)))
   | none=>none
 | _=>none
theorem qG {P:Program} {s:TypeId} {f:Nat} {l l':List Prop} {x v:V} (h:AeJ P s f l x=some (l',v)):l=l'/\(B2 P s f x).1/\(B2 P s f x).2=v:=by
 unfold AeJ at h;unfold B2;split at h
 ·split at h
  ·rename_i h1;obtain⟨hb,hr⟩:=BM h;simp_all
  ·cases h
 ·split at h
  ·rename_i h1;obtain⟨hb,hr⟩:=BM h;simp_all
  ·cases h
 ·cases h
def qH (P:Program) (t:TypeId) (f:Nat) (l:List Prop):V->CV
 | .agg cs=>match xu P t f with
   | some (o,ag,n)=>Yv (Nat.ble (o+n) cs.length&&(ag||Nat.blt 0 n)) (l,toV ag o n cs)
   | none=>none
 | _=>none
theorem ji {P:Program} {s:TypeId} {f:Nat} {l l':List Prop} {x v:V} (h:qH P s f l x=some (l',v)):l=l'/\(JS P s f x).1/\(JS P s f x).2=v:=by
 unfold qH at h;unfold JS;split at h
 ·split at h
  ·rename_i h1;obtain⟨hb,hr⟩:=BM h;simp_all
  ·cases h
 ·cases h
def xD (P:Program) (t:TypeId) (l:List Prop) (x y:V) (u:Option V):CV:=
 match y with
 | .c (.int _ i)=>match x with
   | .c (.str s)=>Yv (Eh P t) (l++[0<=i/\i<s.length], .c (.int .u8 (s.getD i.toNat 0).toNat))
   | .agg cs=>match Gx P t with
     | some (k,e,n)=>match K0 P e,u with
       | some (ag,_),some u=>Yv (Nat.blt 0 n) (l++[(0<=i/\i<k)/\i.toNat*n+n<=cs.length/\toV ag (i.toNat*n) n cs=u],u)
       | _,_=>none
     | none=>none
   | _=>none
 | _=>none
theorem mG {P:Program} {t:TypeId} {l l':List Prop} {x y v:V} {u:Option V} (h:xD P t l x y u=some (l',v)) (hl:A1 l'):A1 l/\(IM P t x y).1/\(IM P t x y).2=v:=by
 unfold xD at h;unfold IM;split at h
 ·split at h
  ·obtain⟨hb,hr⟩:=BM h;simp only [injEq]at hr;obtain⟨rfl,rfl⟩:=hr;obtain⟨q1,q2,_⟩:=Ak.1 hl;grind
  ·split at h
   ·rename_i h1;split at h
    ·rename_i h2;obtain⟨hb,hr⟩:=BM h;simp only [injEq]at hr;obtain⟨rfl,rfl⟩:=hr;obtain⟨q1,q2,_⟩:=Ak.1 hl;simp_all
    ·cases h
   ·cases h
  ·cases h
 ·cases h
def unC (op:UnOp) (l:List Prop):V->CV
 | .c (.int k n)=>match op with
   | .neg =>some (l, .c (.int k (k.wrap (0 - n))))
   | .xor =>some (l, .c (.int k (LH k (if k.signed then -1 else k.max) n)))
   | _=>none
 | .c (.bool b)=>match op with
   | .not =>some (l, .c (.bool !b))
   | _=>none
 | _=>none
theorem vE {op:UnOp} {l l':List Prop} {x v:V} (h:unC op l x=some (l',v)):l=l'/\(unV op x).1/\(unV op x).2=v:=by unfold unC at h;grind [unV]
def xE (P:Program) (src dst:TypeId) (st:St) (l:List Prop):V->CV
 | .c (.int _ n)=>match ma P dst with
   | some k=>Yv (Abe P src) (l, .c (.int k (k.wrap n)))
   | none=>none
 | .c (.str s)=>Yv (Eh P src&&Eh P dst) (l, .c (.str s))
 | x=>some (l++[(K4 P src dst st x).1],(K4 P src dst st x).2)
theorem mH {P:Program} {src dst:TypeId} {st:St} {l l':List Prop} {x v:V} (h:xE P src dst st l x=some (l',v)) (hl:A1 l'):A1 l/\(K4 P src dst st x).1/\(K4 P src dst st x).2=v:=by
 unfold xE at h;split at h
 ·grind [K4,BM]
 ·grind [K4,BM]
 ·simp only [Option.some.injEq,injEq]at h;obtain⟨rfl,rfl⟩:=h;obtain⟨q1,q2,_⟩:=Ak.1 hl;grind
def AeK (P:Program) (t:TypeId) (st:St) (l:List Prop):V->CV
 | .c (.str s)=>Yv (Eh P t) (l, .c (.int .i64 s.length))
 | .c (.sl len _)=>Yv (EV P t) (l, .c (.int .i64 len))
 | .c (.e_ id)=>match st.acS id with
   | some e=>match e.row with
     | some (_,_,len)=>Yv (EV P t) (l, .c (.int .i64 len))
     | none=>none
   | none=>none
 | x=>some (l++[(Q9 P t st x).1],(Q9 P t st x).2)
theorem qI {P:Program} {t:TypeId} {st:St} {l l':List Prop} {x v:V} (h:AeK P t st l x=some (l',v)) (hl:A1 l'):A1 l/\(Q9 P t st x).1/\(Q9 P t st x).2=v:=by
 unfold AeK at h;split at h
 ·obtain⟨hb,hr⟩:=BM h;simp only [injEq]at hr;exact⟨hr.1▸hl,hb,hr.2⟩
 ·obtain⟨hb,hr⟩:=BM h;simp only [injEq]at hr;exact⟨hr.1▸hl,hb,hr.2⟩
 ·grind [Q9,BM]
 ·simp only [Option.some.injEq,injEq]at h;obtain⟨rfl,rfl⟩:=h;obtain⟨q1,q2,_⟩:=Ak.1 hl;grind
def Abm (P:Program) (st:St) (g:Bool) (op:Op):Option V->CV
 | none=>some ([(DZ P st g op).1],(DZ P st g op).2)
 | some u=>some ([(DZ P st g op).1/\(DZ P st g op).2=u],u)
theorem Ri {P:Program} {st:St} {g:Bool} {u:Option V} {op:Op} {l:List Prop} {v:V} (h:Abm P st g op u=some (l,v)) (hl:A1 l):(DZ P st g op).1/\(DZ P st g op).2=v:=by
 cases u<;>simp only [Abm,Option.some.injEq,injEq]at h<;>obtain⟨rfl,rfl⟩:=h
 ·exact⟨hl.1,rfl⟩
 ·exact hl.1
def op1 (P:Program) (st:St) (g:Bool) (u:Option V):Op->CV
 | .move x=>some (AX st g x)
 | .assign x=>some (AX st g x)
 | .pick c a b=>match (AX st g c).2 with
   | .c (.bool p)=>AdL (AX st g c).1 p (st.ev a) (st.ev b)
   | _=>none
 | .load t x=>match u with
   | none=>tz P t st (AX st g x).1 (AX st g x).2
   | some u=>xC P t st (AX st g x).1 u (AX st g x).2
 | .binOp op t x y _=>AeG P op t (BL x||BL y) ((AX st g x).1++(AX st g y).1) (AX st g x).2 (AX st g y).2
 | .unOp op _ x=>unC op (AX st g x).1 (AX st g x).2
 | .convert src dst x=>xE P src dst st (AX st g x).1 (AX st g x).2
 | .slice t x lo hi none=>AeI P t ((AX st g x).1++((jh st g lo).1++(jh st g hi).1)) (AX st g x).2 (jh st g lo).2 (jh st g hi).2
 | .fieldAddr s x f=>AeJ P s f (AX st g x).1 (AX st g x).2
 | .field t x f=>qH P t f (AX st g x).1 (AX st g x).2
 | .indexAddr t x i=>AeH P t st ((AX st g x).1++(AX st g i).1) (AX st g x).2 (AX st g i).2
 | .index t x i=>xD P t ((AX st g x).1++(AX st g i).1) (AX st g x).2 (AX st g i).2 u
 | .call c=>match c.callee,c.args.toList,c.argTypes.toList with
   | .builtin .len,[x],[t]=>AeK P t st (AX st g x).1 (AX st g x).2
   | _,_,_=>Abm P st g (.call c) none
 | op=>Abm P st g op u
theorem fI {P:Program} {st:St} {g:Bool} {u:Option V} {op:Op} {l:List Prop} {v:V} (h:op1 P st g u op=some (l,v)) (hl:A1 l):(DZ P st g op).1/\(DZ P st g op).2=v:=by
 have A: ∀ x,A1 (AX st g x).1->(st.arg g x).1/\(st.arg g x).2=(AX st g x).2:=fun x hx=>P3 hx;have O: ∀ x,A1 (jh st g x).1->(C5 st g x).1/\(C5 st g x).2=(jh st g x).2:=fun x hx=>Abl hx;cases op<;>simp only [op1]at h<;>try exact Ri h hl
 case move x=>
  grind [DZ,rd]
 case assign x=>
  grind [DZ,rd]
 case pick c a b=>
  split at h
  ·rename_i p hp;unfold AdL at h;split at h
   ·rename_i ca q cb r h1 h2;simp only [Option.some.injEq,injEq]at h;obtain⟨rfl,rfl⟩:=h;obtain⟨q1,q2⟩:=Ak.1 hl;obtain⟨q2,q3⟩:=Ak.1 q2;obtain⟨k1,k2⟩:=A c q1;rw [hp]at k2;simp only [DZ,rd,M_,k2,YV,WO h1,WO h2];exact⟨⟨k1,Zg q2,Zg q3⟩,trivial⟩
   ·cases h
  ·cases h
 case load t x=>
  split at h
  ·have:=WP h;grind [DZ,rd,M_]
  ·have:=mE h hl;grind [DZ,rd,M_]
 case binOp op t x y ty=>
  have:=qD h hl;obtain⟨q1,q2⟩:=Ak.1 this.1;obtain⟨k1,k2⟩:=A x q1;obtain⟨k3,k4⟩:=A y q2;have e:DZ P st g (.binOp op t x y ty)=((st.arg g x).1/\(st.arg g y).1/\(M1 P op t (BL x||BL y) (st.arg g x).2 (st.arg g y).2).1,(M1 P op t (BL x||BL y) (st.arg g x).2 (st.arg g y).2).2):=by
   simp only [DZ];unfold M1;split
   ·grind
   ·rename_i Tj;split
    ·grind
    ·rfl
  grind
 case unOp op t x=>
  have:=vE h;grind [DZ,rd,M_]
 case convert s d x=>
  have:=mH h hl;grind [DZ,rd,M_]
 case slice t x lo hi mx=>
  cases mx with
  | some m=>exact Ri h hl
  | none=>
    have:=qF h hl;grind [Ak,DZ,rd,M_]
 case fieldAddr s x f=>
  have:=qG h;grind [DZ,rd,M_]
 case field s x f=>
  have:=ji h;grind [DZ,rd,M_]
 case indexAddr t x y=>
  have:=qE h hl;grind [Ak,DZ,rd,M_]
 case index t x y=>
  have:=mG h hl;grind [Ak,DZ,rd,M_]
 case call c=>
  split at h
  ·rename_i x t h1 h2 h3;have:=qI h hl;grind [DZ,rd,Rc,M_]
  ·exact Ri h hl
def opT (P:Program) (st:St) (g:Bool) (u:Option V) (op:Op):CV:=
 match u with
 | none=>op1 P st g none op
 | some u=>match op1 P st g (some u) op with
   | some (l,v)=>some (l++[v=u],u)
   | none=>none
theorem P4 {P:Program} {st:St} {g:Bool} {u:Option V} {op:Op} {l:List Prop} {v:V} (h:opT P st g u op=some (l,v)) (hl:A1 l):(DZ P st g op).1/\(DZ P st g op).2=v:=by
 cases u with
 | none=>grind [opT,fI]
 | some u=>
   simp only [opT]at h;split at h
   ·rename_i l1 v1 h1;simp only [Option.some.injEq,injEq]at h;obtain⟨rfl,rfl⟩:=h;obtain⟨q1,q2,_⟩:=Ak.1 hl;grind [fI]
   ·cases h
end Go.PL
namespace Go.PL
open Go Go.RowKit
mutual
def C.f_ (p:Ah->Bool):C->Bool
 | .e_ i=>p i
 | .ptr i _=>p i
 | .bsl i _ _=>p i
 | .rsl i _ _ _=>p i
 | .bld i _=>p i
 | .agA i=>p i
 | .clo _ cs=>CJ p cs
 | .bmv _ cs=>CJ p cs
 | _=>false
def CJ (p:Ah->Bool):List C->Bool
 | []=>false
 | c::cs=>c.f_ p||CJ p cs
end
mutual
def V.f_ (p:Ah->Bool):V->Bool
 | .c x=>x.f_ p
 | .agg cs=>CJ p cs
 | .tup vs=>OS p vs
 | .g _ v=>v.f_ p
 | .undef =>false
def OS (p:Ah->Bool):List V->Bool
 | []=>false
 | v::vs=>v.f_ p||OS p vs
end
def Cr (p:Ah->Bool) (c:C):C:=if c.f_ p then .any else c
def BD (p:Ah->Bool) (v:V):V:=if v.f_ p then .undef else v
def Aw.b_ (p:Ah->Bool) (e:Aw):Aw:=match e with
 | ⟨i,r,cs,true⟩=>⟨i,r,cs,true⟩
 | ⟨i,r,cs,false⟩=>⟨i,r,cs.map (Cr p),false⟩
theorem Aw.t_ (p:Ah->Bool) (e:Aw):(e.b_ p).id =e.id:=by obtain⟨i,r,cs,_ | _⟩:=e<;>rfl
theorem Aw.agF (p:Ah->Bool) (e:Aw):(e.b_ p).pu =e.pu:=by obtain⟨i,r,cs,_ | _⟩:=e<;>rfl
mutual
theorem qJ (p:Ah->Bool) (i:Ah): ∀ c:C,c.f_ p=false->c.p_ i=true->p i=false
 | .e_ _,h,k=>by simp_all [C.f_,C.p_]
 | .ptr _ _,h,k=>by simp_all [C.f_,C.p_]
 | .rsl _ _ _ _,h,k=>by simp_all [C.f_,C.p_]
 | .bsl _ _ _,h,k=>by simp_all [C.f_,C.p_]
 | .bld _ _,h,k=>by simp_all [C.f_,C.p_]
 | .agA _,h,k=>by simp_all [C.f_,C.p_]
 | .clo _ cs,h,k=>Zh p i cs (by simpa only [C.f_] using h) (by simpa only [C.p_] using k)
 | .bmv _ cs,h,k=>Zh p i cs (by simpa only [C.f_] using h) (by simpa only [C.p_] using k)
 | .int ..,_,k=>by simp [C.p_]at k
 | .bool _,_,k=>by simp [C.p_]at k
 | .str _,_,k=>by simp [C.p_]at k
 | .sl ..,_,k=>by simp [C.p_]at k
 | .abQ ..,_,k=>by simp [C.p_]at k
 | .acu,_,k=>by simp [C.p_]at k
 | .aak,_,k=>by simp [C.p_]at k
 | .s_,_,k=>by simp [C.p_]at k
 | .fn _,_,k=>by simp [C.p_]at k
 | .held,_,k=>by simp [C.p_]at k
 | .any,_,k=>by simp [C.p_]at k
 | .agK ..,_,k=>by simp [C.p_]at k
 | .mp _,_,k=>by simp [C.p_]at k
 | .isl ..,_,k=>by simp [C.p_]at k
theorem Zh (p:Ah->Bool) (i:Ah): ∀ cs:List C,CJ p cs=false->BP i cs=true->p i=false
 | [],_,k=>by simp [BP]at k
 | c::cs,h,k=>by
   simp only [CJ,or_eq_false_iff]at h;simp only [BP,or_eq_true]at k;rcases k with k | k
   ·exact qJ p i c h.1 k
   ·exact Zh p i cs h.2 k
end
mutual
theorem jk (p:Ah->Bool) (i:Ah): ∀ v:V,v.f_ p=false->v.p_ i=true->p i=false
 | .c x,h,k=>(by grind [qJ,V.f_,V.p_])
 | .agg cs,h,k=>(by grind [Zh,V.f_,V.p_])
 | .tup vs,h,k=>tA p i vs (by simpa only [V.f_] using h) (by simpa only [V.p_] using k)
 | .g b v,h,k=>by simp only [V.p_,and_eq_true]at k;exact jk p i v (by simpa only [V.f_] using h) k.1
 | .undef,_,k=>by simp [V.p_]at k
theorem tA (p:Ah->Bool) (i:Ah): ∀ vs:List V,OS p vs=false->LG i vs=true->p i=false
 | [],_,k=>by simp [LG]at k
 | v::vs,h,k=>by
   simp only [OS,or_eq_false_iff]at h;simp only [LG,or_eq_true]at k;rcases k with k | k
   ·exact jk p i v h.1 k
   ·exact tA p i vs h.2 k
end
theorem Zi {p:Ah->Bool} {i:Ah} {c:C} (h:(Cr p c).p_ i=true):p i=false:=by grind [Cr,C.p_,qJ]
theorem Zj {p:Ah->Bool} {i:Ah}: ∀ {cs:List C},BP i (cs.map (Cr p))=true->p i=false
 | [],h=>by simp [BP]at h
 | c::cs,h=>by
   simp only [map_cons,BP,or_eq_true]at h;rcases h with h | h
   ·exact Zi h
   ·exact Zj h
theorem Ka {p:Ah->Bool} {i:Ah} {v:V} (h:(BD p v).p_ i=true):p i=false:=by grind [BD,V.p_,jk]
theorem WQ {p:Ah->Bool} {i:Ah}: ∀ {vs:List V},LG i (vs.map (BD p))=true->p i=false
 | [],h=>by simp [LG]at h
 | v::vs,h=>by
   simp only [map_cons,LG,or_eq_true]at h;rcases h with h | h
   ·exact Ka h
   ·exact WQ h
theorem Zk {w:World} {G:AG} {p:Ah->Bool} {c:C} {v:Value} (h:Ad w G c v):Ad w G (Cr p c) v:=by
 unfold Cr;split
 ·simp only [Ad];exact h.one
 ·exact h
theorem M2 {w:World} {G:AG} {p:Ah->Bool}: ∀ {cs:List C} {b o:Nat},An w G cs b o->An w G (cs.map (Cr p)) b o
 | [],_,_,_=>by grind
 | c::cs,b,o,h=>by simp only [An,map_cons]at h ⊢;exact⟨h.1.imp fun v q=>⟨q.1,Zk q.2⟩,M2 h.2⟩
theorem Kb {w:World} {G:AG} {p:Ah->Bool} {x:V} {v:Value} (h:Ab w G x v):Ab w G (BD p x) v:=by grind [BD,Ab]
theorem WR {w:World} {G:AG} {p:Ah->Bool}: ∀ {xs:List V} {vs:List Value},Aq w G xs vs->Aq w G (xs.map (BD p)) vs
 | [],vs,h=>by grind
 | x::xs,vs,h=>by simp only [Aq,map_cons]at h ⊢;obtain⟨v,r,e,h1,h2⟩:=h;exact⟨v,r,e,Kb h1,WR h2⟩
theorem xF {p:Ah->Bool} {kv:List (Int×Int)}:[C.mp kv].map (Cr p)=[C.mp kv]:=by simp [Cr,C.f_]
theorem qK {w:World} {G:AG} {p:Ah->Bool} {e:Aw} (h:Bc w G e):Bc w G (e.b_ p):=by
 obtain⟨i,r,cs,pu⟩:=e;cases pu with
 | true=>exact h
 | false=>
 unfold Bc at *;cases r with
 | none=>
   obtain⟨b,h1,h2⟩:=h;refine⟨b,h1,?_⟩;rcases h2 with ⟨kv,es,h2,h3⟩ | ⟨T,cur,h2,h3,h4⟩
   ·dsimp only [Aw.b_]at h2 ⊢;rw [h2,xF];exact .inl ⟨kv,es,rfl,h3⟩
   ·exact .inr ⟨T,cur,h2,by simpa [Aw.b_] using h3,M2 h4⟩
 | some q=>
   obtain⟨E,n,len⟩:=q;obtain⟨hl,v,h1,h2⟩:=h;refine⟨by grind [Aw.b_],v,h1,?_⟩;rcases h2 with h2 | ⟨b,cap,cur,e1,e2,e3,e4,e5,e6,e7⟩
   ·exact .inl h2
   ·exact .inr ⟨b,cap,cur,e1,e2,e3,e4,e5,e6,M2 e7⟩
theorem xG {p:Ah->Bool} {i:Ah} {e:Aw} (hp:e.pu=true->Ao e.cs=true) (h:BP i (e.b_ p).cs =true):p i=false:=by
 obtain⟨j,r,cs,pu⟩:=e;cases pu with
 | true=>rw [show (Aw.b_ p ⟨j,r,cs,true⟩).cs =cs from rfl,AP i cs (hp rfl)]at h;cases h
 | false=>exact Zj (cs:=cs) h
theorem BC.b_ {w:World} {G:AG} {p:Ah->Bool} {e:Aw} (h:BC w G e):BC w G (e.b_ p):=by
 obtain⟨i,r,cs,pu⟩:=e;cases pu with
 | true=>exact h
 | false=>exact⟨h.1,fun hd=>absurd (h.2 hd).1 (by simp)⟩
theorem Rj {p:Ah->Bool} {e:Aw} (h:e.pu=true->Ao e.cs=true):(e.b_ p).pu =true->Ao (e.b_ p).cs =true:=by
 obtain⟨i,r,cs,pu⟩:=e;cases pu with
 | true=>exact h
 | false=>intro hq;cases hq
theorem xH (cs:List C):CJ (fun _=>false) cs=false:=by
 have key: ∀ c:C,c.f_ (fun _=>false)=false:=by intro c;induction c using C.rec (motive_2:=fun cs=>CJ (fun _=>false) cs=false)<;>simp_all [C.f_,CJ]
 induction cs<;>grind [CJ]
theorem Abn (c:C):c.f_ (fun _=>false)=false:=by have:=xH [c];simpa [CJ] using this
theorem fJ: ∀ cs:List C,cs.map (Cr (fun _=>false))=cs
 | []=>rfl
 | c::cs=>by rw [map_cons,fJ cs,Cr,if_neg (by simp [Abn])]
theorem Aw.anO (e:Aw):e.b_ (fun _=>false)=e:=by
 obtain⟨i,r,cs,_ | _⟩:=e
 all_goals grind [Aw.b_,fJ]
structure aaT (F:Fr) (p q:Ah->Bool) (G G':AG) (w w':World):Prop where
 agree: ∀ i,p i=false->G'.m_ i=G.m_ i/\G'.own i=G.own i
 same: ∀ i b,q i=false->G.m_ i=some b->w'.heap[b]? =w.heap[b]?
 keeps:Co G G' w w'
 outer:OL w w'
 ext: ∀ b,b<F.w0.heap.size-> ¬F.old b->w'.heap[b]? =w.heap[b]?
 wr: ∀ b,G'.wr b↔F.av b\/ ∃ i,G'.m_ i=some b
 inj: ∀ i j b,G'.m_ i=some b->G'.m_ j=some b->i=j
 lt: ∀ i b,G'.m_ i=some b->b<w'.heap.size
 new: ∀ i b,G'.m_ i=some b->F.w0.heap.size<=b\/F.old b
def St.b_ (st:St) (p:Ah->Bool) (so:List Aw):St:={tm:=st.tm.map (BD p),so:=so,gh:=st.gh.map (BD p),pre:=st.pre}
section
variable {F:Fr} {st:St} {a:Act} {w w':World} {G G':AG} {p q:Ah->Bool}
theorem aaT.ent (h:R F st a w G) (t:aaT F p q G G' w w') {e:Aw} (he:e∈st.so) (hp:p e.id=false) (hq:q e.id=false):Bc w' G' (e.b_ p):=by
 refine Cx t.keeps (fun i hi=>t.agree i (xG (h.x_ e he) hi)) ?_ ?_ (qK (h.store e he))
 ·rw [Aw.t_];exact t.agree _ hp
 ·intro b hb;rw [Aw.t_]at hb;exact t.same _ b hq hb
theorem aaT.deep (h:R F st a w G) (t:aaT F p q G G' w w') {e:Aw} (he:e∈st.so) (hp:p e.id=false) (hq:q e.id=false) (hm:Fh e.id=true-> ∀ k,p (BO k e.id)=false/\q (BO k e.id)=false):BC w' G' (e.b_ p):=by
 refine BC.mono t.keeps (by rw [Aw.t_];exact t.agree _ hp) (fun hd k=>?_) ?_ (fun hd k b hb=>?_) (h.deep e he).b_
 ·rw [Aw.t_]at hd ⊢;exact t.agree _ (hm hd k).1
 ·intro b hb;rw [Aw.t_]at hb;exact t.same _ b hq hb
 ·rw [Aw.t_]at hd hb;exact t.same _ b (hm hd k).2 hb
theorem aaT.rel (h:R F st a w G) (t:aaT F p q G G' w w') (an:St) (hl:an.tm.length=st.tm.length) (hs: ∀ i,Ab w' G' (an.tm.getD i .undef) (a.tmps.getD i Go.undef)) (hg:Aq w' G' an.gh F.gv)
 (h1: ∀ e∈an.so,Bc w' G' e) (h2: ∀ e∈an.so,BC w' G' e) (h3: ∀ e∈an.so,e.pu=true->Ao e.cs=true) (h4:(an.so.map (·.id)).Nodup):R F an a w' G' where
 dfr:=h.dfr
 size:=by rw [hl];exact h.size
 v_:=hs
 F_:=hg
 store:=h1
 deep:=h2
 x_:=h3
 nodup:=h4
 inj:=t.inj
 lt:=t.lt
 new:=t.new
 wr:=t.wr
 aaS:=h.aaS
 inv:=h.inv
 aah:=h.aah
 os:=t.outer.os.trans h.os
 tape:=t.outer.tape.trans h.tape
 output:=t.outer.output.trans h.output
 u_:=Nat.le_trans h.u_ t.keeps.size
 ext:=fun b hb ho=>(t.ext b hb ho).trans (h.ext b hb ho)
theorem aaT.af1 (h:R F st a w G) (t:aaT F p q G G' w w') (so:List Aw)
 (h1: ∀ e∈so,Bc w' G' e) (h2: ∀ e∈so,BC w' G' e) (h3: ∀ e∈so,e.pu=true->Ao e.cs=true) (h4:(so.map (·.id)).Nodup):R F (st.b_ p so) a w' G':=by
 refine t.rel h (st.b_ p so) (by simp [St.b_]) (fun i=>?_) ?_ h1 h2 h3 h4
 ·simp only [St.b_];rw [F4 (by simp [BD,V.f_])];exact Ab.mono t.keeps _ _ (fun i hi=>t.agree i (Ka hi)) (Kb (h.v_ i))
 ·exact Aq.mono t.keeps _ _ (fun i hi=>t.agree i (WQ hi)) (WR h.F_)
theorem aaT.kept (h:R F st a w G) (t:aaT F (fun _=>false) q G G' w w') (so:List Aw)
 (h1: ∀ e∈so,Bc w' G' e) (h2: ∀ e∈so,BC w' G' e) (h3: ∀ e∈so,e.pu=true->Ao e.cs=true) (h4:(so.map (·.id)).Nodup):R F {st with so:=so} a w' G':=
 t.rel h {st with so:=so} rfl (fun i=>Ab.mono t.keeps _ _ (fun i _=>t.agree i rfl) (h.v_ i)) (Aq.mono t.keeps _ _ (fun i _=>t.agree i rfl) h.F_) h1 h2 h3 h4
theorem mI (h:R F st a w G) {i0:Ah} {b:Nat} (hb:G.m_ i0=some b) {cur:Array Value} {T:TypeId} (hh:w.heap[b]? =some (.cells cur T (0,0))) (row:Array Value):aaT F (fun _=>false) (· ==i0) G G w (w.setRow b row) where
 agree:=(by grind)
 same:=fun i b' hi hb'=>setRow_other w b b' _ (fun e=>by have:=h.inj i i0 b' hb' (by grind);grind)
 keeps:=⟨by simp,fun k _ hw=>setRow_other w b k _ (fun e=>hw ((h.wr k).2 (by grind))),fun _ _ q=>q,fun i k h1 _=>by
  by_cases hkb:k=b
  ·subst hkb;intro adG T' fz' hq;rw [hh]at hq;injection hq with hq;injection hq with _ hq _;subst hq;exact⟨_,_,setRow_heap w k cur row T (0,0) hh⟩
  grind [Cg.same,setRow_other]⟩
 outer:=⟨by simp,by simp,by simp⟩
 ext:=fun k hk ho=>setRow_other w b k _ (fun e=>by
  rcases h.new i0 b hb with q | q
  all_goals grind)
 wr:=h.wr
 inj:=h.inj
 lt:=fun i k hi=>by simpa using h.lt i k hi
 new:=h.new
theorem Ho (h:R F st a w G) (G':AG) (hw:G'.wr=fun b=>F.av b\/ ∃ i,G'.m_ i=some b) (ha: ∀ i,p i=false->G'.m_ i=G.m_ i/\G'.own i=G.own i) (hs: ∀ i b,G'.m_ i=some b-> ∃ j,G.m_ j=some b)
 (hi: ∀ i j b,G'.m_ i=some b->G'.m_ j=some b->i=j):aaT F p (fun _=>false) G G' w w where
 agree:=ha
 same:=fun _ _ _ _=>rfl
 keeps:=⟨le_refl _,fun _ _ _=>rfl,fun b _ hb=>by rw [hw]at hb;rw [h.wr];grind,fun _ _ _ _=>Cg.same rfl⟩
 outer:=⟨rfl,rfl,rfl⟩
 ext:=fun _ _ _=>rfl
 wr:=fun b=>by rw [hw]
 inj:=hi
 lt:=fun i b hb=>by obtain⟨j,hj⟩:=hs i b hb;exact h.lt j b hj
 new:=fun i b hb=>by obtain⟨j,hj⟩:=hs i b hb;exact h.new j b hj
theorem R.uniq (h:R F st a w G) {d e:Aw} (hd:d∈st.so) (he:e∈st.so) (hi:d.id=e.id):d=e:=by have:=List.pairwise_map.1 h.nodup;rcases mem_iff_getElem.1 hd with ⟨i,hi1,rfl⟩;rcases mem_iff_getElem.1 he with ⟨j,hj1,rfl⟩;grind [List.pairwise_iff_getElem]
end
def St.IN (st:St) (id:Ah):Option Aw:=st.so.find? (fun e=>e.id==id&&Fh e.id)
theorem P5 {st:St} {id:Ah} {e:Aw} (h:st.IN id=some e):e∈st.so/\e.id=id/\Fh id=true:=by have:=find?_some h;simp only [and_eq_true,beq_iff_eq]at this;exact⟨List.mem_of_find?_eq_some h,this.1,by grind⟩
def Tl (id:Ah) (row:Option (TypeId×Nat×Nat)) (cells:List C) (e:Aw):Aw:=match e.id==id with
 | true=>⟨e.id,row,cells,e.pu⟩
 | false=>e
theorem jm (id:Ah) (row:Option (TypeId×Nat×Nat)) (cells:List C) (e:Aw):(Tl id row cells e).id =e.id:=by grind [Tl]
theorem Eb {id:Ah} {row:Option (TypeId×Nat×Nat)} {cells:List C} {e:Aw} (h:e.id ≠ id):Tl id row cells e=e:=by grind [Tl]
theorem Ec {id:Ah} {row:Option (TypeId×Nat×Nat)} {cells:List C} {e:Aw} (h:e.id=id):Tl id row cells e=⟨e.id,row,cells,e.pu⟩:=by grind [Tl]
def DF (id:Ah):Ah->Bool
 | m::_::j=>Nat.beq m 1000007&&j==id
 | _=>false
theorem IR (id:Ah) (k:Nat) (j:Ah):DF id (BO k j)=(j==id):=by simp [DF,BO]
theorem La {w:World} {G:AG}: ∀ {cs:List C} {b o j:Nat} {c:C},An w G cs b o->(∀ v d,cs[j]? =some d->w.cell? ⟨b,o+j,none⟩=some v->Ad w G d v->Ad w G c v)->An w G (cs.set j c) b o
 | [],_,_,_,_,h,_=>by grind
 | d::cs,b,o,0,c,h,hc=>by grind [An]
 | d::cs,b,o,j+1,c,h,hc=>by simp only [An]at h;simp only [List.set_cons_succ,An];exact⟨h.1,La h.2 (fun v d hd hv=>hc v d (by simpa using hd) (by rw [show o+(j+1)=o+1+j by omega];exact hv))⟩
section
variable {F:Fr} {st:St} {a:Act} {w w':World} {G G':AG} {p q:Ah->Bool}
theorem R.aa3 (h:R F st a w G) {id:Ah} {e:Aw} (hl:st.IN id=some e):e∈st.so/\e.id=id/\Fh id=true/\C4 id=false/\e.pu=true/\Ao e.cs=true/\EU w G e/\ ∃ E n len,e.row=some (E,n,len):=by obtain⟨hm,hid,hd⟩:=P5 hl;obtain⟨h1,h2⟩:=h.deep e hm;obtain⟨h3,h4,h5⟩:=h2 (by rw [hid];exact hd);refine⟨hm,hid,hd,by grind,h3,h.x_ e hm h3,h5,?_⟩;cases hr:e.row<;>grind
theorem R.inner (h:R F st a w G) {id:Ah} {e:Aw} (hl:st.IN id=some e) {k n len:Nat} {E:TypeId} {cs:List C} (hk:e.cs[k]? =some (.isl E n len cs)):
 Ao cs=true/\Bc w G ⟨BO k id,some (E,n,len),cs,true⟩/\ ∃ b v,G.m_ id=some b/\w.cell? ⟨b,k,none⟩=some v/\G.own (BO k id)=some v:=by
 obtain⟨hm,hid,hd,_,_,_,hi,_⟩:=h.aa3 hl;have:=hi k E n len cs hk;grind
theorem R.aed (h:R F st a w G) {id:Ah} {e:Aw} (hl:st.IN id=some e) {b:Nat} (hb:G.m_ id=some b): ∃ E n len v cap cur,e.row=some (E,n,len)/\e.cs.length=len*n/\G.own id=some v/\v= .slice (some ⟨b,0,none⟩) len cap/\w.heap[b]? =some (.cells cur E (0,0))/\len<=cap/\cap<=maxLen/\cur.size=cap*n/\An w G e.cs b 0:=by obtain⟨hm,hid,_,_,_,_,_,E,n,len,hr⟩:=h.aa3 hl;have hE:=h.store e hm;grind [Bc]
theorem aaT.alI (h:R F st a w G) (t:aaT F p q G G' w w') {id:Ah} {e:Aw} (hl:st.IN id=some e) (f:Aw->Bool) (hf: ∀ d∈st.so,f d=true->d.id ≠ id->p d.id=false/\q d.id=false/\(Fh d.id=true-> ∀ k,p (BO k d.id)=false/\q (BO k d.id)=false))
 {cells:List C} {row:Option (TypeId×Nat×Nat)} (hrs:row.isSome=true) (h1:Bc w' G' ⟨id,row,cells,true⟩) (h2:EU w' G' ⟨id,row,cells,true⟩) (h3:Ao cells=true):
 (∀ d∈((st.so.filter f).map (Aw.b_ p)).map (Tl id row cells),Bc w' G' d)/\(∀ d∈((st.so.filter f).map (Aw.b_ p)).map (Tl id row cells),BC w' G' d)/\
 (∀ d∈((st.so.filter f).map (Aw.b_ p)).map (Tl id row cells),d.pu=true->Ao d.cs=true)/\((((st.so.filter f).map (Aw.b_ p)).map (Tl id row cells)).map (·.id)).Nodup :=by
 obtain⟨hm,hid,hd,hmk,hpu,hpe,hi,E,n,len,hr⟩:=h.aa3 hl;have key: ∀ d∈((st.so.filter f).map (Aw.b_ p)).map (Tl id row cells),(d=⟨id,row,cells,true⟩)\/ ∃ x∈st.so,f x=true/\x.id ≠ id/\d=x.b_ p:=by
  intro d hd;simp only [map_map,mem_map,mem_filter,Function.comp]at hd;obtain⟨x,⟨hx,hfx⟩,rfl⟩:=hd;by_cases hxi:x.id=id
  ·have:=h.uniq hx hm (hxi.trans hid.symm);subst this;left;have hk:x.b_ p=x:=by obtain⟨i,r,cs,pu⟩:=x;simp only at hpu;subst hpu;rfl
   grind [Ec]
  grind [Eb,Aw.t_]
 refine⟨fun d hd'=>?_,fun d hd'=>?_,fun d hd'=>?_,?_⟩
 ·rcases key d hd' with rfl | ⟨x,hx,hfx,hxi,rfl⟩
  ·exact h1
  ·obtain⟨k1,k2,_⟩:=hf x hx hfx hxi;exact t.ent h hx k1 k2
 ·rcases key d hd' with rfl | ⟨x,hx,hfx,hxi,rfl⟩
  ·exact⟨hmk,fun _=>⟨rfl,hrs,h2⟩⟩
  ·obtain⟨k1,k2,k3⟩:=hf x hx hfx hxi;exact t.deep h hx k1 k2 k3
 ·rcases key d hd' with rfl | ⟨x,hx,hfx,hxi,rfl⟩
  ·grind
  ·exact Rj (h.x_ x hx)
 ·have:(((st.so.filter f).map (Aw.b_ p)).map (Tl id row cells)).map (·.id)=(st.so.filter f).map (·.id):=by simp_all [jm,Aw.t_]
  rw [this];exact List.Sublist.nodup (by grind [filter_sublist]) h.nodup
theorem SC (l:List Aw):l.map (Aw.b_ fun _=>false)=l:=by induction l<;>grind [Aw.anO]
end
end Go.PL
namespace Go.PL
open Go Go.RowKit
section
variable {F:Fr} {st:St} {a:Act} {w w':World} {G G':AG} {p q:Ah->Bool}
theorem Lb (l:List Aw):l.filter (fun _=>true)=l:=(by simp_all)
theorem CL {id j:Ah} (h:C4 id=false) (k:Nat):id ≠ BO k j:=fun e=>by rw [e]at h;cases h
theorem WS (h:R F st a w G) {i0:Ah} (d:Aw) (hd:d∈st.so) (Tj:d.id ≠ i0) (hmk: ∀ k,Fh d.id=true->BO k d.id ≠ i0):
 (fun _=>false:Ah->Bool) d.id=false/\(d.id==i0)=false/\(Fh d.id=true-> ∀ k,(fun _=>false:Ah->Bool) (BO k d.id)=false/\(BO k d.id==i0)=false):=
 (by grind)
def St.afw (st:St) (id:Ah) (row:Option (TypeId×Nat×Nat)) (cells:List C):St:={st with so:=st.so.map (Tl id row cells)}
theorem R.ahl (h:R F st a w G) {id:Ah} {e:Aw} (hl:st.IN id=some e) {k n len:Nat} {E:TypeId} {cs:List C} (hk:e.cs[k]? =some (.isl E n len cs)) {b:Nat} (hb:G.m_ (BO k id)=some b)
 {off:Nat} {xs:List C} {vs:List Value} (hx:Aj w G xs vs) (acy:off+xs.length<=cs.length) (hp:Ao xs=true):
 ∃ cur T,w.heap[b]? =some (.cells cur T (0,0))/\off+vs.length<=cur.size/\
   R F (st.afw id e.row (e.cs.set k (.isl E n len (cs.take off++xs++cs.drop (off+xs.length))))) a (w.setRow b (cur.toList.take off++vs++cur.toList.drop (off+vs.length)).toArray) G:=by
 obtain⟨hm,hid,hd,hmk,hpu,hpe,hi,E0,n0,ahY,hr⟩:=h.aa3 hl;obtain⟨hpc,hE,bo,vo,hbo,abH,aam⟩:=h.inner hl hk;unfold Bc at hE;obtain⟨hcl,v,h1,h2 | ⟨b',cap,cur,e1,e2,e3,e4,e5,e6,e7⟩⟩:=hE
 ·grind
 rw [show (⟨BO k id,some (E,n,len),cs,true⟩:Aw).id =BO k id from rfl]at h1 e2;rw [hb]at e2;injection e2 with e2;subst e2;obtain⟨us,r1,r2⟩:=e7.list;simp only at r1 e7 hcl;have hlx:=hx.length;have hlu:=r1.length;have hle:cs.length<=cur.size:=by simp_all [Nat.mul_le_mul_right]
 have an4:=HW e3 r2;refine⟨cur,E,e3,by omega,?_⟩;have t:=mI h hb e3 (cur.toList.take off++vs++cur.toList.drop (off+vs.length)).toArray;have aas:=setRow_heap w b cur (cur.toList.take off++vs++cur.toList.drop (off+vs.length)).toArray E (0,0) e3;have aia:(us.take off++vs++us.drop (off+vs.length))++cur.toList.drop us.length=(cur.toList.take off++vs++cur.toList.drop (off+vs.length)).toArray.toList :=by grind
 have aib:=BE aas aia;have hl2:Aj w G (cs.take off++xs++cs.drop (off+xs.length)) (us.take off++vs++us.drop (off+vs.length)):=by rw [hlx];exact((r1.take off).append hx).append (r1.drop _)
 have aeZ:=An.aaA (Aj.mono t.keeps _ _ (fun _ _=>⟨rfl,rfl⟩) hl2) aib;have hlen:(cs.take off++xs++cs.drop (off+xs.length)).length =cs.length:=by simp;omega
 have asj:(cur.toList.take off++vs++cur.toList.drop (off+vs.length)).toArray.size =cur.size:=by simp;omega
 have hpx:Ao (cs.take off++xs++cs.drop (off+xs.length))=true:=by grind [BT,MT,MU]
 have Tj:bo ≠ b:=fun q=>CL hmk k (h.inj _ _ bo hbo (by rw [q];exact hb));have hcs: ∀ o,(w.setRow b (cur.toList.take off++vs++cur.toList.drop (off+vs.length)).toArray).cell? ⟨bo,o,none⟩=w.cell? ⟨bo,o,none⟩:=(by grind [X_,setRow_other]);obtain⟨E1,n1,aj4,v1,ab7,aiL,g1,g2,g3,g4,g5,g6,g7,g8,g9⟩:=h.aed hl hbo;have hcells:Ao (e.cs.set k (.isl E n len (cs.take off++xs++cs.drop (off+xs.length))))=true:=by
  rw [Cf,all_eq_true]at hpe ⊢;intro c hc;rcases List.mem_or_eq_of_mem_set hc with q | q
  ·grind
  ·rw [q];rfl
 have afC:Bc (w.setRow b (cur.toList.take off++vs++cur.toList.drop (off+vs.length)).toArray) G ⟨id,e.row,e.cs.set k (.isl E n len (cs.take off++xs++cs.drop (off+xs.length))),true⟩:=by unfold Bc;rw [g1];refine⟨by grind,v1,g3, .inr ⟨bo,ab7,aiL,g4,hbo,by grind [setRow_other],g6,g7,g8,?_⟩⟩;refine La (An.mono t.keeps _ _ _ (fun _ _=>⟨rfl,rfl⟩) hcs g9) (fun u d hd _ hrd=>?_);grind [Ad]
 have hin:EU (w.setRow b (cur.toList.take off++vs++cur.toList.drop (off+vs.length)).toArray) G ⟨id,e.row,e.cs.set k (.isl E n len (cs.take off++xs++cs.drop (off+xs.length))),true⟩:=by
  intro j E2 n2 abo cs2 hj;simp only [getElem?_set]at hj;split at hj
  ·rename_i hkj;subst hkj;split at hj
   ·injection hj with hj;injection hj with q1 q2 q3 q4;subst q1 q2 q3 q4;refine⟨hpx,?_,bo,vo,hbo,by grind,aam⟩;unfold Bc;exact⟨by grind,v,h1, .inr ⟨b,cap,_,e1,hb,aas,e4,e5,by grind,aeZ⟩⟩
   ·cases hj
  ·rename_i hkj;obtain⟨k1,k2,b2,v2,k3,k4,k5⟩:=h.inner hl hj;refine⟨k1,Cx t.keeps (fun _ _=>⟨rfl,rfl⟩) ⟨rfl,rfl⟩ (fun b3 hb3=>setRow_other w b b3 _ (fun q=>?_)) k2,b2,v2,k3,?_,k5⟩
   ·have:=h.inj _ _ b3 hb3 (by rw [q];exact hb);grind [Sn]
   grind
 have Tq:=t.alI h hl (fun _=>true) (fun d hd' _ adF=>WS h d hd' (fun q2=>CL (h.deep d hd').1 k q2) (by grind [Sn])) (by rw [g1];rfl) afC hin hcells;rw [Lb,SC]at Tq;exact t.kept h _ Tq.1 Tq.2.1 Tq.2.2.1 Tq.2.2.2
def p9:C->Bool
 | .isl .. =>false
 | _=>true
theorem R.adg (h:R F st a w G) {id:Ah} {e:Aw} (hl:st.IN id=some e) {b:Nat} (hb:G.m_ id=some b)
 {off:Nat} {xs:List C} {vs:List Value} (hx:Aj w G xs vs) (acy:off+xs.length<=e.cs.length) (hp:Ao xs=true) (hn:xs.all p9=true):
 ∃ cur T,w.heap[b]? =some (.cells cur T (0,0))/\off+vs.length<=cur.size/\
   R F (st.afw id e.row (e.cs.take off++xs++e.cs.drop (off+xs.length))) a (w.setRow b (cur.toList.take off++vs++cur.toList.drop (off+vs.length)).toArray) G:=by
 obtain⟨hm,hid,hd,hmk,hpu,hpe,hi,E0,n0,ahY,hr⟩:=h.aa3 hl;obtain⟨E,n,len,v,cap,cur,g1,g2,g3,g4,g5,g6,g7,g8,g9⟩:=h.aed hl hb;obtain⟨us,r1,r2⟩:=g9.list;have hlx:=hx.length;have hlu:=r1.length;have hle:e.cs.length<=cur.size:=by simp_all [Nat.mul_le_mul_right]
 have an4:=HW g5 r2;refine⟨cur,E,g5,by omega,?_⟩;have t:=mI h hb g5 (cur.toList.take off++vs++cur.toList.drop (off+vs.length)).toArray;have aas:=setRow_heap w b cur (cur.toList.take off++vs++cur.toList.drop (off+vs.length)).toArray E (0,0) g5;have aia:(us.take off++vs++us.drop (off+vs.length))++cur.toList.drop us.length=(cur.toList.take off++vs++cur.toList.drop (off+vs.length)).toArray.toList :=by grind
 have aib:=BE aas aia;have hl2:Aj w G (e.cs.take off++xs++e.cs.drop (off+xs.length)) (us.take off++vs++us.drop (off+vs.length)):=by rw [hlx];exact((r1.take off).append hx).append (r1.drop _)
 have aeZ:=An.aaA (Aj.mono t.keeps _ _ (fun _ _=>⟨rfl,rfl⟩) hl2) aib;have hlen:(e.cs.take off++xs++e.cs.drop (off+xs.length)).length =e.cs.length:=by simp;omega
 have asj:(cur.toList.take off++vs++cur.toList.drop (off+vs.length)).toArray.size =cur.size:=by simp;omega
 have hpx:Ao (e.cs.take off++xs++e.cs.drop (off+xs.length))=true:=by grind [BT,MT,MU]
 have afC:Bc (w.setRow b (cur.toList.take off++vs++cur.toList.drop (off+vs.length)).toArray) G ⟨id,e.row,e.cs.take off++xs++e.cs.drop (off+xs.length),true⟩:=by unfold Bc;rw [g1];exact⟨by grind,v,g3, .inr ⟨b,cap,_,g4,hb,aas,g6,g7,by grind,aeZ⟩⟩
 have hin:EU (w.setRow b (cur.toList.take off++vs++cur.toList.drop (off+vs.length)).toArray) G ⟨id,e.row,e.cs.take off++xs++e.cs.drop (off+xs.length),true⟩:=by
  intro j E2 n2 abo cs2 hj;simp only at hj;have hj2:(j<off\/off+xs.length<=j)/\e.cs[j]? =some (.isl E2 n2 abo cs2):=by
   rw [append_assoc]at hj;have htl:(e.cs.take off).length =off:=by grind
   by_cases q1:j<off
   ·grind
   ·rw [getElem?_append_right (by omega),htl]at hj;by_cases q2:j<off+xs.length
    ·rw [List.getElem?_append_left (by omega)]at hj;have:=all_eq_true.1 hn _ (mem_of_getElem? hj);cases this
    grind
  obtain⟨k1,k2,b2,v2,k3,k4,k5⟩:=h.inner hl hj2.2;rw [hb]at k3;injection k3 with k3;subst k3;refine⟨k1,Cx t.keeps (fun _ _=>⟨rfl,rfl⟩) ⟨rfl,rfl⟩ (fun b3 hb3=>setRow_other w b b3 _ (fun q=>?_)) k2,b,v2,hb,?_,k5⟩
  ·exact CL hmk j (h.inj _ _ b hb (by rw [<-q];exact hb3))
  ·have hjl:j<e.cs.length:=(by grind);simp only [World.cell?,aas];simp only [World.cell?,g5]at k4;have hold:cur.toList[j]? =some v2:=by grind
   have htl:(cur.toList.take off).length =off:=by grind
   have:(cur.toList.take off++vs++cur.toList.drop (off+vs.length))[j]? =some v2:=by
    rw [append_assoc];rcases hj2.1 with q1 | q1
    ·grind
    ·rw [getElem?_append_right (by omega),htl,getElem?_append_right (by omega),List.getElem?_drop];grind
   grind
 have Tq:=t.alI h hl (fun _=>true) (fun d hd' _ adF=>WS h d hd' adF (by grind [CL])) (by rw [g1];rfl) afC hin hpx;rw [Lb,SC]at Tq;exact t.kept h _ Tq.1 Tq.2.1 Tq.2.2.1 Tq.2.2.2
theorem Fp {id i:Ah} (h:DF id i=true):C4 i=true:=by
 match i,h with
 | m::k::j,h=>
   simp only [DF,and_eq_true]at h;exact h.1
theorem tC {id i:Ah} (h:DF id i=true): ∃ k,i=BO k id:=by
 match i,h with
 | m::k::j,h=>
   simp only [DF,and_eq_true,beq_iff_eq]at h;have h1:=eq_of_beq_eq_true h.1;subst h1;rw [h.2];exact⟨k,rfl⟩
def pD (r id i:Ah):Bool:=i==r||DF id i
theorem xI (h:R F st a w G) {r id:Ah} (hr:C4 r=false) {d:Aw} (hd:d∈st.so) (h1:d.id ≠ r) (h2:d.id ≠ id):pD r id d.id=false/\(Fh d.id=true-> ∀ k,pD r id (BO k d.id)=false/\(fun _=>false:Ah->Bool) (BO k d.id)=false):=by
 refine⟨?_,fun _ k=>⟨?_,rfl⟩⟩
 ·unfold pD;rw [show (d.id==r)=false by simpa using h1,Bool.false_or];cases hq:DF id d.id with
  | false=>rfl
  | true=>
    have:=Fp hq;rw [(h.deep d hd).1]at this;cases this
 ·unfold pD;rw [show (BO k d.id==r)=false by simpa using (CL hr k).symm,Bool.false_or,IR];grind
theorem R.amo (h:R F st a w G) {id r:Ah} {e er:Aw} (hl:st.IN id=some e) (hr:st.look r=some er) {E:TypeId} {n len:Nat} (z_:er.row=some (E,n,len)) (hpr:er.pu=true)
 {k b:Nat} {v:Value} (hb:G.m_ id=some b) (hc:w.cell? ⟨b,k,none⟩=some v) (ho:G.own r=some v) (hk:k<e.cs.length):
 ∃ G',R F (st.b_ (pD r id) (((st.so.filter (fun d=>d.id != r)).map (Aw.b_ (pD r id))).map (Tl id e.row (e.cs.set k (.isl E n len er.cs))))) a w G'/\G'.own id=G.own id/\G'.m_ id=G.m_ id/\ ∀ i,pD r id i=false->G'.m_ i=G.m_ i/\G'.own i=G.own i:=by
 obtain⟨hm,hid,hd,hmk,hpu,hpe,hi,E0,n0,ahY,hr0⟩:=h.aa3 hl;obtain⟨hmr,ag3⟩:=Bj hr;have alG:=FG hr;have aki:C4 r=false:=by rw [<-ag3];exact(h.deep er hmr).1
 have akf:r ≠ id:=(by grind);have hpc:=h.x_ er hmr hpr;let G':AG:=⟨fun i=>if i=r then none else if i=BO k id then G.m_ r else G.m_ i,fun i=>if i=r then none else if i=BO k id then G.own r else G.own i,fun b=>F.av b\/ ∃ i,(if i=r then none else if i=BO k id then G.m_ r else G.m_ i)=some b⟩;have hag: ∀ i,pD r id i=false->G'.m_ i=G.m_ i/\G'.own i=G.own i:=by intro i hpi;simp only [pD,or_eq_false_iff,beq_eq_false_iff_ne]at hpi;have h2:i ≠ BO k id:=(by grind [IR]);grind
 have t:aaT F (pD r id) (fun _=>false) G G' w w:=Ho h G' rfl hag (by grind) (fun i j b hib hjb=>by
  simp only [G']at hib hjb;split at hib
  ·cases hib
  ·rename_i q1;split at hjb
   ·cases hjb
   ·rename_i q2;split at hib<;>split at hjb
    ·simp_all
    ·exact absurd (h.inj _ _ b hjb hib) q2
    ·exact absurd (h.inj _ _ b hib hjb) q1
    ·exact h.inj _ _ b hib hjb)
 have Tj:id ≠ BO k id:=CL hmk k;have gid:G'.m_ id=G.m_ id/\G'.own id=G.own id:=(by grind);have gk:G'.m_ (BO k id)=G.m_ r/\G'.own (BO k id)=G.own r:=by have:BO k id ≠ r:=(CL aki k).symm;grind
 have gj: ∀ j,j ≠ k->G'.m_ (BO j id)=G.m_ (BO j id)/\G'.own (BO j id)=G.own (BO j id):=by intro j hj;have h1:BO j id ≠ r:=(CL aki j).symm;have h2:BO j id ≠ BO k id:=fun q=>hj (Sn q).1;grind
 obtain⟨E1,n1,aj4,v1,ab7,aiL,g1,g2,g3,g4,g5,g6,g7,g8,g9⟩:=h.aed hl hb;have hcells:Ao (e.cs.set k (.isl E n len er.cs))=true:=by
  rw [Cf,all_eq_true]at hpe ⊢;intro c hc;rcases List.mem_or_eq_of_mem_set hc with q | q
  ·grind
  ·rw [q];rfl
 have hno: ∀ cs:List C,Ao cs=true->JQ (fun i=>BP i cs=true) G G':=fun cs hp i hi'=>absurd (show BP i cs=true from hi') (by rw [AP i cs hp];simp);have afC:Bc w G' ⟨id,e.row,e.cs.set k (.isl E n len er.cs),true⟩:=by unfold Bc;rw [g1];refine⟨by grind,v1,by grind, .inr ⟨b,ab7,aiL,g4,by grind,g5,g6,g7,g8,?_⟩⟩;refine La (An.mono t.keeps _ _ _ (hno _ hpe) (fun _=>rfl) g9) (fun u d _ _ hrd=>?_);simp only [Ad];exact hrd.one
 have hin:EU w G' ⟨id,e.row,e.cs.set k (.isl E n len er.cs),true⟩:=by
  intro j E2 n2 abo cs2 hj;simp only [getElem?_set]at hj;split at hj
  ·rename_i hkj;subst hkj
   ·injection hj with hj;injection hj with q1 q2 q3 q4;subst q1 q2 q3 q4;refine⟨hpc,?_,b,v,by grind,hc,by grind⟩;have hE:=h.store er hmr;unfold Bc at hE ⊢;rw [z_]at hE;obtain⟨c1,v2,c2,c3⟩:=hE;refine⟨c1,v2,by grind,?_⟩;rcases c3 with ⟨p,c3,c4,c5⟩ | ⟨b',cap,cur,e1,e2,e3,e4,e5,e6,e7⟩
    ·grind
    ·exact .inr ⟨b',cap,cur,e1,by grind,e3,e4,e5,e6,An.mono t.keeps _ _ _ (hno _ hpc) (fun _=>rfl) e7⟩
  ·rename_i hkj;obtain⟨k1,k2,b2,v2,k3,k4,k5⟩:=h.inner hl hj;have gjj:=gj j (fun q=>hkj q.symm);exact⟨k1,Cx t.keeps (hno _ k1) gjj (fun _ _=>rfl) k2,b2,v2,by grind,k4,by grind⟩
 have Tq:=t.alI h hl (fun d=>d.id != r) (fun d hd' hf adF=>by have:=xI h (id:=id) aki hd' (by simpa using hf) adF;grind) (by rw [g1];rfl) afC hin hcells
 exact⟨G',t.af1 h _ Tq.1 Tq.2.1 Tq.2.2.1 Tq.2.2.2,gid.2,gid.1,hag⟩
theorem R.aoD (h:R F st a w G) {id r:Ah} {e er:Aw} (hl:st.IN id=some e) (hr:st.look r=some er) {E:TypeId} {n len:Nat} (z_:er.row=some (E,n,len)) (hpr:er.pu=true)
 {k b:Nat} {v:Value} (hb:G.m_ id=some b) (hc:w.cell? ⟨b,k,none⟩=some v) (ho:G.own r=some v) (hk:k<e.cs.length):
 ∃ G',R F (st.b_ (pD r id) (((st.so.filter (fun d=>d.id != r)).map (Aw.b_ (pD r id))).map (Tl id e.row (e.cs.set k (.isl E n len er.cs))))) a w G'/\G'.own id=G.own id:=by
 obtain⟨G',a,b,_⟩:=h.amo hl hr z_ hpr hb hc ho hk;grind
theorem R.extract (h:R F st a w G) {id r:Ah} {e:Aw} (hl:st.IN id=some e) {k n len:Nat} {E:TypeId} {cs:List C} (hk:e.cs[k]? =some (.isl E n len cs)) (aki:C4 r=false) (alG:Fh r=false):
 ∃ G',R F (st.b_ (pD r id) (⟨r,some (E,n,len),cs,true⟩::((st.so.filter (fun d=>d.id != r)).map (Aw.b_ (pD r id))).map (Tl id e.row (e.cs.set k .any)))) a w G'/\
   ∃ b v,G.m_ id=some b/\w.cell? ⟨b,k,none⟩=some v/\G'.own r=some v/\v.oneCell'=true:=by
 obtain⟨hm,hid,hd,hmk,hpu,hpe,hi,E0,n0,ahY,hr0⟩:=h.aa3 hl;obtain⟨hpc,hE,b,v,hb,hc,ho⟩:=h.inner hl hk;have akf:r ≠ id:=(by grind);let G':AG:=⟨fun i=>if i=r then G.m_ (BO k id)else if i=BO k id then none else G.m_ i,fun i=>if i=r then G.own (BO k id)else if i=BO k id then none else G.own i,fun b=>F.av b\/ ∃ i,(if i=r then G.m_ (BO k id)else if i=BO k id then none else G.m_ i)=some b⟩;have hag: ∀ i,pD r id i=false->G'.m_ i=G.m_ i/\G'.own i=G.own i:=by intro i hpi;simp only [pD,or_eq_false_iff,beq_eq_false_iff_ne]at hpi;have h2:i ≠ BO k id:=(by grind [IR]);grind
 have t:aaT F (pD r id) (fun _=>false) G G' w w:=Ho h G' rfl hag (by grind) (fun i j b hib hjb=>by
  simp only [G']at hib hjb;split at hib<;>split at hjb
  ·simp_all
  ·split at hjb
   ·cases hjb
   ·rename_i q2 q3;exact absurd (h.inj _ _ b hjb hib) q3
  ·split at hib
   ·cases hib
   ·rename_i q3;exact absurd (h.inj _ _ b hib hjb) q3
  ·split at hib
   ·cases hib
   ·split at hjb
    ·cases hjb
    ·exact h.inj _ _ b hib hjb)
 have Tj:id ≠ BO k id:=CL hmk k;have gid:G'.m_ id=G.m_ id/\G'.own id=G.own id:=(by grind);have gr:G'.m_ r=G.m_ (BO k id)/\G'.own r=G.own (BO k id):=(by grind);have gj: ∀ j,j ≠ k->G'.m_ (BO j id)=G.m_ (BO j id)/\G'.own (BO j id)=G.own (BO j id):=by intro j hj;have h1:BO j id ≠ r:=(CL aki j).symm;have h2:BO j id ≠ BO k id:=fun q=>hj (Sn q).1;grind
 obtain⟨E1,n1,aj4,v1,ab7,aiL,g1,g2,g3,g4,g5,g6,g7,g8,g9⟩:=h.aed hl hb;have hcells:Ao (e.cs.set k .any)=true:=by
  rw [Cf,all_eq_true]at hpe ⊢;intro c hc;rcases List.mem_or_eq_of_mem_set hc with q | q
  ·grind
  ·rw [q];rfl
 have hno: ∀ cs:List C,Ao cs=true->JQ (fun i=>BP i cs=true) G G':=fun cs hp i hi'=>absurd (show BP i cs=true from hi') (by rw [AP i cs hp];simp);have afC:Bc w G' ⟨id,e.row,e.cs.set k .any,true⟩:=by unfold Bc;rw [g1];refine⟨by grind,v1,by grind, .inr ⟨b,ab7,aiL,g4,by grind,g5,g6,g7,g8,?_⟩⟩;refine La (An.mono t.keeps _ _ _ (hno _ hpe) (fun _=>rfl) g9) (fun u d _ _ hrd=>?_);grind [Ad]
 have hin:EU w G' ⟨id,e.row,e.cs.set k .any,true⟩:=by
  intro j E2 n2 abo cs2 hj;simp only [getElem?_set]at hj;split at hj
  ·grind
  ·rename_i hkj;obtain⟨k1,k2,b2,v2,k3,k4,k5⟩:=h.inner hl hj;have gjj:=gj j (fun q=>hkj q.symm);exact⟨k1,Cx t.keeps (hno _ k1) gjj (fun _ _=>rfl) k2,b2,v2,by grind,k4,by grind⟩
 have Tq:=t.alI h hl (fun d=>d.id != r) (fun d hd' hf adF=>by have:=xI h (id:=id) aki hd' (by simpa using hf) adF;grind) (by rw [g1];rfl) afC hin hcells
 have acW:v.oneCell'=true:=by unfold Bc at hE;obtain⟨_,v2,c2,c3⟩:=hE;rw [show (⟨BO k id,some (E,n,len),cs,true⟩:Aw).id =BO k id from rfl,ho]at c2;injection c2 with c2;subst c2;rcases c3 with ⟨p,rfl,_⟩ | ⟨b',cap,cur,rfl,_⟩<;>rfl
 refine⟨G',t.af1 h _ ?_ ?_ ?_ ?_,b,v,hb,hc,by grind,acW⟩
 ·intro x hx;rcases mem_cons.1 hx with rfl | hx
  ·unfold Bc at hE ⊢;obtain⟨c1,v2,c2,c3⟩:=hE;refine⟨c1,v2,by grind,?_⟩;rcases c3 with ⟨p,c3,c4,c5⟩ | ⟨b',cap,cur,e1,e2,e3,e4,e5,e6,e7⟩
   ·grind
   ·exact .inr ⟨b',cap,cur,e1,by grind,e3,e4,e5,e6,An.mono t.keeps _ _ _ (hno _ hpc) (fun _=>rfl) e7⟩
  grind
 ·intro x hx;rcases mem_cons.1 hx with rfl | hx
  all_goals grind [BC.aph]
 ·grind
 ·rw [map_cons];refine nodup_cons.2 ⟨?_,Tq.2.2.2⟩;simp only [map_map,mem_map,mem_filter,Function.comp,jm,Aw.t_,not_exists,not_and];grind
theorem R.amh (h:R F st a w G) {r id:Ah} {er:Aw} (hr:st.look r=some er) {E:TypeId} {n len:Nat} (z_:er.row=some (E,n,len)) (hpr:er.pu=true) (hn:er.cs.all p9=true) (hd:Fh id=true) (hmk:C4 id=false):
 ∃ G',R F (st.b_ (fun i=>i==r||(i==id||DF id i)) (⟨id,some (E,n,len),er.cs,true⟩::((st.so.filter (fun d=>d.id != r&&d.id != id)).map (Aw.b_ (fun i=>i==r||(i==id||DF id i)))))) a w G'/\G'.own id=G.own r/\ ∀ i,i ≠ r->i ≠ id->G'.own i=G.own i:=by
 obtain⟨hmr,ag3⟩:=Bj hr;have alG:=FG hr;have aki:C4 r=false:=by rw [<-ag3];exact(h.deep er hmr).1
 have akf:r ≠ id:=(by grind);have hpc:=h.x_ er hmr hpr;let G':AG:=⟨fun i=>if i=r then none else if i=id then G.m_ r else G.m_ i,fun i=>if i=r then none else if i=id then G.own r else G.own i,fun b=>F.av b\/ ∃ i,(if i=r then none else if i=id then G.m_ r else G.m_ i)=some b⟩;have t:aaT F (fun i=>i==r||(i==id||DF id i)) (fun _=>false) G G' w w:=Ho h G' rfl (by grind) (by grind) (fun i j b hib hjb=>by
  simp only [G']at hib hjb;split at hib
  ·cases hib
  ·rename_i q1;split at hjb
   ·cases hjb
   ·rename_i q2;split at hib<;>split at hjb
    ·simp_all
    ·exact absurd (h.inj _ _ b hjb hib) q2
    ·exact absurd (h.inj _ _ b hib hjb) q1
    ·exact h.inj _ _ b hib hjb)
 have gid:G'.m_ id=G.m_ r/\G'.own id=G.own r:=(by grind);have hno: ∀ cs:List C,Ao cs=true->JQ (fun i=>BP i cs=true) G G':=fun cs hp i hi'=>absurd (show BP i cs=true from hi') (by rw [AP i cs hp];simp);have hp: ∀ d∈st.so,d.id ≠ r->d.id ≠ id->(fun i=>i==r||(i==id||DF id i)) d.id=false/\(Fh d.id=true-> ∀ k,(fun i=>i==r||(i==id||DF id i)) (BO k d.id)=false/\(fun _=>false:Ah->Bool) (BO k d.id)=false):=by
  intro d hd' h1 h2;have hof:DF id d.id=false:=by
   cases hq:DF id d.id with
   | false=>rfl
   | true=>
     have:=Fp hq;rw [(h.deep d hd').1]at this;cases this
  refine⟨by grind,fun _ k=>⟨?_,rfl⟩⟩;grind [CL,IR]
 refine⟨G',t.af1 h _ ?_ ?_ ?_ ?_,gid.2,(by grind)⟩
 ·intro x hx;rcases mem_cons.1 hx with rfl | hx
  ·have hE:=h.store er hmr;unfold Bc at hE ⊢;rw [z_]at hE;obtain⟨c1,v2,c2,c3⟩:=hE;refine⟨c1,v2,by grind,?_⟩;rcases c3 with ⟨p,c3,c4,c5⟩ | ⟨b',cap,cur,e1,e2,e3,e4,e5,e6,e7⟩
   ·grind
   ·exact .inr ⟨b',cap,cur,e1,by grind,e3,e4,e5,e6,An.mono t.keeps _ _ _ (hno _ hpc) (fun _=>rfl) e7⟩
  ·simp only [mem_map,mem_filter,and_eq_true,bne_iff_ne]at hx;obtain⟨y,⟨hy,h1,h2⟩,rfl⟩:=hx;exact t.ent h hy (hp y hy h1 h2).1 rfl
 ·intro x hx;rcases mem_cons.1 hx with rfl | hx
  ·refine⟨hmk,fun _=>⟨rfl,rfl,fun k E2 n2 abo cs2 hk=>?_⟩⟩;have:=all_eq_true.1 hn _ (mem_of_getElem? hk);cases this
  ·simp only [mem_map,mem_filter,and_eq_true,bne_iff_ne]at hx;obtain⟨y,⟨hy,h1,h2⟩,rfl⟩:=hx;exact t.deep h hy (hp y hy h1 h2).1 rfl (hp y hy h1 h2).2
 ·intro x hx;rcases mem_cons.1 hx with rfl | hx
  ·grind
  ·simp only [mem_map,mem_filter]at hx;obtain⟨y,⟨hy,_⟩,rfl⟩:=hx;exact Rj (h.x_ y hy)
 ·rw [map_cons];refine nodup_cons.2 ⟨?_,?_⟩
  ·simp only [map_map,mem_map,mem_filter,Function.comp,Aw.t_,not_exists,not_and,and_eq_true,bne_iff_ne];grind
  ·simp only [map_map,Function.comp_def,Aw.t_];exact List.Sublist.nodup (by grind [filter_sublist]) h.nodup
theorem R.aoq (h:R F st a w G) {r id:Ah} {er:Aw} (hr:st.look r=some er) {E:TypeId} {n len:Nat} (z_:er.row=some (E,n,len)) (hpr:er.pu=true) (hn:er.cs.all p9=true) (hd:Fh id=true) (hmk:C4 id=false):
 ∃ G',R F (st.b_ (fun i=>i==r||(i==id||DF id i)) (⟨id,some (E,n,len),er.cs,true⟩::((st.so.filter (fun d=>d.id != r&&d.id != id)).map (Aw.b_ (fun i=>i==r||(i==id||DF id i)))))) a w G'/\G'.own id=G.own r:=by
 obtain⟨G',q1,q2,_⟩:=h.amh hr z_ hpr hn hd hmk;grind
theorem xJ (h:R F st a w G) (id:Ah) (nb:Option Nat) (nv:Option Value) (ho:OL w w') (hs:w.heap.size<=w'.heap.size) (abD: ∀ b,b<w.heap.size->(G.m_ id ≠ some b)->w'.heap[b]? =w.heap[b]?)
 (aoc: ∀ b,b<F.w0.heap.size-> ¬F.old b->w'.heap[b]? =w.heap[b]?)
 (hn: ∀ b,nb=some b->(w.heap.size<=b\/(G.m_ id=some b/\Cg w w' b))/\b<w'.heap.size):aaT F (· ==id) (· ==id) G (B9 F G id nb nv) w w' where
 agree:=(by grind [B9])
 same:=fun i b hi hb=>abD b (h.lt i b hb) (fun q=>by have:=h.inj i id b hb q;grind)
 keeps:=h.keeps id nb nv hs abD (by grind)
 outer:=ho
 ext:=aoc
 wr:=fun b=>Iff.rfl
 inj:=by
  intro i j b hi hj;simp only [B9]at hi hj;split at hi<;>split at hj
  ·simp_all
  ·rename_i q1 q2;rcases (hn b hi).1 with q | q
   ·exact absurd (h.lt j b hj) (by omega)
   ·exact absurd (h.inj j id b hj q.1) q2
  ·rename_i q1 q2;rcases (hn b hj).1 with q | q
   ·exact absurd (h.lt i b hi) (by omega)
   ·exact absurd (h.inj i id b hi q.1) q1
  ·exact h.inj i j b hi hj
 lt:=by
  intro i b hi;simp only [B9]at hi;split at hi
  ·grind
  ·exact Nat.lt_of_lt_of_le (h.lt i b hi) hs
 new:=by
  intro i b hi;simp only [B9]at hi;split at hi
  ·rcases (hn b hi).1 with q | q
   ·grind
   ·exact h.new id b q.1
  ·exact h.new i b hi
theorem R.agO (h:R F st a w G) {id:Ah} {e:Aw} (hl:st.IN id=some e) {E n len m:Nat} (z_:e.row=some (E,n,len))
 {v v':Value} {xs us:List Value} {cs:List C} (hob:v.ownBlock=G.m_ id) (h1:Aj w G e.cs xs) (h2:Aj w G cs us) (hxc: ∀ b j u,G.m_ id=some b->xs[j]? =some u->w.cell? ⟨b,j,none⟩=some u)
 (hold:w.ownsRow 0 E n v len xs) (aas:w'.ownsRow 0 E n v' (len+m) (xs++us)) (hg:w.grownBy w' v.ownBlock) (hfr:v'.ownBlock=v.ownBlock\/ ∀ b,v'.ownBlock=some b->w.heap.size<=b)
 (hp:Ao cs=true) (hn:cs.all p9=true):
 R F (st.b_ (· ==id) ((st.so.map (Aw.b_ (· ==id))).map (Tl id (some (E,n,len+m)) (e.cs++cs)))) a w' (B9 F G id v'.ownBlock (some v'))/\v'.oneCell'=true:=by
 obtain⟨hm,hid,hd,hmk,hpu,hpe,hi,_⟩:=h.aa3 hl;have abD: ∀ b,b<w.heap.size->G.m_ id ≠ some b->w'.heap[b]? =w.heap[b]? :=fun b hb Tj=>hg.block b hb (by grind);have hnb: ∀ b,v'.ownBlock=some b->w.heap.size<=b\/(G.m_ id=some b/\Cg w w' b):=by
  intro b hb;rcases hfr with q | q
  ·refine .inr ⟨by grind,?_⟩;have hb2:v.ownBlock=some b:=by grind
   intro cur T fz hc;rcases aas.2 with ⟨r,_⟩ | ⟨g,cap,adG,r,_,r2,_⟩
   ·rw [r]at hb;cases hb
   ·rw [r]at hb;simp only [Value.ownBlock,Option.some.injEq]at hb;subst hb;rcases hold.2 with ⟨r3,_⟩ | ⟨g3,avN,avL,r3,_,r4,_⟩
    all_goals grind [Value.ownBlock]
  grind
 have hlt: ∀ b,v'.ownBlock=some b->b<w'.heap.size:=fun b hb=>(aas.lt b hb).2;have acW:v'.oneCell'=true:=by rcases aas.2 with ⟨q,_⟩ | ⟨g,cap,cur,q,_⟩<;>rw [q]<;>rfl
 have t:=xJ h id v'.ownBlock (some v') ⟨hg.os,hg.tape,hg.output⟩ hg.size abD (fun b hb aqH=>by
  refine abD b (Nat.lt_of_lt_of_le hb h.u_) (fun q=>?_);rcases h.new id b q with q2 | q2
  all_goals grind) (by grind)
 have hpx:Ao (e.cs++cs)=true:=by rw [BT,hpe,hp];rfl
 have hl1:=h1.length;have hl2:=h2.length;have hln:=aas.1;have hno: ∀ cs:List C,Ao cs=true->JQ (fun i=>BP i cs=true) G (B9 F G id v'.ownBlock (some v')):=fun cs hp i hi'=>absurd (show BP i cs=true from hi') (by rw [AP i cs hp];simp);have gid:(B9 F G id v'.ownBlock (some v')).m_ id=v'.ownBlock/\(B9 F G id v'.ownBlock (some v')).own id=some v':=by simp [B9]
 have gj: ∀ j,(B9 F G id v'.ownBlock (some v')).m_ (BO j id)=G.m_ (BO j id)/\(B9 F G id v'.ownBlock (some v')).own (BO j id)=G.own (BO j id):=fun j=>t.agree _ (by grind [CL]);have afC:Bc w' (B9 F G id v'.ownBlock (some v')) ⟨id,some (E,n,len+m),e.cs++cs,true⟩:=by
  unfold Bc;refine⟨by grind,v',gid.2,?_⟩;rcases aas.2 with ⟨q,h0⟩ | ⟨g,cap,cur,q,_,q2,q3,q4,q5,q6⟩
  ·exact .inl ⟨none,q,h0,by rw [gid.1,q];rfl⟩
  ·refine .inr ⟨g,cap,cur,q,by rw [gid.1,q];rfl,q2,q3,q4,q5,?_⟩;refine An.aaA (vs:=xs++us) (Aj.mono t.keeps _ _ (hno _ hpx) (h1.append h2)) ?_;grind [BE,take_append_drop]
 have hin:EU w' (B9 F G id v'.ownBlock (some v')) ⟨id,some (E,n,len+m),e.cs++cs,true⟩:=by
  intro j E2 n2 abo cs2 hj;simp only at hj;have hj2:e.cs[j]? =some (.isl E2 n2 abo cs2):=by
   by_cases q:j<e.cs.length
   ·grind
   ·rw [getElem?_append_right (by omega)]at hj;have:=all_eq_true.1 hn _ (mem_of_getElem? hj);cases this
  have hjl:j<e.cs.length:=(by grind);obtain⟨k1,k2,b2,v2,k3,k4,k5⟩:=h.inner hl hj2;have hxj:xs[j]? =some v2:=by grind
  refine⟨k1,Cx t.keeps (hno _ k1) (gj j) (fun b hb=>abD b (h.lt _ b hb) (fun q=>CL hmk j (h.inj _ _ b q hb))) k2,?_⟩;rcases aas.2 with ⟨q,h0⟩ | ⟨g,cap,cur,q,_,q2,q3,q4,q5,q6⟩
  ·grind
  ·refine⟨g,v2,by rw [gid.1,q];rfl,?_,by grind⟩;have hr:=BE q2 (us:=xs++us) (rest:=cur.toList.drop ((len+m)*n)) (by rw [<-q6,take_append_drop]);have:=hr j v2 (by grind);grind
 have Tq:=t.alI h hl (fun _=>true) (by grind [CL]) rfl afC hin hpx;rw [Lb]at Tq;exact⟨t.af1 h _ Tq.1 Tq.2.1 Tq.2.2.1 Tq.2.2.2,acW⟩
def QB:C->C
 | .isl _ _ len cs=> .sl len cs
 | c=>c
def pF (id i:Ah):Bool:=i==id||DF id i
def U0 (id:Ah) (len:Nat) (cells:List C):C->C
 | .e_ i=>match i==id with
   | true=> .sl len cells
   | false=>Cr (pF id) (.e_ i)
 | c=>Cr (pF id) c
def QC (id:Ah) (len:Nat) (cells:List C):V->V
 | .c x=> .c (U0 id len cells x)
 | .agg cs=> .agg (cs.map (U0 id len cells))
 | v=>BD (pF id) v
def Aw.frD (id:Ah) (len:Nat) (cells:List C) (e:Aw):Aw:=match e with
 | ⟨i,r,cs,true⟩=>⟨i,r,cs,true⟩
 | ⟨i,r,cs,false⟩=>⟨i,r,cs.map (U0 id len cells),false⟩
def St.frD (st:St) (id:Ah) (len:Nat) (cells:List C):St:={tm:=st.tm.map (QC id len cells),so:=(st.so.filter (fun d=>d.id != id)).map (Aw.frD id len cells),gh:=st.gh.map (QC id len cells),pre:=st.pre}
theorem Yw {id:Ah} {len:Nat} {cells:List C} {c:C} (h: ∀ i,c= .e_ i->i ≠ id):U0 id len cells c=Cr (pF id) c:=by
 cases c<;>simp only [U0]
 grind
theorem tD {id:Ah} {len:Nat} {cells:List C}:U0 id len cells (.e_ id)= .sl len cells:=by simp only [U0,beq_self_eq_true]
theorem Zl {id:Ah} {len:Nat} {cells:List C} (hk:Co G G' w w') (ha: ∀ i,pF id i=false->G'.m_ i=G.m_ i/\G'.own i=G.own i) (ho: ∀ v,G.own id=some v->Ad w' G' (.sl len cells) v) {c:C} {v:Value} (h:Ad w G c v):Ad w' G' (U0 id len cells c) v:=by
 by_cases hc:c= .e_ id
 ·grind [tD,Ad]
 ·rw [Yw (fun i q hi=>hc (by rw [q,hi]))];exact Ad.mono hk _ _ (fun i hi=>ha i (Zi hi)) (Zk h)
theorem mJ {id:Ah} {len:Nat} {cells:List C} (hk:Co G G' w w') (ha: ∀ i,pF id i=false->G'.m_ i=G.m_ i/\G'.own i=G.own i) (ho: ∀ v,G.own id=some v->Ad w' G' (.sl len cells) v): ∀ {cs:List C} {vs:List Value},Aj w G cs vs->Aj w' G' (cs.map (U0 id len cells)) vs
 | [],[],_=>by simp [Aj]
 | [],_::_,h=>by simp [Aj]at h
 | _::_,[],h=>by simp [Aj]at h
 | c::cs,v::vs,h=>by simp only [Aj,map_cons]at h ⊢;exact⟨Zl hk ha ho h.1,mJ hk ha ho h.2⟩
theorem mK {id:Ah} {len:Nat} {cells:List C} (hk:Co G G' w w') (ha: ∀ i,pF id i=false->G'.m_ i=G.m_ i/\G'.own i=G.own i) (ho: ∀ v,G.own id=some v->Ad w' G' (.sl len cells) v) {x:V} {v:Value} (h:Ab w G x v):Ab w' G' (QC id len cells x) v:=by
 cases x with
 | c x=>grind [QC,Ab,Zl]
 | agg cs=>
   grind [QC,Ab,mJ]
 | tup vs=>exact Ab.mono hk _ _ (fun i hi=>ha i (Ka hi)) (Kb h)
 | g b x=>exact Ab.mono hk _ _ (fun i hi=>ha i (Ka hi)) (Kb h)
 | undef=>exact Ab.mono hk _ _ (fun i hi=>ha i (Ka hi)) (Kb h)
theorem fK {id:Ah} {len:Nat} {cells:List C} (hk:Co G G' w w') (ha: ∀ i,pF id i=false->G'.m_ i=G.m_ i/\G'.own i=G.own i) (ho: ∀ v,G.own id=some v->Ad w' G' (.sl len cells) v): ∀ {xs:List V} {vs:List Value},Aq w G xs vs->Aq w' G' (xs.map (QC id len cells)) vs
 | [],vs,h=>by simpa [Aq] using h
 | x::xs,vs,h=>by simp only [Aq,map_cons]at h ⊢;obtain⟨v,r,e,h1,h2⟩:=h;exact⟨v,r,e,mK hk ha ho h1,fK hk ha ho h2⟩
theorem Rk {id:Ah} {len:Nat} {cells:List C} (hk:Co G G' w w') (ha: ∀ i,pF id i=false->G'.m_ i=G.m_ i/\G'.own i=G.own i) (ho: ∀ v,G.own id=some v->Ad w' G' (.sl len cells) v): ∀ {cs:List C} {b o:Nat},(∀ o,w'.cell? ⟨b,o,none⟩=w.cell? ⟨b,o,none⟩)->An w G cs b o->An w' G' (cs.map (U0 id len cells)) b o
 | [],_,_,_,_=>by grind [An]
 | c::cs,b,o,hc,h=>by simp only [An,map_cons]at h ⊢;obtain⟨⟨v,h1,h2⟩,h3⟩:=h;exact⟨⟨v,by rw [hc];exact h1,Zl hk ha ho h2⟩,Rk hk ha ho hc h3⟩
theorem Abo {f:C->C}: ∀ {cs:List C} {b o:Nat},(∀ k c,cs[k]? =some c-> ∃ v,w.cell? ⟨b,o+k,none⟩=some v/\Ad w G (f c) v)->An w G (cs.map f) b o
 | [],_,_,_=>by grind [An]
 | c::cs,b,o,h=>by simp only [An,map_cons];refine⟨by simpa using h 0 c (by simp),Abo (fun k c' hc=>?_)⟩;have:=h (k+1) c' (by simpa using hc);rw [show o+1+k=o+(k+1) by omega];exact this
theorem R.apX (h:R F st a w G) {id:Ah} {e:Aw} (hl:st.IN id=some e) {E:TypeId} {n len:Nat} (z_:e.row=some (E,n,len)) {cells:List C} (hcs:e.cs.map QB=cells): ∃ G',R F (st.frD id len cells) a w G':=by
 subst hcs;obtain⟨hm,hid,hd,hmk,hpu,hpe,hi,_⟩:=h.aa3 hl;let G':AG:=⟨fun i=>if pF id i=true then none else G.m_ i,fun i=>if pF id i=true then none else G.own i,fun b=>F.av b\/ ∃ i,(if pF id i=true then none else G.m_ i)=some b⟩;have hag: ∀ i,pF id i=false->G'.m_ i=G.m_ i/\G'.own i=G.own i:=(by grind);have t:aaT F (pF id) (fun _=>false) G G' w w:=Ho h G' rfl hag (by grind) (fun i j b hib hjb=>by
  simp only [G']at hib hjb;split at hib
  ·cases hib
  ·split at hjb
   ·cases hjb
   ·exact h.inj _ _ b hib hjb)
 have hno: ∀ cs:List C,Ao cs=true->JQ (fun i=>BP i cs=true) G G':=fun cs hp i hi'=>absurd (show BP i cs=true from hi') (by rw [AP i cs hp];simp);have hnw: ∀ i b,pF id i=true->G.m_ i=some b-> ¬G'.wr b:=by
  intro i b hp hb hw;simp only [G']at hw;rcases hw with q | ⟨j,q⟩
  ·rcases h.new i b hb with q2 | q2
   ·have:=h.aaS b q;omega
   ·exact h.aah b q2 q
  ·split at q
   ·cases q
   ·rename_i hj;exact hj (by rw [h.inj j i b q hb];exact hp)
 have ay9:pF id id=true:=by simp [pF]
 have ay6: ∀ k,pF id (BO k id)=true:=fun k=>by simp [pF,IR]
 have abH: ∀ (b:Nat),G.m_ id=some b-> ∀ k c,e.cs[k]? =some c-> ∀ v,w.cell? ⟨b,k,none⟩=some v->Ad w G c v->(QB c).pure =true/\Ad w G' (QB c) v:=by
  intro b hb k c hk v hv hr;have hpc:c.pure=true:=by grind [Cf]
  by_cases hc: ∃ E n l cs,c= .isl E n l cs
  ·obtain⟨E2,n2,l2,cs2,rfl⟩:=hc;obtain⟨k1,k2,b2,v2,k3,k4,k5⟩:=h.inner hl hk;rw [hb]at k3;injection k3 with k3;subst k3;rw [hv]at k4;injection k4 with k4;subst k4;refine⟨rfl,?_⟩;simp only [QB,Ad];unfold Bc at k2;obtain⟨c1,v2,c2,c3⟩:=k2;rw [show (⟨BO k id,some (E2,n2,l2),cs2,true⟩:Aw).id =BO k id from rfl,k5]at c2;injection c2 with c2;subst c2;refine⟨k1,?_⟩;rcases c3 with ⟨p,rfl,rfl,_⟩ | ⟨b',cap,cur,rfl,e2,e3,e4,e5,e6,e7⟩
   ·grind
   ·refine⟨_,cap,rfl,e4,e5,fun h0=>?_, .inr ⟨b',0,rfl,hnw _ b' (ay6 k) e2,h.lt _ b' e2,An.mono t.keeps _ _ _ (hno _ k1) (fun _=>rfl) e7⟩⟩;simp_all
  ·have:QB c=c:=by cases c<;>first | rfl | grind
   rw [this];exact⟨hpc,Ad.mono t.keeps _ _ (fun i hi'=>absurd (show c.p_ i=true from hi') (by rw [Ic i c hpc];simp)) hr⟩
 have ho: ∀ v,G.own id=some v->Ad w G' (.sl len (e.cs.map QB)) v:=by
  intro v hv;have hE:=h.store e hm;unfold Bc at hE;rw [z_]at hE;obtain⟨c1,v1,c2,c3⟩:=hE;rw [hid,hv]at c2;injection c2 with c2;subst c2;rcases c3 with ⟨p,rfl,rfl,c5⟩ | ⟨b,cap,cur,rfl,e2,e3,e4,e5,e6,e7⟩
  ·have:e.cs=[]:=by grind
   rw [this];simp only [Ad];grind
  ·rw [hid]at e2;obtain⟨vs,r1,r2⟩:=e7.list;have hl1:=r1.length;have hat: ∀ k c,e.cs[k]? =some c-> ∃ v,w.cell? ⟨b,k,none⟩=some v/\Ad w G c v:=by intro k c hk;obtain⟨u,hu,hr⟩:=r1.get k c hk;exact⟨u,by simpa using r2 k u hu,hr⟩
   have au2:Ao (e.cs.map QB)=true:=by rw [Cf,all_eq_true];intro c hc;obtain⟨d,hd,rfl⟩:=mem_map.1 hc;obtain⟨k,hk,rfl⟩:=mem_iff_getElem.1 hd;obtain⟨u,q1,q2⟩:=hat k _ (List.getElem?_eq_getElem hk);grind
   simp only [Ad];refine⟨au2,_,cap,rfl,e4,e5,fun h0=>?_, .inr ⟨b,0,rfl,hnw id b ay9 e2,h.lt id b e2,Abo (fun k c hk=>?_)⟩⟩
   ·simp_all
   grind
 have azt: ∀ d:Aw,(d.frD id len (e.cs.map QB)).id =d.id:=fun d=>by obtain⟨i,r,cs,_ | _⟩:=d<;>rfl
 have hpn: ∀ d∈st.so,d.id ≠ id->pF id d.id=false/\(Fh d.id=true-> ∀ k,pF id (BO k d.id)=false):=by
  intro d hd' h2;refine⟨?_,fun _ k=>?_⟩
  ·unfold pF;rw [show (d.id==id)=false by simpa using h2,Bool.false_or];cases hq:DF id d.id with
   | false=>rfl
   | true=>
     have:=Fp hq;rw [(h.deep d hd').1]at this;cases this
  ·unfold pF;rw [show (BO k d.id==id)=false by simpa using (CL hmk k).symm,Bool.false_or,IR];grind
 refine⟨G',t.rel h _ (by simp [St.frD]) (fun i=>?_) ?_ ?_ ?_ ?_ ?_⟩
 ·simp only [St.frD];rw [F4 (by simp [QC,BD,V.f_])];exact mK t.keeps hag ho (h.v_ i)
 ·exact fK t.keeps hag ho h.F_
 ·intro x hx;simp only [St.frD,mem_map,mem_filter,bne_iff_ne]at hx;obtain⟨d,⟨hd',Tj⟩,rfl⟩:=hx;have hE:=h.store d hd';have hgd:=hag d.id (hpn d hd' Tj).1;have hpd:=h.x_ d hd';obtain⟨i,r,ds,pu⟩:=d;cases pu with
  | true=>exact Cx t.keeps (hno _ (hpd rfl)) hgd (fun _ _=>rfl) hE
  | false=>
    unfold Bc at hE ⊢;cases r with
    | none=>
      obtain⟨b,h1,h2⟩:=hE;refine⟨b,by grind,?_⟩;rcases h2 with ⟨kv,es,h2,h3⟩ | ⟨T,cur,h2,h3,h4⟩
      ·dsimp only [Aw.frD]at h2 ⊢;rw [h2];exact .inl ⟨kv,es,by simp [U0,Cr,C.f_],h3⟩
      ·exact .inr ⟨T,cur,h2,by simpa [Aw.frD] using h3,Rk t.keeps hag ho (fun _=>rfl) h4⟩
    | some q=>
      obtain⟨E',n',ace⟩:=q;obtain⟨hl',v,h1,h2⟩:=hE;refine⟨by grind [Aw.frD],v,by grind,?_⟩;rcases h2 with ⟨p,e1,e2,e3⟩ | ⟨b,cap,cur,e1,e2,e3,e4,e5,e6,e7⟩
      ·grind
      ·exact .inr ⟨b,cap,cur,e1,by grind,e3,e4,e5,e6,Rk t.keeps hag ho (fun _=>rfl) e7⟩
 ·intro x hx;simp only [St.frD,mem_map,mem_filter,bne_iff_ne]at hx;obtain⟨d,⟨hd',Tj⟩,rfl⟩:=hx;have hD:=h.deep d hd';have hD2:BC w G (d.frD id len (e.cs.map QB)):=by
   obtain⟨i,r,cs,pu⟩:=d;cases pu with
   | true=>exact hD
   | false=>exact⟨hD.1,fun hq=>absurd (hD.2 hq).1 (by simp)⟩
  refine BC.mono t.keeps (by grind) (fun hq k=>?_) (fun _ _=>rfl) (fun _ _ _ _=>rfl) hD2;grind
 ·intro x hx;simp only [St.frD,mem_map,mem_filter]at hx;obtain⟨d,⟨hd',_⟩,rfl⟩:=hx;have:=h.x_ d hd';obtain⟨i,r,cs,pu⟩:=d;cases pu with
  | true=>exact this
  | false=>intro hq;cases hq
 ·simp only [St.frD,map_map,Function.comp_def,azt];exact List.Sublist.nodup (by grind [filter_sublist]) h.nodup
end
end Go.PL
namespace Go.PL
open Go Go.RowKit
inductive DS where
 | ld (E:TypeId) (n len:Nat) (cs:List C)
 | ix (E:TypeId) (n len:Nat) (cs:List C)
 | rd (E:TypeId) (n len:Nat) (cs:List C) (u:V)
 | ln (E:TypeId) (n len:Nat) (cs:List C)
 | st (E:TypeId) (n len ln:Nat) (cs cells:List C)
 | ps (cells:List C)
 | ab (cells:List C)
 | lx (E:TypeId) (n len:Nat) (cs:List C)
 | nw (t:Option (Nat×List C))
 | bs
 | aa (len:Nat) (cells:List C)
section
variable {F:Fr} {st:St} {a:Act} {w:World} {G:AG}
theorem R.I_ (h:R F st a w G) {e:Aw} {id:Ah} (he:e∈st.so) (hid:e.id=id) (hd:Fh id=true):st.IN id=some e:=by
 unfold St.IN;cases hf:st.so.find? (fun e=>e.id==id&&Fh e.id)with
 | none=>
   grind
 | some x=>
   have h1:=List.mem_of_find?_eq_some hf;have h2:=find?_some hf;simp only [and_eq_true,beq_iff_eq]at h2;rw [h.uniq h1 he (h2.1.trans hid.symm)]
theorem R.ad8 (h:R F st a w G) {e:Aw} {id:Ah} (he:e∈st.so) (hid:e.id=id) (hd:Fh id=false) (hr:e.row.isSome=true):st.look id=some e:=by
 have hM:e.isM=false:=by grind [Aw.isM]
 unfold St.look;cases hf:st.so.find? (fun e=>e.id==id&& !(e.isM||Fh e.id))with
 | none=>
   grind
 | some x=>
   have h1:=List.mem_of_find?_eq_some hf;have h2:=find?_some hf;simp only [and_eq_true,beq_iff_eq]at h2;rw [h.uniq h1 he (h2.1.trans hid.symm)]
theorem R.afV (h:R F st a w G) {d:Nat} {x:V} (hx:Ab w G x (a.tmps.getD d Go.undef)):R F (st.put (some d) x) a w G:={
 dfr:=h.dfr
 size:=by simp [St.put,h.size]
 v_:=fun i=>by
  simp only [St.put,getD_eq_getElem?_getD,getElem?_set];by_cases hi:d=i
  ·subst hi;by_cases hl:d<st.tm.length
   ·grind
   ·rw [if_pos rfl,if_neg hl,Option.getD_none];simp only [Ab]
  ·rw [if_neg hi];have:=h.v_ i;grind
 F_:=h.F_,store:=h.store,deep:=h.deep,x_:=h.x_,nodup:=h.nodup
 inj:=h.inj,lt:=h.lt,new:=h.new,wr:=h.wr,aaS:=h.aaS,inv:=h.inv,aah:=h.aah,os:=h.os,tape:=h.tape,output:=h.output,u_:=h.u_,ext:=h.ext}
end
section
variable {P:Program} {I:World->Prop} {o:Oper} {st an:St} {K:St->Prop} {F:Fr} {a:Act} {w:World} {G:AG}
theorem SD (h:R F st a w G) {x:Operand} (hl:A1 (AX st true x).1):Ab w G (AX st true x).2 (a.eval x):=by obtain⟨h1,h2⟩:=P3 hl;rw [<-h2];exact h.arg rfl h1
def dLd (P:Program) (st:St) (o:Oper) (E n len:Nat) (cs:List C):Option (List Prop×St):=match o.op with
 | .load T x=>match (AX st true x).2,K0 P T with
   | .c (.ptr id k),some (ag,n')=>match !ag&&Nat.beq n' 1,st.IN id with
     | true,some e=>some ((AX st true x).1++[e.cs[k]? =some (.isl E n len cs)],st.put o.dst (.c (.e_ (1000007::k::id))))
     | _,_=>none
   | _,_=>none
 | _=>none
theorem Abp {E n len:Nat} {cs:List C} {l:List Prop} (h:dLd P st o E n len cs=some (l,an)) (hl:A1 l) (hK:K an):DJ P I o st K:=by
 unfold dLd at h;split at h
 ·rename_i T x ho;split at h
  ·rename_i id k ag n' hx ht;split at h
   ·rename_i e hb he;simp only [Option.some.injEq,injEq]at h;obtain⟨rfl,rfl⟩:=h;obtain⟨q1,q2,_⟩:=Ak.1 hl;intro F a w G Q hI hR;have V_:=SD hR q1;rw [hx]at V_;simp only [Ab,Ad]at V_;obtain⟨b,hb1,hv⟩:=V_;obtain⟨_,hE,b2,v,k3,k4,k5⟩:=hR.inner he q2;rw [hb1]at k3;injection k3 with k3;subst k3;simp only [and_eq_true,not_eq_true']at hb;obtain⟨d,i,hu,hd,_⟩:=C7 ht;have acW:v.oneCell'=true:=by unfold Bc at hE;obtain⟨_,v2,c2,c3⟩:=hE;rw [show (⟨BO k id,some (E,n,len),cs,true⟩:Aw).id =BO k id from rfl,k5]at c2;injection c2 with c2;subst c2;rcases c3 with ⟨p,rfl,_⟩ | ⟨b',cap,cur,rfl,_⟩<;>rfl
    have q_:(execOp a.eval o).run P w= .ok (.value v) w:=by simp_all [execOp,DY]
    exact AJ q_ ⟨_,G,hK,hR.put (by simp only [Ab,Ad];exact⟨k5,acW⟩)⟩
   ·cases h
  ·cases h
 ·cases h
def dIx (P:Program) (st:St) (o:Oper) (E n len:Nat) (cs:List C):Option (List Prop×St):=match o.op with
 | .indexAddr t x y=>match (AX st true x).2,(AX st true y).2,Dk P t with
   | .c (.e_ (m::k::id)), .c (.int _ i),some (_,n')=>match Nat.beq m 1000007&&Nat.beq n' n,st.IN id with
     | true,some e=>some (((AX st true x).1++(AX st true y).1)++[e.cs[k]? =some (.isl E n len cs),0<=i/\i<(len:Int)],st.put o.dst (.c (.ptr (m::k::id) (i.toNat*n'))))
     | _,_=>none
   | _,_,_=>none
 | _=>none
theorem Abq {E n len:Nat} {cs:List C} {l:List Prop} (h:dIx P st o E n len cs=some (l,an)) (hl:A1 l) (hK:K an):DJ P I o st K:=by
 unfold dIx at h;split at h
 ·rename_i t x y ho;split at h
  ·rename_i m k id ki i E' n' hx hy ht;split at h
   ·rename_i e hb he;simp only [Option.some.injEq,injEq]at h;obtain⟨rfl,rfl⟩:=h;obtain⟨q1,q2,q3,_⟩:=Ak.1 hl;obtain⟨q1,q1'⟩:=Ak.1 q1;intro F a w G Q hI hR;have V_:=SD hR q1;have hyv:=SD hR q1';rw [hx]at V_;rw [hy]at hyv;simp only [Ab,Ad]at V_ hyv;simp only [and_eq_true]at hb;have hm:=eq_of_beq_eq_true hb.1;subst hm;obtain⟨_,hE,_⟩:=hR.inner he q2;unfold Bc at hE;obtain⟨_,v2,c2,c3⟩:=hE;rw [show (⟨BO k id,some (E,n,len),cs,true⟩:Aw).id =BO k id from rfl,show BO k id=1000007::k::id from rfl,V_.1]at c2;injection c2 with c2;rcases c3 with ⟨p,_,c4,_⟩ | ⟨b',cap,cur,c3,e2,_⟩
    ·omega
    ·have q_:(execOp a.eval o).run P w= .ok (.value (.pointer (some ⟨b',0+i.toNat*n',none⟩))) w:=by simp [execOp,ho,hyv,c2,c3,Ei ht b' 0 len cap ki i q3.1 q3.2 w]
     exact AJ q_ ⟨_,G,hK,hR.put (by simp only [Ab,Ad];exact⟨b',e2,by grind⟩)⟩
   ·cases h
  ·cases h
 ·cases h
def dRd (P:Program) (st:St) (o:Oper) (E n len:Nat) (cs:List C) (u:V):Option (List Prop×St):=match o.op with
 | .load T x=>match (AX st true x).2,K0 P T with
   | .c (.ptr (m::k::id) off),some (ag,n')=>match Nat.beq m 1000007&&(ag||Nat.blt 0 n'),st.IN id with
     | true,some e=>some ((AX st true x).1++[e.cs[k]? =some (.isl E n len cs),off+n'<=cs.length/\toV ag off n' cs=u],st.put o.dst u)
     | _,_=>none
   | _,_=>none
 | _=>none
theorem Abr {E n len:Nat} {cs:List C} {u:V} {l:List Prop} (h:dRd P st o E n len cs u=some (l,an)) (hl:A1 l) (hK:K an):DJ P I o st K:=by
 unfold dRd at h;split at h
 ·rename_i T x ho;split at h
  ·rename_i m k id off ag n' hx ht;split at h
   ·rename_i e hb he;simp only [Option.some.injEq,injEq]at h;obtain⟨rfl,rfl⟩:=h;obtain⟨q1,q2,q3,_⟩:=Ak.1 hl;intro F a w G Q hI hR;have V_:=SD hR q1;rw [hx]at V_;simp only [Ab,Ad]at V_;obtain⟨b,hb1,hv⟩:=V_;simp only [and_eq_true,or_eq_true,Nat.blt_eq]at hb;have hm:=eq_of_beq_eq_true hb.1;subst hm;obtain⟨_,hE,_⟩:=hR.inner he q2;obtain⟨cur,T',_,_,z_⟩:=hE.row (fun q=>by cases q) hb1;obtain⟨v,r1,r2⟩:=YQ (P:=P) z_ ht q3.1 hb.2;have q_:(execOp a.eval o).run P w= .ok (.value v) w:=by simp_all [C1.refl,execOp]
    exact AJ q_ ⟨_,G,hK,hR.put (by grind)⟩
   ·cases h
  ·cases h
 ·cases h
def dLn (P:Program) (st:St) (o:Oper) (E n len:Nat) (cs:List C):Option (List Prop×St):=match o.op with
 | .call c=>match c.callee,c.args.toList,c.argTypes.toList with
   | .builtin .len,[x],[t]=>match (AX st true x).2 with
     | .c (.e_ (m::k::id))=>match Nat.beq m 1000007&&EV P t,st.IN id with
       | true,some e=>some ((AX st true x).1++[e.cs[k]? =some (.isl E n len cs)],st.put o.dst (.c (.int .i64 len)))
       | _,_=>none
     | _=>none
   | _,_,_=>none
 | _=>none
theorem Abs {E n len:Nat} {cs:List C} {l:List Prop} (h:dLn P st o E n len cs=some (l,an)) (hl:A1 l) (hK:K an):DJ P I o st K:=by
 unfold dLn at h;split at h
 ·rename_i c ho;split at h
  ·rename_i x t h1 h2 h3;split at h
   ·rename_i m k id hx;split at h
    ·rename_i e hb he;simp only [Option.some.injEq,injEq]at h;obtain⟨rfl,rfl⟩:=h;obtain⟨q1,q2,_⟩:=Ak.1 hl;intro F a w G Q hI hR;have V_:=SD hR q1;rw [hx]at V_;simp only [Ab,Ad]at V_;simp only [and_eq_true]at hb;have hm:=eq_of_beq_eq_true hb.1;subst hm;obtain⟨el,hel⟩:=EW hb.2;obtain⟨_,hE,_⟩:=hR.inner he q2;unfold Bc at hE;obtain⟨_,v2,c2,c3⟩:=hE;rw [show (⟨BO k id,some (E,n,len),cs,true⟩:Aw).id =BO k id from rfl,show BO k id=1000007::k::id from rfl,V_.1]at c2;injection c2 with c2;have hsl: ∃ p cap,a.eval x= .slice p len cap:=by grind
     obtain⟨p,cap,hsl⟩:=hsl;have ea:c.args= #[x]:=by grind
     have et:c.argTypes= #[t]:=by grind
     have q_:(execOp a.eval o).run P w= .ok (.value (.int .i64 len)) w:=by simp [execOp,ho,resolve,h1,ea,et,invoke,builtin,Builtin.len_,Sem.run_bind,run_underlying hel,goInt,hsl]
     exact AJ q_ ⟨_,G,hK,hR.put (by simp only [Ab,Ad])⟩
    ·cases h
   ·cases h
  ·cases h
 ·cases h
theorem El {T:TypeId} {ag:Bool} {n b off:Nat} {T':TypeId} {cur:Array Value} {v:Value} (ht:K0 P T=some (ag,n)) (hh:w.heap[b]? =some (.cells cur T' (0,0))) (hl:v.cells.toList.length=n) (amP:off+v.cells.toList.length<=cur.size) (acW: ∀ u∈v.cells.toList,u.oneCell'=true):
 (Instr.storeAt T (.pointer (some ⟨b,off,none⟩)) v).run P w= .ok () (w.setRow b (cur.toList.take off++v.cells.toList++cur.toList.drop (off+v.cells.toList.length)).toArray):=by
 obtain⟨d,i,hu,hd,hi,hsz⟩:=C7 ht;have hst:=run_storeCells_at P b off T' v.cells.toList 0 cur w hh (by simpa using amP) acW;simp only [add_zero]at hst;simp_all [Instr.storeAt,Instr.sureAddr,storeVar,sizeOf,typeInfo]
theorem FP {w':World} {K:Act->World->Prop} {Q:Exit->Act->World->Prop} (hr:(execOp a.eval o).run P w= .ok .skip w') (h:K (a.put o.dst Go.undef) w'):o.wp P a w K Q:=by grind [Oper.wp,Oper.upon]
def mL (len:Nat):Option (TypeId×Nat×Nat)->Option (TypeId×Nat×Nat)
 | some (E,n,_)=>some (E,n,len)
 | none=>none
def dSt (P:Program) (st:St) (o:Oper) (E n len ln:Nat) (cs cells:List C):Option (List Prop×St):=match o.op with
 | .store T x y=>match o.dst,(AX st true x).2,(AX st true y).2.cells,K0 P T with
   | none, .c (.ptr (m::k::id) off),some xs,some (_,n')=>match Nat.beq m 1000007&&(Nat.beq xs.length n'&&Ao xs),st.IN id with
     | true,some e=>some (((AX st true x).1++(AX st true y).1)++[e.cs[k]? =some (.isl E n len cs),off+n'<=cs.length/\e.cs.set k (.isl E n len (cs.take off++xs++cs.drop (off+xs.length)))=cells,mL ln e.row=e.row],st.afw id (mL ln e.row) cells)
     | _,_=>none
   | _,_,_,_=>none
 | _=>none
theorem Abt {E n len ln:Nat} {cs cells:List C} {l:List Prop} (h:dSt P st o E n len ln cs cells=some (l,an)) (hl:A1 l) (hK:K an):DJ P I o st K:=by
 unfold dSt at h;split at h
 ·rename_i T x y ho;split at h
  ·rename_i m k id off xs ag n' ag4 hx hy ht;split at h
   ·rename_i e hb he;simp only [Option.some.injEq,injEq]at h;obtain⟨rfl,rfl⟩:=h;obtain⟨q1,q2,q3,q4,_⟩:=Ak.1 hl;rw [q4]at hK;obtain⟨q1,q1'⟩:=Ak.1 q1;intro F a w G Q hI hR;have V_:=SD hR q1;have hyv:=SD hR q1';rw [hx]at V_;simp only [Ab,Ad]at V_;obtain⟨b,hb1,hv⟩:=V_;simp only [and_eq_true]at hb;have hm:=eq_of_beq_eq_true hb.1;have hn:=eq_of_beq_eq_true hb.2.1;subst hm;have hc:=JY hyv hy;have hlc:=hc.length;obtain⟨cur,T',r1,r2,r3⟩:=hR.ahl he q2 (show G.m_ (BO k id)=some b from hb1) (off:=off) hc (by omega) hb.2.2;rw [q3.2]at r3;have hs:=El (P:=P) ht r1 (by omega) r2 (Aj.one hc);generalize w.setRow b _=w1 at hs r3;have q_:(execOp a.eval o).run P w= .ok .skip w1:=by simp_all [execOp]
    exact FP q_ (by rw [ag4];exact⟨_,G,hK,r3⟩)
   ·cases h
  ·cases h
 ·cases h
theorem qL {x:V} {v:Value} (h:Ab w G x v):Ab w G x.agi v:=by cases x<;>grind [V.agi,Ab,Jx,UV]
def dPs (P:Program) (st:St) (o:Oper) (cells:List C):Option (List Prop×St):=match o.op with
 | .store T x y=>match o.dst,(AX st true x).2,(AX st true y).2.agi.cells,K0 P T with
   | none, .c (.ptr id off),some xs,some (_,n')=>match (Nat.beq xs.length n'&&Ao xs)&&xs.all p9,st.IN id with
     | true,some e=>some (((AX st true x).1++(AX st true y).1)++[off+n'<=e.cs.length/\e.cs.take off++xs++e.cs.drop (off+xs.length)=cells],st.afw id e.row cells)
     | _,_=>none
   | _,_,_,_=>none
 | _=>none
theorem Abu {cells:List C} {l:List Prop} (h:dPs P st o cells=some (l,an)) (hl:A1 l) (hK:K an):DJ P I o st K:=by
 unfold dPs at h;split at h
 ·rename_i T x y ho;split at h
  ·rename_i id off xs ag n' ag4 hx hy ht;split at h
   ·rename_i e hb he;simp only [Option.some.injEq,injEq]at h;obtain⟨rfl,rfl⟩:=h;obtain⟨q1,q2,_⟩:=Ak.1 hl;obtain⟨q1,q1'⟩:=Ak.1 q1;intro F a w G Q hI hR;have V_:=SD hR q1;have hyv:=qL (SD hR q1');rw [hx]at V_;simp only [Ab,Ad]at V_;obtain⟨b,hb1,hv⟩:=V_;simp only [and_eq_true]at hb;have hn:=eq_of_beq_eq_true hb.1.1;have hc:=JY hyv hy;have hlc:=hc.length;obtain⟨cur,T',r1,r2,r3⟩:=hR.adg he hb1 (off:=off) hc (by omega) hb.1.2 hb.2;rw [q2.2]at r3;have hs:=El (P:=P) ht r1 (by omega) r2 (Aj.one hc);generalize w.setRow b _=w1 at hs r3;have q_:(execOp a.eval o).run P w= .ok .skip w1:=by simp_all [execOp]
    exact FP q_ (by rw [ag4];exact⟨_,G,hK,r3⟩)
   ·cases h
  ·cases h
 ·cases h
theorem vF {id:Ah} {row:Option (TypeId×Nat×Nat)} {c1 c2:List C} {p:Ah->Bool} (x:Aw):Tl id row c2 ((Tl id row c1 x).b_ p)=Tl id row c2 (x.b_ p):=by
 by_cases h:x.id=id
 all_goals grind [Ec,Aw.t_,Aw.agF,Eb]
def dAb (P:Program) (st:St) (o:Oper) (cells:List C):Option (List Prop×St):=match o.op with
 | .store T x y=>match o.dst,(AX st true x).2,(AX st true y).2,K0 P T with
   | none, .c (.ptr id k), .c (.e_ r),some (ag,n')=>match !ag&&Nat.beq n' 1,st.IN id,st.look r with
     | true,some e,some er=>match er.row,er.pu with
       | some (E,n,len),true=>some (((AX st true x).1++(AX st true y).1)++[k<e.cs.length/\e.cs.set k (.isl E n len er.cs)=cells],st.b_ (pD r id) (((st.so.filter (fun d=>d.id != r)).map (Aw.b_ (pD r id))).map (Tl id e.row cells)))
       | _,_=>none
     | _,_,_=>none
   | _,_,_,_=>none
 | _=>none
theorem Abv {cells:List C} {l:List Prop} (h:dAb P st o cells=some (l,an)) (hl:A1 l) (hK:K an):DJ P I o st K:=by
 unfold dAb at h;split at h
 ·rename_i T x y ho;split at h
  ·rename_i id k r ag n' ag4 hx hy ht;split at h
   ·rename_i e er hb he her;split at h
    ·rename_i E n len z_ hpu;simp only [Option.some.injEq,injEq]at h;obtain⟨rfl,rfl⟩:=h;obtain⟨q1,q2,_⟩:=Ak.1 hl;obtain⟨q1,q1'⟩:=Ak.1 q1;intro F a w G Q hI hR;have V_:=SD hR q1;have hyv:=SD hR q1';rw [hx]at V_;rw [hy]at hyv;simp only [Ab,Ad]at V_ hyv;obtain⟨b,hb1,hv⟩:=V_;simp only [and_eq_true,not_eq_true']at hb;have hn:=eq_of_beq_eq_true hb.2;have hcl:(a.eval y).cells.toList =[a.eval y]:=by have:=hyv.2;cases hq:a.eval y<;>rw [hq]at this<;>first | rfl | cases this
     have hc:Aj w G [C.any] (a.eval y).cells.toList :=by simp_all [Aj,Ad]
     obtain⟨cur,T',r1,r2,r3⟩:=hR.adg he hb1 (off:=k) hc (by simp;omega) rfl rfl;have hs:=El (P:=P) ht r1 (by rw [hcl];simp;omega) r2 (Aj.one hc);have abH:(w.setRow b (cur.toList.take k++(a.eval y).cells.toList ++cur.toList.drop (k+(a.eval y).cells.toList.length)).toArray).cell? ⟨b,k,none⟩=some (a.eval y):=by have:=setRow_heap w b cur (cur.toList.take k++(a.eval y).cells.toList ++cur.toList.drop (k+(a.eval y).cells.toList.length)).toArray T' (0,0) r1;grind [World.cell?,List.length_take]
     generalize w.setRow b _=w1 at hs r3 abH;have q_:(execOp a.eval o).run P w= .ok .skip w1:=by simp_all [execOp]
     obtain⟨hm,hid,hd⟩:=P5 he;obtain⟨hmr,ag3⟩:=Bj her;have alG:=FG her;have akf:r ≠ id:=(by grind);have hD:(st.afw id e.row (e.cs.take k++[C.any]++e.cs.drop (k+[C.any].length))).IN id=some ⟨id,e.row,e.cs.take k++[C.any]++e.cs.drop (k+[C.any].length),e.pu⟩:=by refine r3.I_ ?_ rfl hd;grind [St.afw,Ec]
     have hL:(st.afw id e.row (e.cs.take k++[C.any]++e.cs.drop (k+[C.any].length))).look r=some er:=by refine r3.ad8 ?_ ag3 alG (by grind);grind [St.afw,Eb]
     have hk':k<(⟨id,e.row,e.cs.take k++[C.any]++e.cs.drop (k+[C.any].length),e.pu⟩:Aw).cs.length :=by simp;omega
     obtain⟨G',g1,_⟩:=r3.aoD hD hL z_ hpu hb1 abH hyv.1 hk'
     suffices aob:R F (st.b_ (pD r id) (((st.so.filter (fun d=>d.id != r)).map (Aw.b_ (pD r id))).map (Tl id e.row cells))) a w1 G' from FP q_ (by rw [ag4];exact⟨_,G',hK,aob⟩)
     have e1:(e.cs.take k++[C.any]++e.cs.drop (k+[C.any].length)).set k (.isl E n len er.cs)=cells:=by
      rw [<-q2.2];apply List.ext_getElem?;intro j;simp only [getElem?_set];by_cases hj:k=j
      ·grind
      ·rw [if_neg hj,if_neg hj,append_assoc];have htl:(e.cs.take k).length =k:=by grind
       by_cases hjk:j<k
       ·grind
       ·rw [getElem?_append_right (by omega),htl,getElem?_append_right (by simp;omega),List.getElem?_drop];grind
     have e2:(((st.afw id e.row (e.cs.take k++[C.any]++e.cs.drop (k+[C.any].length))).so.filter (fun d=>d.id != r)).map (Aw.b_ (pD r id))).map (Tl id e.row cells)=((st.so.filter (fun d=>d.id != r)).map (Aw.b_ (pD r id))).map (Tl id e.row cells):=by
      simp only [St.afw];rw [List.filter_map];simp only [map_map];have:(fun d:Aw=>d.id != r) ∘ Tl id e.row (e.cs.take k++[C.any]++e.cs.drop (k+[C.any].length))=fun d=>d.id != r:=by funext d;simp [jm]
      grind [List.map_congr_left,vF]
     rw [e1]at g1;have e3: ∀ so,(st.afw id e.row (e.cs.take k++[C.any]++e.cs.drop (k+[C.any].length))).b_ (pD r id) so=st.b_ (pD r id) so:=fun so=>rfl;grind
    ·cases h
   ·cases h
  ·cases h
 ·cases h
def dLx (P:Program) (st:St) (o:Oper) (E n len:Nat) (cs:List C):Option (List Prop×St):=match o.op with
 | .load T x=>match o.dst,(AX st true x).2,K0 P T with
   | some d, .c (.ptr id k),some (ag,n')=>match (!ag&&Nat.beq n' 1)&&(!C4 (d::st.pre)&& !Fh (d::st.pre)),st.IN id with
     | true,some e=>some ((AX st true x).1++[e.cs[k]? =some (.isl E n len cs)],
      (st.b_ (pD (d::st.pre) id) (⟨d::st.pre,some (E,n,len),cs,true⟩::((st.so.filter (fun x=>x.id != d::st.pre)).map (Aw.b_ (pD (d::st.pre) id))).map (Tl id e.row (e.cs.set k .any)))).put (some d) (.c (.e_ (d::st.pre))))
     | _,_=>none
   | _,_,_=>none
 | _=>none
theorem Abw {E n len:Nat} {cs:List C} {l:List Prop} (h:dLx P st o E n len cs=some (l,an)) (hl:A1 l) (hK:K an):DJ P I o st K:=by
 unfold dLx at h;split at h
 ·rename_i T x ho;split at h
  ·rename_i d id k ag n' ag4 hx ht;split at h
   ·rename_i e hb he;simp only [Option.some.injEq,injEq]at h;obtain⟨rfl,rfl⟩:=h;obtain⟨q1,q2,_⟩:=Ak.1 hl;intro F a w G Q hI hR;have V_:=SD hR q1;rw [hx]at V_;simp only [Ab,Ad]at V_;obtain⟨b,hb1,hv⟩:=V_;simp only [and_eq_true,not_eq_true']at hb;obtain⟨G',g1,b2,v,g2,g3,g4,g5⟩:=hR.extract he q2 (r:=d::st.pre) hb.2.1 hb.2.2;rw [hb1]at g2;injection g2 with g2;subst g2;obtain⟨dd,i,hu,hd,_⟩:=C7 ht;have q_:(execOp a.eval o).run P w= .ok (.value v) w:=by simp_all [execOp,DY]
    refine AJ q_ ⟨_,G',hK,?_⟩;grind [R.put,Ab,Ad]
   ·cases h
  ·cases h
 ·cases h
def dAa (P:Program) (st:St) (o:Oper) (ln:Nat) (cells:List C):Option (List Prop×St):=match o.op with
 | .call c=>match o.dst,c.callee,c.args.toList,c.argTypes.toList with
   | some d, .builtin .append,[u,x],[t,t']=>match (AX st true u).2,(AX st true x).2,Ej P t with
     | .c (.e_ id), .c (.e_ q),some (E,n,by')=>match st.IN id,st.look q with
       | some e,some eq=>match e.row,eq.row,eq.cs with
         | some (E0,n0,len),some (E1,n1,aj4),[.e_ r]=>match (t==t'&&(E0==E&&n0==n))&&(Nat.beq n 1&&(Nat.beq n1 1&&Nat.beq aj4 1)),st.look r with
           | true,some er=>match er.row,er.pu with
             | some (E2,n2,abo),true=>some (((AX st true u).1++(AX st true x).1)++[e.cs++[.isl E2 n2 abo er.cs]=cells,(len+1)*by'<=140737488355328/\len+1<=maxLen,len+1=ln],
              ((st.b_ (· ==id) []).b_ (pD r id) (((((st.so.map (Aw.b_ (· ==id))).map (Tl id (some (E,n,ln)) (e.cs++[.any]))).filter (fun d=>d.id != r)).map (Aw.b_ (pD r id))).map (Tl id (some (E,n,ln)) cells))).put (some d) (.c (.e_ id)))
             | _,_=>none
           | _,_=>none
         | _,_,_=>none
       | _,_=>none
     | _,_,_=>none
   | _,_,_,_=>none
 | _=>none
theorem Abx {ln:Nat} {cells:List C} {l:List Prop} (h:dAa P st o ln cells=some (l,an)) (hl:A1 l) (hK:K an):DJ P I o st K:=by
 unfold dAa at h;split at h
 case h_2=>cases h
 rename_i c ho;split at h
 case h_2=>cases h
 rename_i d u x t t' ag4 aev ab9 alC;split at h
 case h_2=>cases h
 rename_i id q E n by' hu hx abq;split at h
 case h_2=>cases h
 rename_i e eq he heq;split at h
 case h_2=>cases h
 rename_i E0 n0 len E1 n1 aj4 r aqG auV azM;split at h
 case h_2=>cases h
 rename_i er hb her;split at h
 case h_2=>cases h
 rename_i E2 n2 abo z_ hpu;simp only [Option.some.injEq,injEq]at h;obtain⟨rfl,rfl⟩:=h;obtain⟨q1,q2,q3,q4,_⟩:=Ak.1 hl;subst q4;obtain⟨q1,q1'⟩:=Ak.1 q1;simp only [and_eq_true,beq_iff_eq]at hb;obtain⟨⟨rfl,rfl,rfl⟩,hb1,hb2,hb3⟩:=hb;have hn:=eq_of_beq_eq_true hb1;have hn1:=eq_of_beq_eq_true hb2;have hl1:=eq_of_beq_eq_true hb3;subst hn hn1 hl1;intro F a w G Q hI hR;have huv:=SD hR q1;have V_:=SD hR q1';rw [hu]at huv;rw [hx]at V_;simp only [Ab,Ad]at huv V_;obtain⟨hm,hid,hd⟩:=P5 he;obtain⟨hmq,avf⟩:=Bj heq;obtain⟨hmr,ag3⟩:=Bj her;have alG:=FG her;have akf:r ≠ id:=(by grind);obtain⟨i,z,hty,hi,hz,hsz,hby,hzs⟩:=DD abq;have hEq:=hR.store eq hmq;unfold Bc at hEq;rw [auV,azM]at hEq;obtain⟨_,vq,c2,c3⟩:=hEq;rw [avf,V_.1]at c2;injection c2 with c2;rcases c3 with ⟨p,_,c4,_⟩ | ⟨bq,aot,aAJ,c3,_,_,aCI,_,_,c7⟩
 ·cases c4
 simp only [An]at c7;obtain⟨⟨vr,hcr,hvr⟩,_⟩:=c7;simp only [Ad]at hvr;obtain⟨v,xs,k1,k2,k3,k4⟩:=DB aqG (hR.store e hm);rw [hid,huv.1]at k1;injection k1 with k1;have hus:Aj w G [C.any] [vr]:=by simp_all [Aj,Ad]
 have aeq: ∀ j u',[vr][j]? =some u'->w.cell? ((⟨bq,0,none⟩:Addr).add j)=some u':=by intro j u' hj;cases j<;>grind [Addr.add_mid]
 have main: ∀ v0 v' w',(Builtin.append_ #[t,t] o.type #[a.eval u,a.eval x]).run P w= .ok v' w'->v0.ownBlock=G.m_ id->(∀ b j u',G.m_ id=some b->xs[j]? =some u'->w.cell? ⟨b,j,none⟩=some u')->w.ownsRow 0 E0 1 v0 len xs->w'.ownsRow 0 E0 1 v' (len+1) (xs++[vr])->w.grownBy w' v0.ownBlock->(v'.ownBlock=v0.ownBlock\/ ∀ b,v'.ownBlock=some b->w.heap.size<=b)->o.wp P a w (mv F K) Q:=by
  intro v0 v' w' q_ hob hxc hold aas hg hfr;obtain⟨g1,g2⟩:=hR.agO he aqG hob k3 hus hxc hold aas hg hfr rfl rfl;have hD:=g1.I_ (e:=⟨id,some (E0,1,len+1),e.cs++[C.any],e.pu⟩) (id:=id) (by
   simp only [St.b_,map_map,mem_map,Function.comp];grind [Ec,Aw.t_,Aw.agF]) rfl hd
  have aG9:er.b_ (· ==id)=er:=by obtain⟨i1,r1,cs1,pu1⟩:=er;simp only at hpu;subst hpu;rfl
  have hL:=g1.ad8 (e:=er) (id:=r) (by
   simp only [St.b_,map_map,mem_map,Function.comp];grind [Eb]) ag3 alG (by grind)
  have hlx:=k3.length;obtain⟨g,cap,cur,n1,_,n2',n3,n4,n5,n6⟩: ∃ g cap cur,v'= .slice (some ⟨g,0,none⟩) (len+1) cap/\0<=g/\w'.heap[g]? =some (.cells cur E0 (0,0))/\len+1<=cap/\cap<=maxLen/\cur.size=cap*1/\cur.toList.take ((len+1)*1)=xs++[vr]:=by
   rcases aas.2 with ⟨_,h0⟩ | h1
   all_goals grind
  have abH:w'.cell? ⟨g,e.cs.length,none⟩=some vr:=by have hrg:=BE n2' (us:=xs++[vr]) (rest:=cur.toList.drop ((len+1)*1)) (by rw [<-n6,take_append_drop]);have:=hrg e.cs.length vr (by grind);grind
  have abD:(B9 F G id v'.ownBlock (some v')).m_ id=some g:=by simp [B9,n1,Value.ownBlock]
  have azb:(B9 F G id v'.ownBlock (some v')).own r=some vr:=by grind [B9]
  have hk':e.cs.length<(⟨id,some (E0,1,len+1),e.cs++[C.any],e.pu⟩:Aw).cs.length :=by simp
  obtain⟨G',g3,g4⟩:=g1.aoD hD hL z_ hpu abD abH azb hk';have e1:(e.cs++[C.any]).set e.cs.length (.isl E2 n2 abo er.cs)=cells:=by grind
  rw [show (⟨id,some (E0,1,len+1),e.cs++[C.any],e.pu⟩:Aw).row =some (E0,1,len+1)from rfl,show (⟨id,some (E0,1,len+1),e.cs++[C.any],e.pu⟩:Aw).cs =e.cs++[C.any]from rfl,e1]at g3;have ea:c.args= #[u,x]:=by grind
  have et:c.argTypes= #[t,t]:=by grind
  have ake:(execOp a.eval o).run P w= .ok (.value v') w':=by simp_all [execOp,resolve,invoke,builtin]
  refine AJ ake ⟨_,G',hK,?_⟩;rw [ag4];exact R.put (d:=some d) g3 (show Ab w' G' (V.c (C.e_ id)) v' by simp only [Ab,Ad];exact⟨by rw [g4];simp [B9],g2⟩)
 have hbb:(len+1)*by'<=140737488355328:=q3.1;rcases k4 with ⟨k4,k5⟩ | ⟨p,hvp,h0,hxs,k5⟩
 ·rw [hid]at k5;have hxc: ∀ b j u',G.m_ id=some b->xs[j]? =some u'->w.cell? ⟨b,j,none⟩=some u':=by intro b j u' hb' hj;have:=k4.cells (g:=b) (by grind) j u' hj;grind [Addr.add_mid]
  obtain⟨v',w',q_,aam,hg,hfr⟩:=IP (P:=P) (w:=w) t o.type E0 i z 1 by' hty hi hz hsz hby hzs (by omega) v len xs k4 ⟨bq,0,none⟩ 1 aot [vr] (by simp) aeq (Aj.one hus) q3.2 hbb;grind
 ·rw [hid]at k5;subst h0 hxs;obtain⟨v',w',q_,aam,hg,hfr⟩:=IQ (P:=P) (w:=w) t o.type E0 i z 1 by' hty hi hz hsz hby hzs (by omega) p ⟨bq,0,none⟩ 1 aot [vr] (by simp) aeq (by omega) (by omega) (by simpa using hbb);exact main (.slice none 0 0) v' w' (by grind) k5.symm (by grind) ⟨by simp, .inl ⟨rfl,rfl⟩⟩ (by grind) hg (.inr hfr)
end
end Go.PL
namespace Go.PL
open Go Go.RowKit
inductive Stp where
 | a
 | v (x:V)
 | c (r:V)
 | e (len:Nat) (cs:List C)
 | D (x:DS)
def xK (s:Stp) (len:Nat) (cs:List C) (k:Nat->List C->List Prop->Option (List Prop×St)):Option (List Prop×St):=
 match s with
 | .e ace cs'=>k ace cs' [len=ace/\cs=cs']
 | _=>k len cs []
theorem Rl {s:Stp} {len:Nat} {cs:List C} {k:Nat->List C->List Prop->Option (List Prop×St)} {r:List Prop×St} (h:xK s len cs k=some r):
 ∃ ace cs' l,k ace cs' l=some r/\(A1 l->len=ace/\cs=cs'):=by
 cases s<;>simp only [xK]at h<;>first
  | exact⟨_,_,_,h,fun q=>q.1⟩
  | grind
def Rm (id:Ah) (len:Nat):List Aw->Prop
 | []=>True
 | e::es=>match e.id==id with
   | true=>mL len e.row=e.row/\Rm id len es
   | false=>Rm id len es
def St.api (st:St) (id:Ah) (cs:List C) (q:Bool) (len:Nat):St:={st with so:=st.so.map fun e=>match e.id==id with
 | true=>⟨e.id,mL len e.row,cs,e.pu&&q⟩
 | false=>e}
theorem tE {st:St} {id:Ah} {cs:List C} {q:Bool} {len:Nat} (h:Rm id len st.so):st.api id cs q len=st.adw id cs q:=by
 have: ∀ l:List Aw,Rm id len l->(l.map fun e=>match e.id==id with
  | true=>(⟨e.id,mL len e.row,cs,e.pu&&q⟩:Aw)
  | false=>e)=l.map fun e=>if e.id==id then(⟨e.id,e.row,cs,e.pu&&q⟩:Aw)else e:=by
  intro l;induction l<;>grind [Rm]
 unfold St.api St.adw;rw [this st.so h]
def qM (P:Program) (st:St) (s:Stp) (d:Option Nat) (T:TypeId) (l:List Prop) (x y:V):Option (List Prop×St):=
 match x,y.cells,K0 P T with
 | .c (.ptr id off),some cs,some (_,n)=>match st.look id with
   | some e=>match s with
     | .e ace cs'=>Yv (cs.length==n) (l++[off+n<=e.cs.length/\e.cs.take off++cs++e.cs.drop (off+cs.length)=cs',Rm id ace st.so],(st.api id cs' (Ao cs) ace).put d .undef)
     | _=>Yv (cs.length==n&&Nat.ble (off+n) e.cs.length) (l,(st.adw id (e.cs.take off++cs++e.cs.drop (off+cs.length)) (Ao cs)).put d .undef)
   | none=>none
 | _,_,_=>none
theorem SE {P:Program} {st an:St} {s:Stp} {d:Option Nat} {T:TypeId} {l l':List Prop} {x y:V} (h:qM P st s d T l x y=some (l',an)) (hl:A1 l'):
 A1 l/\(Hk P st T x y).1/\(Hk P st T x y).2.put d .undef =an:=by
 unfold qM at h;unfold Hk;split at h
 ·rename_i id off cs ag n h1 h2;split at h
  ·rename_i e he;split at h
   ·rename_i len cs';obtain⟨hb,hr⟩:=BM h;simp only [injEq]at hr;obtain⟨rfl,rfl⟩:=hr;obtain⟨q1,q2,q3,_⟩:=Ak.1 hl;grind [tE]
   ·obtain⟨hb,hr⟩:=BM h;simp_all
  ·cases h
 ·cases h
def AeL (st:St) (n:Nat):V->Option (List Prop×Nat×List C×Bool)
 | .c (.sl m cs)=>some ([cs.length=m*n],m,cs,true)
 | .c (.e_ id)=>match st.look id with
   | some e=>match e.row with
     | some (_,n',m)=>Yv (n'==n) ([],m,e.cs,e.pu)
     | none=>none
   | none=>none
 | _=>none
theorem qO {st:St} {n:Nat} {x:V} {l:List Prop} {r:Nat×List C×Bool} (h:AeL st n x=some (l,r)) (hl:A1 l):Sv st n x=some r:=by
 unfold AeL at h;unfold Sv;split at h
 ·simp only [Option.some.injEq,injEq]at h;obtain⟨rfl,rfl⟩:=h;exact if_pos hl.1
 ·split at h
  ·rename_i h1;split at h
   ·rename_i h2;obtain⟨hb,hr⟩:=BM h;grind
   ·cases h
  ·cases h
 ·cases h
def jq (P:Program) (st:St) (s:Stp) (d:Nat) (t:TypeId) (l:List Prop) (u x:V):Option (List Prop×St):=
 match u,Ej P t with
 | .c (.e_ id),some (E,n,by')=>match st.look id,AeL st n x with
   | some e,some (l2,m,cs,q)=>match e.row with
     | some (E',n',len)=>match E'==E&&n'==n&&Nat.blt 0 n with
       | true=>xK s (len+m) (e.cs++cs) fun ace cs' l3=>
         some (l++(l2++(l3++[(len+m)*by'<=140737488355328/\len+m<=maxLen])),(st.new ⟨id,some (E,n,ace),cs',e.pu&&q⟩).put (some d) (.c (.e_ id)))
       | false=>none
     | none=>none
   | _,_=>none
 | _,_=>none
theorem dj {P:Program} {st an:St} {s:Stp} {d:Nat} {t:TypeId} {l l':List Prop} {u x:V} (h:jq P st s d t l u x=some (l',an)) (hl:A1 l'):
 A1 l/\(Gy P st d t u x).1/\(Gy P st d t u x).2=an:=by
 unfold jq at h;unfold Gy;split at h
 ·rename_i id E n by' h1;split at h
  ·rename_i e l2 m cs q h2 h3;split at h
   ·rename_i E' n' len h4;split at h
    ·rename_i hb;obtain⟨ace,cs',l3,hk,ht⟩:=Rl h;simp only [Option.some.injEq,injEq]at hk;obtain⟨rfl,rfl⟩:=hk;obtain⟨q1,q2⟩:=Ak.1 hl;obtain⟨q2,q3⟩:=Ak.1 q2;obtain⟨q3,q4,_⟩:=Ak.1 q3;obtain⟨rfl,rfl⟩:=ht q3;simp only [and_eq_true,beq_iff_eq,Nat.blt_eq]at hb;simp only [h1,h2,qO h3 q2,h4];grind
    ·cases h
   ·cases h
  ·cases h
 ·cases h
def xL (P:Program) (st:St) (s:Stp) (d:Nat) (t:TypeId) (l:List Prop) (x y:V):Option (List Prop×St):=
 match x,y,s with
 | .c (.bsl id off len), .c (.bsl id2 agz abo), .e ace cs'=>match Dk P t with
   | some (_,1)=>match st.look id,st.look id2 with
     | some e,some e2=>Yv (Nat.ble (off+Nat.min abo len) e.cs.length&&Nat.ble (agz+Nat.min abo len) e2.cs.length) (l++[e.cs.take off++(e2.cs.drop agz).take (Nat.min abo len)++e.cs.drop (off+((e2.cs.drop agz).take (Nat.min abo len)).length)=cs',Rm id ace st.so],
      (st.api id cs' (Ao ((e2.cs.drop agz).take (Nat.min abo len))) ace).put (some d) (.c (.int .i64 (Nat.min abo len:Nat))))
     | _,_=>none
   | _=>none
 | _,_,_=>none
theorem mM {P:Program} {st an:St} {s:Stp} {d:Nat} {t:TypeId} {l l':List Prop} {x y:V} (h:xL P st s d t l x y=some (l',an)) (hl:A1 l'):
 A1 l/\(WE P st d t x y).1/\(WE P st d t x y).2=an:=by
 unfold xL at h;unfold WE;split at h
 ·rename_i id off len id2 agz abo ace cs';split at h
  ·rename_i E h0;split at h
   ·rename_i e e2 h1 h2;obtain⟨hb,hr⟩:=BM h;simp only [injEq]at hr;obtain⟨rfl,rfl⟩:=hr;obtain⟨q1,q2,q3,_⟩:=Ak.1 hl;simp_all [tE]
   ·cases h
  ·cases h
 ·cases h
def xM (P:Program) (st:St) (s:Stp) (d:Nat) (t:TypeId) (p:List Prop) (l c:V):Option (List Prop×St):=
 match l,c,Ej P t with
 | .c (.int _ l), .c (.int _ c),some (E,n,by')=>match QK P E with
   | some z=>match z.length==n&&Nat.blt 0 n with
     | true=>xK s l.toNat (Cj z l.toNat) fun ace cs' l3=>some (p++(l3++[0<=l/\l<=c/\c*by'<=140737488355328/\c<=maxLen]),(st.new ⟨d::st.pre,some (E,n,ace),cs',true⟩).put (some d) (.c (.e_ (d::st.pre))))
     | false=>none
   | none=>none
 | _,_,_=>none
theorem mN {P:Program} {st an:St} {s:Stp} {d:Nat} {t:TypeId} {p l':List Prop} {l c:V} (h:xM P st s d t p l c=some (l',an)) (hl:A1 l'):
 A1 p/\(K7 P st d t l c).1/\(K7 P st d t l c).2=an:=by
 unfold xM at h;unfold K7;split at h
 ·rename_i h1;split at h
  ·rename_i h2;split at h
   ·rename_i hb;obtain⟨ace,cs',l3,hk,ht⟩:=Rl h;simp only [Option.some.injEq,injEq]at hk;obtain⟨rfl,rfl⟩:=hk;obtain⟨q1,q2⟩:=Ak.1 hl;obtain⟨q2,q3,_⟩:=Ak.1 q2;obtain⟨rfl,rfl⟩:=ht q2;simp_all
   ·cases h
  ·cases h
 ·cases h
def M3 (st:St) (g:Bool) (ps:List (Nat×Operand)):List Prop×List (Nat×V):=
 match ps with
 | []=>([],[])
 | (i,x)::r=>((AX st g x).1++(M3 st g r).1,(i,(AX st g x).2)::(M3 st g r).2)
theorem U1 {st:St} {g:Bool}: ∀ {ps:List (Nat×Operand)},A1 (M3 st g ps).1->(st.parts g ps).1/\(st.parts g ps).2=(M3 st g ps).2
 | [],_=>⟨trivial,rfl⟩
 | (i,x)::r,hl=>by obtain⟨h1,h2⟩:=Ak.1 hl;have a:=P3 (st:=st) (g:=g) (x:=x) h1;have b:=U1 (st:=st) (g:=g) (ps:=r) h2;simp only [St.parts,M3];exact⟨⟨a.1,b.1⟩,by rw [a.2,b.2]⟩
def AeM (P:Program) (st:St) (s:Stp) (d:Nat) (t:TypeId) (len:Nat) (ps:List (Nat×Operand)):Option (List Prop×St):=
 match Ej P t with
 | some (E,n,_)=>match QK P E with
   | some z=>match JZ (fun i=>some (i*n,n)) (Cj z len) ((M3 st true ps).2.map WD)with
     | some cs=>match z.length==n&&Nat.blt 0 n&&Nat.ble (len*n) (2 ^ 24)&&Ao cs with
       | true=>xK s len cs fun ace cs' l3=>some ((M3 st true ps).1++l3,(st.new ⟨d::st.pre,some (E,n,ace),cs',true⟩).put (some d) (.c (.e_ (d::st.pre))))
       | false=>none
     | none=>none
   | none=>none
 | none=>none
theorem qP {P:Program} {st an:St} {s:Stp} {d:Nat} {t:TypeId} {len:Nat} {ps:List (Nat×Operand)} {l':List Prop} (h:AeM P st s d t len ps=some (l',an)) (hl:A1 l'):
 (Bh P st d t len ps).1/\(Bh P st d t len ps).2=an:=by
 unfold AeM at h;unfold Bh;split at h
 ·rename_i h1;split at h
  ·rename_i h2;split at h
   ·rename_i h3;split at h
    ·rename_i hb;obtain⟨ace,cs',l3,hk,ht⟩:=Rl h;simp only [Option.some.injEq,injEq]at hk;obtain⟨rfl,rfl⟩:=hk;obtain⟨q1,q2⟩:=Ak.1 hl;obtain⟨rfl,rfl⟩:=ht q2;simp_all [U1]
    ·cases h
   ·cases h
  ·cases h
 ·cases h
def ef1 (P:Program) (st:St) (s:Stp) (o:Oper):Option (List Prop×St):=
 match o.op with
 | .store T x y=>qM P st s o.dst T ((AX st true x).1++(AX st true y).1) (AX st true x).2 (XN st (AX st true x).2 (qr y (AX st true y).2))
 | op=>match o.dst with
   | none=>none
   | some d=>match op with
     | .alloc T=>match Y3 P T with
       | some cs=>some ([],(st.new ⟨d::st.pre,none,cs,false⟩).put (some d) (.c (.ptr (d::st.pre) 0)))
       | none=>none
     | .box _ x=>match (AX st true x).2.cells with
       | some cs=>some ((AX st true x).1,(st.new ⟨d::st.pre,none,cs,false⟩).put (some d) (.c (.ptr (d::st.pre) 0)))
       | none=>none
     | .assign (.const (.slice none 0 0))=>match Dk P o.type with
       | some (E,n)=>some ([],(st.new ⟨d::st.pre,some (E,n,0),[],true⟩).put (some d) (.c (.e_ (d::st.pre))))
       | none=>none
     | .buildSlice t len ps=>AeM P st s d t len ps.toList
     | .makeSlice t l c=>xM P st s d t ((AX st true l).1++(AX st true c).1) (AX st true l).2 (AX st true c).2
     | .call c=>match c.callee,c.args.toList,c.argTypes.toList with
       | .builtin .append,[u,x],[t,t']=>match t==t' with
         | true=>jq P st s d t ((AX st true u).1++(AX st true x).1) (AX st true u).2 (AX st true x).2
         | false=>none
       | .builtin .copy,[u,x],[t,_]=>xL P st s d t ((AX st true u).1++(AX st true x).1) (AX st true u).2 (AX st true x).2
       | _,_,_=>none
     | _=>none
theorem U2 {P:Program} {st an:St} {s:Stp} {o:Oper} {l:List Prop} (h:ef1 P st s o=some (l,an)) (hl:A1 l):(PL.ef P st o).1/\(PL.ef P st o).2=an:=by
 have A: ∀ x,A1 (AX st true x).1->(st.arg true x).1/\(st.arg true x).2=(AX st true x).2:=fun x hx=>P3 hx;obtain⟨dst,op,ty,pos,aft,gd⟩:=o;cases op<;>cases dst<;>simp only [ef1]at h<;>simp only [PL.ef]<;>try (cases h;done)
 case store.none T x y=>
  have:=SE h hl;grind [Ak]
 case store.some T x y d=>
  have:=SE h hl;grind [Ak]
 case alloc.some T d=>
  grind
 case box.some T x d=>
  grind
 case assign.some x d=>
  grind
 case buildSlice.some t len ps d=>exact qP h hl
 case makeSlice.some t a b d=>
  have:=mN h hl;grind [Ak]
 case call.some c d=>
  split at h
  ·rename_i u x t t' h1 h2 h3;split at h
   ·rename_i hb;obtain rfl:t=t':=by grind
    have:=dj h hl;simp_all [Ak]
   ·cases h
  ·rename_i u x t t' h1 h2 h3;have:=mM h hl;simp_all [Ak]
  ·cases h
def Stp.u:Stp->Option V
 | .v x=>some x
 | _=>none
def dNw (P:Program) (st:St) (o:Oper) (t:Option (Nat×List C)):Option (List Prop×St):=match Ck o.op,ef1 P st (match t with
    | none=> .a
    | some (l,cs)=> .e l cs) o,o.dst with
 | .ef,some (l,st1),some d=>match st1.get d with
   | .c (.e_ r)=>match st1.look r with
     | some er=>match er.row,er.pu with
       | some (E,n,len),true=>some (l++[er.cs.all p9=true],(st1.b_ (fun i=>i==r||(i==1000003::r||DF (1000003::r) i)) (⟨1000003::r,some (E,n,len),er.cs,true⟩::((st1.so.filter (fun d=>d.id != r&&d.id != 1000003::r)).map (Aw.b_ (fun i=>i==r||(i==1000003::r||DF (1000003::r) i)))))).put (some d) (.c (.e_ (1000003::r))))
       | _,_=>none
     | none=>none
   | _=>none
 | _,_,_=>none
theorem Aby {P:Program} {I:World->Prop} {o:Oper} {st an:St} {K:St->Prop} {t:Option (Nat×List C)} {l:List Prop} (h:dNw P st o t=some (l,an)) (hl:A1 l) (hK:K an):DJ P I o st K:=by
 unfold dNw at h;split at h
 case h_2=>cases h
 rename_i l1 st1 d hk hef ag4;split at h
 case h_2=>cases h
 rename_i r avh;split at h
 case h_2=>cases h
 rename_i er her;split at h
 case h_2=>cases h
 rename_i E n len z_ hpu;simp only [Option.some.injEq,injEq]at h;obtain⟨rfl,rfl⟩:=h;obtain⟨q1,q2,_⟩:=Ak.1 hl;intro F a w G Q hI hR;obtain⟨h1,h2⟩:=U2 hef q1;have hs:vm P F.I o st (fun s'=>s'=st1):=by grind [vm]
 refine Oper.wp_mono (fun a' w' ⟨s',G',hs',hR'⟩=>?_) (P2 hR hs);subst hs';obtain⟨G2,g1,g2⟩:=hR'.aoq her z_ hpu q2 (id:=1000003::r) rfl rfl;have hv:=hR'.v_ d;rw [show s'.tm.getD d .undef = .c (.e_ r)from avh]at hv;simp only [Ab,Ad]at hv;exact⟨_,G2,hK,g1.afV (by grind [Ab,Ad])⟩
def dBs (P:Program) (st:St) (o:Oper):Option (List Prop×St):=match o.op,o.dst with
 | .buildSlice t len ps,some d=>match Ej P t with
   | some (E,n,_)=>match QK P E with
     | some z=>match JZ (fun i=>some (i*n,n)) (Cj z len) ((M3 st true ps.toList).2.map WD)with
       | some cs=>match z.length==n&&Nat.blt 0 n&&Nat.ble (len*n) (2 ^ 24)with
         | true=>some ((M3 st true ps.toList).1,(st.new ⟨d::st.pre,some (E,n,len),cs,Ao cs⟩).put (some d) (.c (.e_ (d::st.pre))))
         | false=>none
       | none=>none
     | none=>none
   | none=>none
 | _,_=>none
theorem vG {P:Program} {o:Oper} {st an:St} {l:List Prop} (h:dBs P st o=some (l,an)) (hl:A1 l):Ck o.op= .ef /\(PL.ef P st o).1/\(PL.ef P st o).2=an:=by
 obtain⟨dst,op,ty,pos,aft,gd⟩:=o;unfold dBs at h;simp only at h;split at h
 case h_2=>cases h
 rename_i t len ps d;refine⟨rfl,?_⟩;simp only [PL.ef];unfold Bh;split at h
 ·rename_i h1;split at h
  ·rename_i h2;split at h
   ·rename_i h3;split at h
    ·rename_i hb;simp only [Option.some.injEq,injEq]at h;obtain⟨rfl,rfl⟩:=h;simp_all [U1]
    ·cases h
   ·cases h
  ·cases h
 ·cases h
def xN (P:Program) (st:St) (o:Oper):DS->Option (List Prop×St)
 | .ld E n len cs=>dLd P st o E n len cs
 | .ix E n len cs=>dIx P st o E n len cs
 | .rd E n len cs u=>dRd P st o E n len cs u
 | .ln E n len cs=>dLn P st o E n len cs
 | .st E n len ln cs cells=>dSt P st o E n len ln cs cells
 | .ps cells=>dPs P st o cells
 | .ab cells=>dAb P st o cells
 | .lx E n len cs=>dLx P st o E n len cs
 | .nw t=>dNw P st o t
 | .bs =>dBs P st o
 | .aa ln cells=>dAa P st o ln cells
theorem vH {P:Program} {I:World->Prop} {o:Oper} {st an:St} {K:St->Prop} {x:DS} {l:List Prop} (h:xN P st o x=some (l,an)) (hl:A1 l) (hK:K an):vm P I o st K:=by
 cases x<;>simp only [xN]at h
 case bs=>
  obtain⟨h1,h2,h3⟩:=vG h hl;grind [vm]
 all_goals refine .inl ?_
 ·exact Abp h hl hK
 ·exact Abq h hl hK
 all_goals grind [Abr,Abs,Abt,Abu,Abv,Abw,Aby,Abx]
def qQ (P:Program) (I:World->Prop) (dr:Bool) (ops:Array Oper) (o:Oper) (s:Stp) (st:St):Option (List Prop×St):=
 match o.guard with
 | none=>match Ck o.op with
   | .rd =>match opT P st true s.u o.op with
     | some (l,v)=>some (l,st.put o.dst v)
     | none=>none
   | .cut x=>match dr with
     | true=>match opT P st true s.u o.op with
       | some (l,v)=>some (l,st.put o.dst v)
       | none=>none
     | false=>match opT P (st.cutAt true x) true s.u o.op with
       | some (l,v)=>some (l,(st.cutAt true x).put o.dst v)
       | none=>none
   | .ef =>match dr with
     | true=>none
     | false=>ef1 P st s o
   | .call f xs=>match s with
     | .c r=>match Ci ((Ih st true xs).2.map (BF st))&&(r.flat||(!dr&&Nat.ble (C2 (Ih st true xs).2).length 1&&(C2 (Ih st true xs).2).all st.acs))with
       | true=>some ((Ih st true xs).1++[Cd P I f ((Ih st true xs).2.map (BF st)) (· =r)],match dr with
         | true=>st.put o.dst r
         | false=>st.after (C2 (Ih st true xs).2) o.dst r)
       | false=>none
     | _=>none
   | .no =>none
 | some (j,want)=>match Je st ops j want with
   | some g=>match Ck o.op with
     | .rd =>match opT P st g s.u o.op with
       | some ([],v)=>some ([],st.put o.dst (.g g v))
       | some (l,v)=>some ([g=true->A1 l],st.put o.dst (.g g v))
       | none=>none
     | .cut _=>match dr with
       | true=>match opT P st g s.u o.op with
         | some ([],v)=>some ([],st.put o.dst (.g g v))
         | some (l,v)=>some ([g=true->A1 l],st.put o.dst (.g g v))
         | none=>none
       | false=>none
     | .call f xs=>match s with
       | .c r=>match Ci ((Ih st g xs).2.map (BF st))&&(r.flat||(!dr&&(C2 (Ih st g xs).2).isEmpty))with
         | true=>some ([g=true->A1 (Ih st g xs).1/\Cd P I f ((Ih st g xs).2.map (BF st)) (· =r)],st.put o.dst (.g g r))
         | false=>none
       | _=>none
     | .ef =>match dr with
       | true=>none
       | false=>match ef1 P st s o with
         | some (l,an)=>some (l++[g=true],an)
         | none=>none
     | _=>none
   | none=>none
def mO (P:Program) (I:World->Prop) (dr:Bool) (ops:Array Oper) (o:Oper) (s:Stp) (st:St):Option (List Prop×St):=
 match s with
 | .D x=>match dr,o.guard with
   | false,none=>xN P st o x
   | _,_=>none
 | s=>qQ P I dr ops o s st
def Jg (P:Program) (I:World->Prop) (dr:Bool) (ops:Array Oper):List Oper->List Stp->St->Option (List Prop×St)
 | [],[],st=>some ([],st)
 | o::rest,s::ss,st=>match mO P I dr ops o s st with
   | some (l,an)=>match Jg P I dr ops rest ss an with
     | some (l',aro)=>some (l++l',aro)
     | none=>none
   | none=>none
 | _,_,_=>none
theorem xO {st:St} {g:Bool} {x:Operand}:(st.arg g x).2=(AX st g x).2:=by grind [AX,St.arg]
theorem fL {st:St} {g:Bool}: ∀ {xs:List Operand},(st.args g xs).2=(Ih st g xs).2
 | []=>rfl
 | x::xs=>by simp only [St.args,Ih,xO,fL (xs:=xs)]
theorem Abz {P:Program} {I:World->Prop} {ops:Array Oper} {o:Oper} {x:DS} {st an:St} {l:List Prop} {K:St->Prop} (h:mO P I false ops o (.D x) st=some (l,an)) (hl:A1 l) (hK:K an):fB P I ops o st K:=by grind [mO,fB,vH]
theorem Zm {P:Program} {I:World->Prop} {ops:Array Oper} {o:Oper} {s:Stp} {st an:St} {l:List Prop} {K:St->Prop} (h:mO P I false ops o s st=some (l,an)) (hl:A1 l) (hK:K an):fB P I ops o st K:=by
 by_cases hD: ∃ x,s= .D x
 ·obtain⟨x,rfl⟩:=hD;exact Abz h hl hK
 replace h:qQ P I false ops o s st=some (l,an):=by cases s<;>first | exact h | grind
 unfold qQ at h;unfold fB;split at h
 ·rename_i hg;rw [hg];simp only;unfold vm;right;split at h
  ·rename_i hk;simp only [hk];split at h
   ·rename_i l v ho;simp only [Option.some.injEq,injEq]at h;obtain⟨rfl,rfl⟩:=h;grind [P4]
   ·cases h
  ·rename_i x hk;simp only [hk];dsimp only at h;split at h
   ·rename_i l v ho;simp only [Option.some.injEq,injEq]at h;obtain⟨rfl,rfl⟩:=h;grind [P4]
   ·cases h
  ·grind [U2]
  ·rename_i f xs hk;simp only [hk];split at h
   ·rename_i r;split at h
    ·rename_i hb;simp only [Option.some.injEq,injEq]at h;obtain⟨rfl,rfl⟩:=h;obtain⟨q1,q2,_⟩:=Ak.1 hl;obtain⟨k1,k2⟩:=SB q1;simp only [and_eq_true,or_eq_true,Bool.not_false,true_and,Nat.ble_eq,all_eq_true]at hb;grind
    ·cases h
   ·cases h
  ·cases h
 ·rename_i j want hg;rw [hg];simp only;split at h
  ·rename_i g hq;rw [hq];simp only;unfold wpG;by_cases hef:Ck o.op= .ef
   ·left;rw [hef]at h;dsimp only at h;split at h
    ·rename_i l1 st1 h1;simp only [Option.some.injEq,injEq]at h;obtain⟨rfl,rfl⟩:=h;obtain⟨q1,q2,_⟩:=Ak.1 hl;grind [vm,U2]
    ·cases h
   right;split at h
   ·rename_i hk;simp only [hk];split at h
    ·rename_i v ho;simp only [Option.some.injEq,injEq]at h;obtain⟨rfl,rfl⟩:=h;exact⟨v,fun _=>P4 ho trivial,hK⟩
    ·rename_i l v Tj ho;simp only [Option.some.injEq,injEq]at h;obtain⟨rfl,rfl⟩:=h;exact⟨v,fun hgt=>P4 ho (hl.1 hgt),hK⟩
    ·cases h
   ·cases h
   ·rename_i f xs hk;simp only [hk];split at h
    ·rename_i r;split at h
     ·rename_i hb;simp only [Option.some.injEq,injEq]at h;obtain⟨rfl,rfl⟩:=h;simp only [and_eq_true,or_eq_true,Bool.not_false,true_and,List.isEmpty_iff]at hb;refine⟨fun hgt=>?_,r,(by grind [fL]),fun hgt=>?_,hK⟩
      ·obtain⟨k1,k2⟩:=SB (hl.1 hgt).1;grind
      ·obtain⟨k1,k2⟩:=SB (hl.1 hgt).1;rw [k2];exact(hl.1 hgt).2
     ·cases h
    ·cases h
   all_goals grind
  ·cases h
theorem jr {P:Program} {I:World->Prop} {ops:Array Oper}: ∀ {l:List Oper} {ss:List Stp} {st an:St} {cs:List Prop} {K:St->Prop},Jg P I false ops l ss st=some (cs,an)->A1 cs->K an->DN P I ops l st K
 | [],[],st,an,cs,K,h,_,hK=>by simp only [Jg,Option.some.injEq,injEq]at h;obtain⟨rfl,rfl⟩:=h;exact hK
 | o::rest,s::ss,st,an,cs,K,h,hl,hK=>by
   simp only [Jg]at h;split at h
   ·rename_i l1 st1 h1;split at h
    ·rename_i l2 st2 h2;simp only [Option.some.injEq,injEq]at h;obtain⟨rfl,rfl⟩:=h;obtain⟨q1,q2⟩:=Ak.1 hl;exact Zm (K:=fun s=>DN P I ops rest s K) h1 q1 (jr h2 q2 hK)
    ·cases h
   ·cases h
 | [],_::_,_,_,_,_,h,_,_=>by simp [Jg]at h
 | _::_,[],_,_,_,_,h,_,_=>by simp [Jg]at h
section
variable {P:Program} {F:Fr} {st:St}
theorem Ae.reg {id:Nat} {l:List Oper} {Q:Exit->St->Prop} {ss:List Stp} {cs:List Prop} {an:St} (hr:Jg P F.I false l.toArray l ss st=some (cs,an)) (hl:A1 cs) (h:Q .normal an):Ae P F (.region id l.toArray false) st Q:=
 Ae.region (jr hr hl h)
theorem Ae.ifB {c:Operand} {x y:Code} {Q:Exit->St->Prop} (b:Bool) (hc:st.ev c= .c (.bool b)) (h1:b=true->Ae P F x st Q) (h2:b=false->Ae P F y st Q):Ae P F (.cond c x y) st Q:=Ae.cond hc h1 h2
def iter {σ ρ:Type} (B:σ->Option (σ⊕ρ)):Nat->σ->Option ρ
 | 0,_=>none
 | n+1,s=>match B s with
   | some (.inl s')=>iter B n s'
   | some (.inr r)=>some r
   | none=>none
end
def Aa (x:Int):Int:=IntKind.i64.wrap x
def gd {α:Type} [Inhabited α] (g:Bool) (o:Option α):Option α:=if g then o else some default
def idx {α:Type} [Inhabited α] (l:List α) (i:Int):Option α:=if 0<=i/\i<l.length then some (l.getD i.toNat default)else none
def IS (s:List UInt8) (i:Int):Option Int:=if 0<=i/\i<s.length then some (s.getD i.toNat 0).toNat else none
def cat (a b:List UInt8):Option (List UInt8):=if a.length+b.length<=maxLen then some (a++b)else none
def Zn (s:List UInt8) (a b:Int):Option (List UInt8):=if 0<=a/\a<=b/\b<=s.length then some ((s.drop a.toNat).take (b.toNat - a.toNat))else none
def qR {α:Type} (s:List α) (a b:Int):Option (List α):=if 0<=a/\a<=b/\b<=s.length then some ((s.drop a.toNat).take (b.toNat - a.toNat))else none
def app {α:Type} (by':Nat) (l m:List α):Option (List α):=if(l.length+m.length)*by'<=140737488355328/\l.length+m.length<=maxLen then some (l++m)else none
def k_ (p:Prop) [Decidable p]:Option Unit:=if p then some ()else none
theorem bS {α β:Type} {o:Option α} {k:α->Option β} {r:β} (h:o.bind k=some r): ∃ x,o=some x/\k x=some r:=by cases o<;>grind
theorem sI {α:Type} {x y:α} (h:some x=some y):x=y:=Option.some.inj h
section
variable {α:Type} [Inhabited α] {l m r:List α} {i:Int} {x:α} {g:Bool}
theorem N7 (h:idx l i=some x):0<=i/\i<l.length:=by grind [idx]
theorem fM (h:idx l i=some x):x=l.getD i.toNat default:=by grind [idx]
theorem xP {o:Option α} (h:gd g o=some x):g=true->o=some x:=fun hg=>by simp_all [gd]
theorem AeN {s:List UInt8} {n:Int} (h:IS s i=some n):0<=i/\i<s.length:=by grind [IS]
theorem AeO {s:List UInt8} {n:Int} (h:IS s i=some n):n=(s.getD i.toNat 0).toNat :=by grind [IS]
theorem AdN {a b c:List UInt8} (h:cat a b=some c):a.length+b.length<=maxLen:=by grind [cat]
theorem AdO {a b c:List UInt8} (h:cat a b=some c):c=a++b:=by grind [cat]
theorem AeP {s c:List UInt8} {a b:Int} (h:Zn s a b=some c):0<=a/\a<=b/\b<=s.length:=by grind [Zn]
theorem AeQ {s c:List UInt8} {a b:Int} (h:Zn s a b=some c):c=(s.drop a.toNat).take (b.toNat - a.toNat):=by grind [Zn]
omit [Inhabited α] in
theorem Lc {b:Nat} (h:app b l m=some r):(l.length+m.length)*b<=140737488355328/\l.length+m.length<=maxLen:=by grind [app]
omit [Inhabited α] in
theorem xQ {b:Nat} (h:app b l m=some r):r=l++m:=by grind [app]
end
theorem Cm {p:Prop} [Decidable p] {u:Unit} (h:k_ p=some u):p:=by grind [k_]
def eI (k:IntKind) (v:Int):List C:=[.int k v]
def eB (v:Bool):List C:=[.bool v]
def eS (v:List UInt8):List C:=[.str v]
def eL {α:Type} (e:α->List C) (l:List α):List C:=[.sl l.length (l.flatMap e)]
theorem tF {α:Type} [Inhabited α] {l:List α} {i:Int} {x:α} {e:α->List C} {N:Nat} {o n:Nat} {ag:Bool} {v:V} {off:Nat} (hx:idx l i=some x) (hN: ∀ y,(e y).length =N) (acy:off=i.toNat*N+o) (ho:o+n<=N) (h0:ag=true\/0<n)
 (hv:toV ag o n (e x)=v):off+n<=(l.flatMap e).length /\toV ag off n (l.flatMap e)=v:=by
 have hb:=N7 hx;have hxx:=fM hx;have hlt:i.toNat<l.length:=by omega
 subst acy;rw [BQ hN];constructor
 ·have:(i.toNat+1)*N<=l.length*N:=Nat.mul_le_mul_right _ hlt;grind
 ·rw [<-hv];unfold toV;cases ag with
  | true=>simp only [if_true];grind [fH]
  | false=>simp only [Bool.false_eq_true,if_false];grind [xA]
def xR (P:Program) (st:St):ResultVar->Option V
 | .tmp t=>some (st.get t)
 | .cell t T=>match tz P T st [] (st.get t)with
   | some (_,v)=>some v
   | none=>none
def fN (P:Program) (st:St):List ResultVar->Option (List V)
 | []=>some []
 | x::xs=>match xR P st x,fN P st xs with
   | some v,some vs=>some (v::vs)
   | _,_=>none
def xS (P:Program) (st:St):List ResultVar->Option V
 | [x]=>xR P st x
 | xs=>match fN P st xs with
   | some vs=>some (.tup vs)
   | none=>none
theorem Zo {P:Program} {st:St} {x:ResultVar} {v:V} (h:xR P st x=some v):(QA P st x).1/\(QA P st x).2=v:=by
 cases x with
 | tmp t=>simp only [xR,Option.some.injEq]at h;exact⟨trivial,h⟩
 | cell t T=>
   simp only [xR]at h;split at h
   ·rename_i l u hl;injection h with h;subst h;have:=WP hl;exact⟨this.2.1,this.2.2⟩
   ·cases h
theorem WT {P:Program} {st:St}: ∀ {xs:List ResultVar} {vs:List V},fN P st xs=some vs->(CI P st xs).1/\(CI P st xs).2=vs
 | [],vs,h=>by simp only [fN,Option.some.injEq]at h;subst h;exact⟨trivial,rfl⟩
 | x::xs,vs,h=>by
   simp only [fN]at h;split at h
   ·rename_i v us h1 h2;injection h with h;subst h;have a:=Zo h1;have b:=WT h2;exact⟨⟨a.1,b.1⟩,by simp only [CI,a.2,b.2]⟩
   ·cases h
theorem mP {P:Program} {st:St} {x:ResultVar}:(SA P st x).1=(QA P st x).1/\(SA P st x).2=BF st (QA P st x).2:=by cases x<;>exact⟨rfl,rfl⟩
theorem fO {P:Program} {st:St}: ∀ {xs:List ResultVar},(F8 P st xs).1=(CI P st xs).1/\(F8 P st xs).2=(CI P st xs).2.map (BF st)
 | []=>⟨rfl,rfl⟩
 | x::xs=>by have a:=mP (P:=P) (st:=st) (x:=x);have b:=fO (P:=P) (st:=st) (xs:=xs);simp only [F8,CI,a.1,a.2,b.1,b.2,map_cons,and_self]
def xT (st:St) (rs:List ResultVar):V->V
 | .tup vs=>match rs with
   | [_]=> .tup vs
   | _=> .tup (vs.map (BF st))
 | v=>BF st v
theorem tG {P:Program} {st:St} {rs:List ResultVar} {v r:V} {e:Exit} (he:e= .normal \/e= .ret) (h:xS P st rs=some v) (hs:xT st rs v=r) (hp:r.pure=true) {r':V} (hr:r=r'):
 (e= .normal \/e= .ret)/\(DA P st rs).1/\(DA P st rs).2.pure =true/\(DA P st rs).2=r':=by
 subst hr;have key:(DA P st rs).1/\(DA P st rs).2=r:=by
  match rs with
  | [x]=>
    have a:=Zo h;have b:=mP (P:=P) (st:=st) (x:=x);simp only [DA];rw [b.1,b.2,a.2, <-hs];exact⟨a.1,by cases v<;>rfl⟩
  | []=>
    simp only [xS,fN,Option.some.injEq]at h;subst h;subst hs;exact⟨trivial,rfl⟩
  | x::y::xs=>
    simp only [xS]at h;split at h
    ·rename_i vs hv;injection h with h;subst h;have a:=WT hv;have b:=fO (P:=P) (st:=st) (xs:=x::y::xs);simp only [DA];rw [b.1,b.2,a.2, <-hs];exact⟨a.1,rfl⟩
    ·cases h
 grind
def WU:List Bool->List V->List V
 | [],_=>[]
 | true::m,v::vs=>v::WU m vs
 | false::m,_::vs=> .undef ::WU m vs
 | _::_,[]=>[]
theorem tH: ∀ {m:List Bool} {l l':List V},m.length=l.length->WU m l=l'->my l l'
 | [],[],l',_,h=>by simp only [WU]at h;subst h;trivial
 | true::m,v::vs,l',hl,h=>by simp only [WU]at h;subst h;exact⟨.inr rfl,tH (by grind) rfl⟩
 | false::m,v::vs,l',hl,h=>by simp only [WU]at h;subst h;exact⟨.inl rfl,tH (by grind) rfl⟩
 | [],_::_,_,hl,_=>by simp at hl
 | _::_,[],_,hl,_=>by simp at hl
section
variable {P:Program} {F:Fr} {st:St}
end
def FU:Nat:=9223372036854775807
theorem js {α:Type} [Inhabited α] {l:List α} {i:Int} {x:α} {e:α->List C} {N:Nat} {o n base:Nat} {ag:Bool} {v:V} {off:Nat} {cs pre post:List C} (hcs:cs=pre++(l.flatMap e++post)) (hb:pre.length=base) (hx:idx l i=some x) (hN: ∀ y,(e y).length =N) (acy:off=base+(i.toNat*N+o)) (ho:o+n<=N) (h0:ag=true\/0<n)
 (hv:toV ag o n (e x)=v):off+n<=cs.length/\toV ag off n cs=v:=by
 obtain⟨h1,h2⟩:=tF hx hN rfl ho h0 hv;subst hcs acy hb;constructor
 ·grind
 ·rw [<-h2];unfold toV;cases ag with
  | true=>
    simp only [if_true];rw [<-drop_drop,drop_left,List.drop_append_of_le_length (by omega),List.take_append_of_le_length (by simp only [List.length_drop];omega)]
  | false=>
    grind
end Go.PL
namespace Go.PL
open Go Go.RowKit
def Em (n k:Nat):List Bool:=(List.range k).map (Nat.testBit n)
theorem vJ (n k:Nat):(Em n k).length =k:=by simp [Em]
theorem fP (n k i:Nat):(Em n k).toArray.setIfInBounds i true=(Em (n||| 2 ^ i) k).toArray :=by
 apply Array.ext
 ·simp [Em]
 ·intro j h1 h2;have hj:j<k:=by simpa [Em] using h2
  have e:((Em n k).toArray.setIfInBounds i true).toList =(Em n k).set i true:=by simp
  have e2:((Em n k).toArray.setIfInBounds i true)[j]=((Em n k).set i true)[j]'(by grind):=by grind
  grind [Em]
def agy (ops:Array Oper) (n:Nat):List Nat:=Region.ready .any ops (Em n ops.size).toArray
def Yx (ops:Array Oper) (nodes:List Nat):Bool:=
 nodes.contains 0&&nodes.all fun n=>(!(agy ops n).isEmpty ||(Em n ops.size).all id)&&(agy ops n).all fun i=>nodes.contains (n||| 2 ^ i)
def AeR (ids:List Ah) (st:St):St:={st with so:=ids.filterMap fun i=>st.so.find? fun e=>e.id==i}
theorem vK (ids:List Ah) (hn:ids.Nodup) (st:St):Cp st (AeR ids st) where
 len:=rfl
 tm:=fun _=> .inr rfl
 so:=(by grind [AeR])
 nd:=fun _=>by
  have: ∀ ids:List Ah,((ids.filterMap fun i=>st.so.find? fun e=>e.id==i).map (·.id)).Sublist ids:=by
   intro ids;induction ids with
   | nil=>simp
   | cons i ids ih=>
     simp only [List.filterMap_cons];split
     all_goals grind
  exact List.Sublist.nodup (this ids) hn
 gh:=⟨rfl,fun _=> .inr rfl⟩
 pre:=rfl
def AdP (P:Program) (I:World->Prop) (ops:Array Oper) (ss:List Stp) (ids:List Ah) (st:St) (i:Nat):Option (List Prop×St):=
 match ops[i]?,ss[i]? with
 | some o,some s=>match mO P I false ops o s st with
   | some (c,an)=>some (c,AeR ids an)
   | none=>none
 | _,_=>none
def Ahi (P:Program) (I:World->Prop) (ops:Array Oper) (ss:List Stp) (ids:List Ah) (SL:Nat->St) (nodes:List Nat):List (Option (List Prop×St)):=
 nodes.flatMap fun n=>(agy ops n).map fun i=>AdP P I ops ss ids (SL n) i
def AdQ (ops:Array Oper) (cs:List (List Prop)) (SL:Nat->St) (nodes:List Nat):List (Option (List Prop×St)):=
 nodes.flatMap fun n=>(agy ops n).map fun i=>some (cs.getD i [],SL (n||| 2 ^ i))
theorem tI {α β:Type} {f g:α->Nat->β} {r:α->List Nat}: ∀ {l:List α},(l.flatMap fun n=>(r n).map (f n))=(l.flatMap fun n=>(r n).map (g n))-> ∀ n∈l, ∀ i∈r n,f n i=g n i
 | [],_,n,hn,_,_=>by simp at hn
 | a::l,h,n,hn,i,hi=>by
   simp only [flatMap_cons]at h;have hh:=List.append_inj h (by simp);rcases mem_cons.1 hn with rfl | hn
   ·simp_all
   ·exact tI hh.2 n hn i hi
def tJ:List (List Prop)->Prop
 | []=>True
 | l::ls=>A1 l/\tJ ls
theorem fQ: ∀ {cs:List (List Prop)},tJ cs-> ∀ i,A1 (cs.getD i [])
 | [],_,i=>by simp [A1]
 | l::ls,h,0=>by simpa using h.1
 | l::ls,h,i+1=>by simpa using fQ h.2 i
section
variable {P:Program} {F:Fr} {st:St} {ops:Array Oper}
theorem U3 {a:Act} {w:World} {G:AG} (h:R F st a w G) {o:Oper} {K:St->Prop} {Q:Exit->Act->World->Prop} (hs:fB P F.I ops o st K):
 if Region.wanted o (yielded ops a.tmps)=true then o.wp P a w (mv F K) Q else mv F K (a.put o.dst Go.undef) w:=by
 unfold fB at hs;split at hs
 ·rename_i hg;rw [F7 hg,if_pos rfl];exact P2 h hs
 ·rename_i j want hg;split at hs
  ·rename_i g hq;rw [J5 h hg hq];exact fD h hs
  grind
def unl (l:List Bool):Nat:=(l.filter (! ·)).length
theorem tK: ∀ (l:List Bool) (i:Nat),l[i]? =some false->unl (l.set i true)+1=unl l
 | [],i,h=>by simp at h
 | b::l,0,h=>by grind [unl]
 | b::l,i+1,h=>by have:=tK l i (by simpa using h);cases b<;>simp_all [unl]<;>omega
theorem xU: ∀ (l:List Bool),unl l=0->l.all id=true
 | [],_=>rfl
 | true::l,h=>by simp_all [unl]
 | false::l,h=>by simp [unl]at h
theorem Ajf {nodes:List Nat} {ss:List Stp} {ids:List Ah} {cs:List (List Prop)} {SL:Nat->St} {Q:Exit->St->Prop} (hcl:Yx ops nodes=true) (ajF:ids.Nodup)
 (hst:Ahi P F.I ops ss ids SL nodes=AdQ ops cs SL nodes) (hc:tJ cs) (hQ: ∀ n∈nodes,(Em n ops.size).all id=true->Q .normal (SL n)):
 ∀ (fuel n:Nat) (a:Act) (w:World) (G:AG),n∈nodes->unl (Em n ops.size)<=fuel->R F (SL n) a w G->
   wpAny P .any ops (fun e a' w'=> ∃ an G',Q e an/\R F an a' w' G') fuel (Em n ops.size).toArray a w:=by
 simp only [Yx,and_eq_true,all_eq_true,or_eq_true,not_eq_true',List.contains_iff_mem]at hcl;have af5:=tI (r:=agy ops) hst;have aj2: ∀ n i,i∈agy ops n->(Em n ops.size)[i]? =some false:=by intro n i hi;unfold agy Region.ready at hi;simp only [mem_filter,List.mem_range,and_eq_true,not_eq_true']at hi;obtain⟨h1,h2,_⟩:=hi;simp_all [vJ]
 intro fuel;induction fuel with
 | zero=>
   intro n a w G hn hu hR;have hz:=xU _ (Nat.le_zero.1 hu);have hr:agy ops n=[]:=by
    rcases hrr:agy ops n with _ | ⟨i,r⟩
    ·rfl
    ·have:=aj2 n i (by rw [hrr];simp);rw [all_eq_true]at hz;have:=hz false (mem_of_getElem? this);simp at this
   exact⟨hr,_,G,hQ n hn hz,hR⟩
 | succ fuel ih=>
   intro n a w G hn hu hR;refine⟨fun hr=>?_,fun i hi=>?_⟩
   ·grind [agy]
   ·have hi':i∈agy ops n:=hi;have akd:=af5 n hn i hi';unfold AdP at akd;split at akd
    ·rename_i o s ho hs;split at akd
     ·rename_i c an hss;simp only [Option.some.injEq,injEq]at akd;obtain⟨hcc,ayX⟩:=akd;have hwp:=Zm (K:=fun s'=>Cp s' (SL (n||| 2 ^ i))) hss (hcc▸fQ hc i) (ayX▸vK ids ajF an);have hw:=U3 (Q:=fun e a' w'=> ∃ an G',Q e an/\R F an a' w' G') hR hwp;have aic: ∀ a' w',mv F (fun s'=>Cp s' (SL (n||| 2 ^ i))) a' w'->wpAny P .any ops (fun e a' w'=> ∃ an G',Q e an/\R F an a' w' G') fuel ((Em n ops.size).toArray.setIfInBounds i true) a' w':=by
       intro a' w' ⟨s',G',hl,hR'⟩;rw [fP];refine ih (n||| 2 ^ i) a' w' G' (by grind) ?_ (hR'.less hl);have hb:=aj2 n i hi';have e:Em (n||| 2 ^ i) ops.size=(Em n ops.size).set i true:=by have:=congrArg Array.toList (fP n ops.size i);grind
       grind [tK]
      unfold wpOp;rw [ho];simp only;by_cases hwt:Region.wanted o (yielded ops a.tmps)=true
      ·rw [if_pos hwt]at hw ⊢;grind [Oper.wp_mono]
      grind
     grind
    grind
theorem Ae.axU {rid:Nat} {l:List Oper} {Q:Exit->St->Prop} (nodes:List Nat) (full:Nat) (ss:List Stp) (ids:List Ah) (SL:Nat->St) (cs:List (List Prop)) (h1:P.follows .mixedOrders =true) (hcl:Yx l.toArray nodes=true) (avi:(nodes.all fun n=> !(Em n l.length).all id||Nat.beq n full)=true) (ajF:ids.Nodup)
 (h0:Cp st (SL 0)) (hst:Ahi P F.I l.toArray ss ids SL nodes=AdQ l.toArray cs SL nodes) (hc:tJ cs) (hQ:Q .normal (SL full)):Ae P F (.region rid l.toArray true) st Q:=by
 intro a w G hR;refine wp_region_any h1 ?_;have hR':=(hR.less h0).same (w':={w with drawn:=w.drawn+1}) ⟨rfl,rfl,rfl⟩ ⟨le_refl _,fun _ _=>rfl⟩;have h0':Em 0 l.toArray.size=List.replicate l.toArray.size false:=by apply List.ext_getElem<;>simp [Em]
 have key:=Ajf (P:=P) (ops:=l.toArray) (Q:=Q) hcl ajF hst hc (fun n hn af5=>by
  have:=all_eq_true.1 avi n hn;simp_all) l.toArray.size 0 a _ G (by
   simp_all [Yx]) (by
   rw [h0'];simp [unl]) hR'
 grind
end
end Go.PL
namespace Go.PL
open Go Go.RowKit
section
variable {P:Program} {I:World->Prop} {ops:Array Oper} {st an:St} {K:St->Prop}
theorem fR: ∀ {l:List Oper} {n:Nat} {ss:List Stp} {st an:St} {cs:List Prop},Jg P I false ops (l.take n) ss st=some (cs,an)->A1 cs->DN P I ops (l.drop n) an K->DN P I ops l st K
 | l,0,ss,st,an,cs,h,hc,hK=>by
   cases ss with
   | nil=>
     simp only [List.take_zero,Jg,Option.some.injEq,injEq]at h;grind
   | cons=>simp [Jg]at h
 | [],n+1,ss,st,an,cs,h,hc,hK=>by
   cases ss with
   | nil=>
     simp only [List.take_nil,Jg,Option.some.injEq,injEq]at h;grind
   | cons=>simp [Jg]at h
 | o::l,n+1,[],st,an,cs,h,hc,hK=>by simp [Jg]at h
 | o::l,n+1,s::ss,st,an,cs,h,hc,hK=>by
   simp only [List.take_succ_cons,Jg]at h;split at h
   ·rename_i l1 st1 h1;split at h
    ·rename_i l2 st2 h2;simp only [Option.some.injEq,injEq]at h;obtain⟨rfl,rfl⟩:=h;obtain⟨q1,q2⟩:=Ak.1 hc;exact Zm (K:=fun s=>DN P I ops l s K) h1 q1 (fR h2 q2 (by simpa using hK))
    ·cases h
   ·cases h
theorem Run.part {l:List Oper} (n:Nat) {ss:List Stp} {cs:List Prop} (an:St) (h:Jg P I false ops (l.take n) ss st=some (cs,an)) (hc:A1 cs) (hK:DN P I ops (l.drop n) an K):DN P I ops l st K:=fR h hc hK
theorem Run.whole {l:List Oper} {ss:List Stp} {cs:List Prop} (an:St) (h:Jg P I false ops l ss st=some (cs,an)) (hc:A1 cs) (hK:K an):DN P I ops l st K:=jr h hc hK
theorem Run.inl {l rest:List Oper} {o:Oper} (hl:l=o::rest) (hg:o.guard=none) (h:DJ P I o st (fun an=>DN P I ops rest an K)):DN P I ops l st K:=by subst hl;simp only [DN,fB,hg];exact .inl h
end
end Go.PL
namespace Go.PL
open Go Go.RowKit
def Kc (l:List Int):List UInt8:=l.map fun n=>UInt8.ofNat n.toNat
theorem M4: ∀ {l:List Int},(∀ n∈l,0<=n/\n<256)->K3 (l.flatMap (eI .u8))
 | [],_=>trivial
 | n::l,h=>by rw [flatMap_cons];exact⟨h n (by simp),M4 (fun m hm=>h m (by simp [hm]))⟩
theorem OT: ∀ (l:List Int),MX (l.flatMap (eI .u8))=Kc l
 | []=>rfl
 | n::l=>by rw [flatMap_cons];show UInt8.ofNat n.toNat::MX (l.flatMap (eI .u8))=_;rw [OT l];rfl
end Go.PL
namespace Go.PL
open Go Go.RowKit
theorem Zp {α:Type} (e:α->List C) {N:Nat} (hN: ∀ y,(e y).length =N): ∀ (l:List α) (k:Nat) (x:α),l[k]? =some x->l.flatMap e=(l.take k).flatMap e++(e x++(l.drop (k+1)).flatMap e)/\((l.take k).flatMap e).length =k*N
 | [],k,x,h=>by simp at h
 | a::l,0,x,h=>by grind
 | a::l,k+1,x,h=>by
   obtain⟨h1,h2⟩:=Zp e hN l k x (by simpa using h);constructor
   ·rw [flatMap_cons,h1];simp [append_assoc]
   ·simp [h2,hN,Nat.add_mul];omega
theorem fS {α:Type} (e:α->List C): ∀ (l:List α) (k:Nat) (x':α),k<l.length->(l.set k x').flatMap e=(l.take k).flatMap e++(e x'++(l.drop (k+1)).flatMap e)
 | [],k,x,h=>by simp at h
 | a::l,0,x,h=>by simp
 | a::l,k+1,x,h=>by rw [List.set_cons_succ,flatMap_cons,fS e l k x (by simpa using h)];simp [append_assoc]
theorem AeS {α:Type} [Inhabited α] {l:List α} {i:Int} {x x':α} {e:α->List C} {N o off:Nat} {cs pre post:List C} (hx:idx l i=some x) (hN: ∀ y,(e y).length =N) (acy:off=pre.length+(i.toNat*N+o)) (ho:o+cs.length<=N)
 (hx':(e x).take o++(cs++(e x).drop (o+cs.length))=e x'):off+cs.length<=(pre++(l.flatMap e++post)).length /\
  (pre++(l.flatMap e++post)).take off++cs++(pre++(l.flatMap e++post)).drop (off+cs.length)=pre++((l.set i.toNat x').flatMap e++post):=by
 have hb:=N7 hx;have hlt:i.toNat<l.length:=by omega
 have hk:l[i.toNat]? =some x:=by rw [fM hx,List.getElem?_eq_getElem hlt,getD_eq_getElem?_getD,List.getElem?_eq_getElem hlt];rfl
 obtain⟨h1,h2⟩:=Zp e hN l i.toNat x hk;have h3:=fS e l i.toNat x' hlt;have hex:=hN x;rw [h1,h3, <-hx'];subst acy;generalize (l.take i.toNat).flatMap e=A at *;generalize (l.drop (i.toNat+1)).flatMap e=B at *;generalize e x=X at *;constructor
 ·grind
 ·have e1:pre++(A++(X++B)++post)=(pre++(A++X.take o))++((X.drop o).take cs.length++(X.drop (o+cs.length)++(B++post))):=by grind [drop_drop,take_append_drop]
  have l1:(pre++(A++X.take o)).length =pre.length+(i.toNat*N+o):=by grind
  have l2:((X.drop o).take cs.length).length =cs.length:=by grind
  generalize (X.drop o).take cs.length=M at *;generalize X.drop (o+cs.length)=Z at *;rw [e1, <-l1,List.take_left, <-drop_drop,drop_left, <-l2,drop_left];grind
theorem xV {α:Type} [Inhabited α] {l l':List α} {i:Int} {x x':α} {e:α->List C} {N o off base:Nat} {c0 c1 cs pre post:List C} (hc0:c0=pre++(l.flatMap e++post)) (hb:pre.length=base) (hc1:c1=pre++(l'.flatMap e++post)) (hl:l'=l.set i.toNat x') (hx:idx l i=some x) (hN: ∀ y,(e y).length =N)
 (acy:off=base+(i.toNat*N+o)) (ho:o+cs.length<=N) (hx':(e x).take o++(cs++(e x).drop (o+cs.length))=e x'):off+cs.length<=c0.length/\c0.take off++cs++c0.drop (off+cs.length)=c1:=by
 subst hc0 hc1 hl hb;exact AeS hx hN acy ho hx'
end Go.PL
namespace Go.PL
open Go Go.RowKit
def v_:Nat->Nat->List (Nat×V)->List V
 | 0,_,_=>[]
 | n+1,i,[]=> .undef ::v_ n (i+1) []
 | n+1,i,(j,v)::l=>match Nat.beq i j with
   | true=>v::v_ n (i+1) l
   | false=> .undef ::v_ n (i+1) ((j,v)::l)
def V.al6:V->Bool
 | .undef =>false
 | _=>true
def AdR (st an:St):St:=⟨WU (an.tm.map V.al6) st.tm,st.so.filter (fun e=>an.so.any fun e'=>e'.id==e.id),WU (an.gh.map V.al6) st.gh,st.pre⟩
def AeT (st an:St):Bool:=Nat.beq an.tm.length st.tm.length&&Nat.beq an.gh.length st.gh.length
theorem vM {st an:St} (hl:AeT st an=true):Cp st (AdR st an):=by simp only [AeT,and_eq_true]at hl;have a:=(tH (m:=an.tm.map V.al6) (l:=st.tm) (by simp_all) rfl).get;have b:=(tH (m:=an.gh.map V.al6) (l:=st.gh) (by simp_all) rfl).get;exact⟨a.1,a.2,fun _ he=>(mem_filter.1 he).1,fun hn=>List.Sublist.nodup (List.Sublist.map (fun d:Aw=>d.id) filter_sublist) hn,b,rfl⟩
def mQ (st an:St):Option St:=match AeT st an with
 | true=>some (AdR st an)
 | false=>none
theorem Cp.t {st an:St} (h:mQ st an=some an):Cp st an:=by grind [mQ,vM]
def mR (o:Option (List Prop×St)) (an:St):Option (List Prop×St):=
 match o with
 | some (cs,st)=>match mQ st an with
   | some s=>some (cs,s)
   | none=>none
 | none=>none
theorem qS {o:Option (List Prop×St)} {an:St} {cs:List Prop} (h:mR o an=some (cs,an)): ∃ st,o=some (cs,st)/\Cp st an:=by
 unfold mR at h;split at h
 ·rename_i cs' st;split at h
  ·rename_i s hs;simp only [Option.some.injEq,injEq]at h;obtain⟨rfl,rfl⟩:=h;exact⟨st,rfl,Cp.t hs⟩
  ·cases h
 ·cases h
section
variable {P:Program} {F:Fr} {st:St}
theorem Ae.rg {id:Nat} {l:List Oper} {c:Code} {Q:Exit->St->Prop} {ss:List Stp} {cs:List Prop} (an:St) (hr:mR (Jg P F.I false l.toArray l ss st) an=some (cs,an)) (hl:A1 cs) (h:Ae P F c an Q):Ae P F (.seq (.region id l.toArray false) c) st Q:=by obtain⟨st1,h1,h2⟩:=qS hr;exact Ae.seq (Ae.reg h1 hl (Ae.less h2 h))
end
abbrev vI (n:Int):V:= .c (.int .i64 n)
abbrev vB (b:Bool):V:= .c (.bool b)
abbrev vS (s:List UInt8):V:= .c (.str s)
abbrev vP (i:Ah) (o:Nat):V:= .c (.ptr i o)
abbrev vO (i:Ah):V:= .c (.e_ i)
abbrev vL {α:Type} (e:α->List C) (l:List α):V:= .c (.sl l.length (l.flatMap e))
abbrev vA {α:Type} (e:α->List C) (x:α):V:= .agg (e x)
abbrev bx (i:Ah) (cs:List C):Aw:=⟨i,none,cs,false⟩
abbrev Jh {α:Type} (i:Ah) (E N:Nat) (e:α->List C) (l:List α):Aw:=⟨i,some (E,N,l.length),l.flatMap e,true⟩
end Go.PL
namespace Go.PL
end Go.PL
namespace Go.PL
open Go Go.RowKit
def St.setCell (st:St) (i:Ah) (j:Nat) (c:C):St:={st with so:=st.so.map fun e=>if e.id==i&& !e.pu then⟨e.id,e.row,e.cs.set j c,false⟩else e}
def St.aj3 (st:St) (i:Ah) (j:Nat):Bool:=
 match st.look i with
 | some e=> !e.pu&&(match e.cs[j]? with
   | some .s_ =>true
   | _=>false)
 | none=>false
theorem Rn {w:World} {G:AG}: ∀ {cs:List C} {b o j:Nat} {c:C},An w G cs b o->(∀ v d,cs[j]? =some d->Ad w G d v->Ad w G c v)->An w G (cs.set j c) b o
 | [],_,_,_,_,h,_=>by grind
 | d::cs,b,o,0,c,h,hc=>by grind [An]
 | d::cs,b,o,j+1,c,h,hc=>by simp only [An]at h;simp only [List.set_cons_succ,An];exact⟨h.1,Rn h.2 (fun v d hd=>hc v d (by simpa using hd))⟩
theorem R.setCell {F:Fr} {st:St} {a:Act} {w:World} {G:AG} (h:R F st a w G) {i k:Ah} {j:Nat} (hn:st.aj3 i j=true) (hk:G.own k=some (.slice none 0 0)):R F (st.setCell i j (.e_ k)) a w G:={
 dfr:=h.dfr,size:=h.size,v_:=h.v_,F_:=h.F_
 store:=by
  intro e' he';simp only [St.setCell,mem_map]at he';obtain⟨e,he,rfl⟩:=he';split
  ·rename_i hc;simp only [and_eq_true,beq_iff_eq,not_eq_true']at hc;have hE:=h.store e he;have hee: ∃ x,st.look i=some x/\x=e:=by
    unfold St.aj3 at hn;cases hl:st.look i with
    | none=>grind
    | some x=>
      refine⟨x,rfl,?_⟩;obtain⟨hm,hid⟩:=Bj hl;have hp:=List.pairwise_map.1 h.nodup;rcases mem_iff_getElem.1 hm with ⟨p,hp1,rfl⟩;rcases mem_iff_getElem.1 he with ⟨q,hq1,rfl⟩;grind [List.pairwise_iff_getElem]
   obtain⟨x,hx,rfl⟩:=hee;have an8:x.cs[j]? =some .s_ :=by unfold St.aj3 at hn;grind
   have hc': ∀ v d,x.cs[j]? =some d->Ad w G d v->Ad w G (.e_ k) v:=by intro v d hd hr;rw [an8]at hd;injection hd with hd;subst hd;simp only [Ad]at hr ⊢;subst hr;exact⟨hk,rfl⟩
   unfold Bc at hE ⊢;simp only;split at hE
   ·rename_i hrn;obtain⟨b,h1,hbx⟩:=hE;obtain⟨T,cur,h2,h3,h4⟩:=hbx.cells (Yq hx hrn);exact⟨b,h1, .inr ⟨T,cur,h2,by simpa using h3,Rn h4 hc'⟩⟩
   ·obtain⟨hl,v,h1,h2⟩:=hE;refine⟨by grind,v,h1,?_⟩;rcases h2 with h2 | ⟨b,cap,cur,e1,e2,e3,e4,e5,e6,e7⟩
    ·grind
    ·exact .inr ⟨b,cap,cur,e1,e2,e3,e4,e5,e6,Rn e7 hc'⟩
  ·exact h.store e he
 deep:=by
  intro e' he';simp only [St.setCell,mem_map]at he';obtain⟨e,he,rfl⟩:=he';split
  ·rename_i hc;simp only [and_eq_true,beq_iff_eq,not_eq_true']at hc;exact⟨(h.deep e he).1,fun hq=>absurd ((h.deep e he).2 hq).1 (by simp [hc.2])⟩
  ·exact h.deep e he
 x_:=by
  intro e' he';simp only [St.setCell,mem_map]at he';obtain⟨e,he,rfl⟩:=he';split
  ·grind
  ·exact h.x_ e he
 nodup:=by
  have:((st.setCell i j (.e_ k)).so.map (·.id))=st.so.map (·.id):=by simp only [St.setCell,map_map];apply List.map_congr_left;grind
  rw [this];exact h.nodup
 inj:=h.inj,lt:=h.lt,new:=h.new,wr:=h.wr,aaS:=h.aaS,inv:=h.inv,aah:=h.aah,os:=h.os,tape:=h.tape,output:=h.output,u_:=h.u_,ext:=h.ext}
end Go.PL
namespace Go.PL
open Go Go.RowKit
theorem aC {p:Prop} {l:List Prop} (h:p) (k:A1 l):A1 (p::l):=⟨h,k⟩
theorem aN:A1 []:=trivial
abbrev sl (n:Nat) (l:List (Nat×V)) (so:List Aw):St:=⟨v_ n 0 l,so,[],[]⟩
abbrev sg (n:Nat) (l:List (Nat×V)) (so:List Aw) (m:Nat) (g:List (Nat×V)) (p:Ah):St:=⟨v_ n 0 l,so,v_ m 0 g,p⟩
def M5:List Ah->Bool
 | []=>true
 | i::l=> !(l.contains i)&&M5 l
theorem Ii: ∀ {l:List Ah},M5 l=true->l.Nodup
 | [],_=>by simp
 | i::l,h=>by simp only [M5,and_eq_true,not_eq_true']at h;refine nodup_cons.2 ⟨fun hm=>?_,Ii h.2⟩;have:=List.contains_iff_mem.2 hm;rw [h.1]at this;cases this
section
variable {P:Program} {F:Fr} {st:St} {id:Nat} {l:List Oper} {c:Code} {Q:Exit->St->Prop} {cs:List Prop} {K:St->Prop}
theorem Rg (ss:List Stp) (an:St) (hl:A1 cs) (h:Ae P F c an Q) (hr:mR (Jg P F.I false l.toArray l ss st) an=some (cs,an):=by kernel_rfl):Ae P F (.seq (.region id l.toArray false) c) st Q:=Ae.rg an hr hl h
theorem Rp {I:World->Prop} {ops:Array Oper} (n:Nat) (ss:List Stp) (an:St) (hc:A1 cs) (hK:DN P I ops (l.drop n) an K) (h:Jg P I false ops (l.take n) ss st=some (cs,an):=by kernel_rfl):DN P I ops l st K:=Run.part n an h hc hK
theorem Rw {I:World->Prop} {ops:Array Oper} (ss:List Stp) (an:St) (hc:A1 cs) (hK:K an) (h:Jg P I false ops l ss st=some (cs,an):=by kernel_rfl):DN P I ops l st K:=Run.whole an h hc hK
theorem At (an:St) (hh:Ae P F c an Q) (h:st=an:=by kernel_rfl):Ae P F c st Q:=h▸hh
theorem bE {rs:List ResultVar} {e:Exit} {r':V} (v r:V) (hr:r=r') (he:e= .normal \/e= .ret :=by first | exact .inr rfl | exact .inl rfl) (h:xS P st rs=some v:=by kernel_rfl) (hs:xT st rs v=r:=by kernel_rfl) (hp:r.pure=true:=by kernel_rfl):
 (e= .normal \/e= .ret)/\(DA P st rs).1/\(DA P st rs).2.pure =true/\(DA P st rs).2=r':=tG he h hs hp hr
theorem bQ {rs:List ResultVar} {e:Exit} {r':V} (v:V) (hr:v=r') (he:e= .normal \/e= .ret :=by first | exact .inr rfl | exact .inl rfl) (h:xS P st rs=some v:=by kernel_rfl) (hs:xT st rs v=v:=by kernel_rfl) (hp:v.pure=true:=by kernel_rfl):
 (e= .normal \/e= .ret)/\(DA P st rs).1/\(DA P st rs).2.pure =true/\(DA P st rs).2=r':=tG he h hs hp hr
end
theorem Tn {K:St->Prop} {Q:Exit->St->Prop} {st:St} (h:K st):Cq K Q .normal st:=h
theorem Tr {K:St->Prop} {Q:Exit->St->Prop} {st:St} (h:Q .ret st):Cq K Q .ret st:=h
theorem g0 (g:Bool):g=true->A1 []:=fun _=>trivial
theorem g1 (g:Bool):g=true->A1 [g=true->g=true]:=fun _=>⟨id,trivial⟩
theorem g2 (g:Bool):g=true->A1 [g=true->g=true,g=true->g=true]:=fun _=>⟨id,id,trivial⟩
section
variable {l:List Prop}
end
section
variable {α:Type} [Inhabited α] {g:Bool} {o:Option α} {x:α} {p:Prop}
theorem c0 (h:gd g o=some x) (k:o=some x->p):g=true->A1 []/\p:=fun hg=>⟨trivial,k (xP h hg)⟩
theorem c1 (h:gd g o=some x) (k:o=some x->p):g=true->A1 [g=true->g=true]/\p:=fun hg=>⟨⟨id,trivial⟩,k (xP h hg)⟩
theorem c2 (h:gd g o=some x) (k:o=some x->p):g=true->A1 [g=true->g=true,g=true->g=true]/\p:=fun hg=>⟨⟨id,id,trivial⟩,k (xP h hg)⟩
theorem c3 (h:gd g o=some x) (k:o=some x->p):g=true->A1 [g=true->g=true,g=true->g=true,g=true->g=true]/\p:=fun hg=>⟨⟨id,id,id,trivial⟩,k (xP h hg)⟩
end
theorem AeU (k:IntKind): ∀ x,(eI k x).length =1:=fun _=>rfl
theorem Ajg: ∀ x,(eS x).length =1:=fun _=>rfl
section
variable {α:Type} [Inhabited α] {l m r:List α} {i:Int} {x:α} {e:α->List C} {N:Nat}
theorem ald (hx:idx l i=some x) (hN: ∀ y,(e y).length =N) (cs:List C) (b m o n:Nat) (ag:Bool) (v:V) (hc:cs=cs.take b++(l.flatMap e++cs.drop m):=by kernel_rfl) (hb:(cs.take b).length =b:=by kernel_rfl) (hv:toV ag o n (e x)=v:=by kernel_rfl) (ho:Nat.ble (o+n) N=true:=by kernel_rfl) (h0:(ag||Nat.blt 0 n)=true:=by kernel_rfl):
 b+i.toNat*N+o+n<=cs.length/\toV ag (b+i.toNat*N+o) n cs=v:=
 js hc hb hx hN (add_assoc _ _ _) (Nat.le_of_ble_eq_true ho) (by simpa using h0) hv
omit [Inhabited α] in
theorem xo {b:Nat} (h:app b l m=some r) (e:α->List C):l.length+m.length=r.length/\l.flatMap e++m.flatMap e=r.flatMap e:=(by grind [xQ])
end
end Go.PL
namespace Go.PL
open Go Go.RowKit
theorem Zq {id:Ah} {v:V} (h:v.p_ id=false):Ff id v=v:=by simp_all [Ff]
theorem mS {id:Ah}: ∀ {l:List C},BP id l=false->l.map (Ig id)=l
 | [],_=>rfl
 | c::l,h=>by simp only [BP,or_eq_false_iff]at h;rw [map_cons,mS h.2,Ig,if_neg (by simp [h.1])]
def Aw.fre (id:Ah) (e:Aw):Bool:=e.pu|| !BP id e.cs
theorem Aw.agE {id:Ah} {e:Aw} (h:e.fre id=true):e.kill id=e:=by obtain⟨i,r,cs,pu⟩:=e;cases pu<;>simp_all [Aw.fre,Aw.kill,mS]
def Ke:List Nat->Nat->Bool
 | [],_=>false
 | x::l,j=>cond (Nat.beq x j) true (Ke l j)
theorem Fq: ∀ {l:List Nat} {j:Nat},Ke l j=true↔j∈l
 | [],j=>by simp [Ke]
 | x::l,j=>by
   simp only [Ke,mem_cons];cases h:Nat.beq x j
   ·simp only [cond_false,Fq (l:=l)];have:x ≠ j:=fun e=>by simp_all
    grind
   simp_all
def mT (ops:Array Oper) (i:Nat):List Nat:=match ops[i]? with
 | some o=>(o.after.toList.filter (Region.binds .any)).map (·.on)
 | none=>[]
def jt (ops:Array Oper) (pr:List (List Nat)):Bool:=
 (List.range ops.size).all fun i=>(mT ops i).all (fun j=>Nat.blt j i&&Ke (pr.getD i []) j)&&(pr.getD i []).all fun j=>Ke (mT ops i) j||(mT ops i).any fun k=>Ke (pr.getD k []) j
def bv (v:List Bool):Nat->Bool:=fun j=>v.getD j false
section
variable {P:Program} {F:Fr} {ops:Array Oper}
end
end Go.PL
namespace Go.PL
open Go Go.RowKit
def Wk (st an:St):Prop:= ∀ (F:Fr) (a:Act) (w:World) (G:AG),R F st a w G-> ∃ G',R F an a w G'
theorem Wk.less {st an:St} (h:Cp st an):Wk st an:=fun _ _ _ G hR=>⟨G,hR.less h⟩
theorem Wk.trans {a b c:St} (h:Wk a b) (k:Wk b c):Wk a c:=fun F x w G hR=>by obtain⟨G',q⟩:=h F x w G hR;exact k F x w G' q
theorem Wk.frz (st:St) (id:Ah):Wk st (st.freeze id):=fun _ _ _ _ hR=>by obtain⟨G',q,_⟩:=hR.freeze id;grind
theorem wT {st an:St} (h:mQ st an=some an:=by kernel_rfl):Wk st an:=Wk.less (Cp.t h)
section
variable {P:Program} {F:Fr} {st:St}
theorem Ae.wk {c:Code} {an:St} {Q:Exit->St->Prop} (h:Wk st an) (hh:Ae P F c an Q):Ae P F c st Q:=fun a w G hR=>by obtain⟨G',q⟩:=h F a w G hR;exact hh a w G' q
theorem Ae.atY {X:Type} (S:X->St) (inv:X->Prop) (μ:X->Nat) {c:Code} {Q:Exit->St->Prop} (x0:X) (h0:inv x0) (hl:Wk st (S x0))
 (hb: ∀ x,inv x->Ae P F c (S x) (Cq (fun an=> ∃ y,inv y/\μ y<μ x/\Wk an (S y)) Q)):Ae P F (.loop c) st Q:=by
 refine Ae.loop (X:=X×St) (fun p=>p.2) (fun p=>inv p.1/\Wk p.2 (S p.1)) (fun p=>μ p.1) (x0,st) ⟨h0,hl⟩ (Cp.refl _) (fun p hp=>?_);refine(Ae.wk hp.2 (hb p.1 hp.1)).mono fun e an q=>?_;cases e<;>simp only [Cq]at q ⊢ <;>try exact q
 obtain⟨y,h1,h2,h3⟩:=q;exact⟨(y,an),⟨h1,h3⟩,h2,Cp.refl _⟩
theorem It {σ ρ:Type} {B:σ->Option (σ⊕ρ)} (S:σ->St) {N:Nat} {s0:σ} {o:ρ} {c:Code} {Q:Exit->St->Prop} (hi:PL.iter B N s0=some o) (hl:Wk st (S s0))
 (hb: ∀ s z,B s=some z->(∀ o',z= .inr o'->o'=o)->Ae P F c (S s) (Cq (fun an=> ∃ s',z= .inl s'/\Wk an (S s')) Q)):Ae P F (.loop c) st Q:=by
 refine Ae.atY (X:=Nat×σ) (fun x=>S x.2) (fun x=>PL.iter B x.1 x.2=some o) (fun x=>x.1) (N,s0) hi hl ?_;intro ⟨n,s⟩ hx;cases n with
 | zero=>simp [PL.iter]at hx
 | succ n=>
   simp only [PL.iter]at hx;cases hB:B s with
   | none=>grind
   | some z=>
     rw [hB]at hx;cases z with
     | inl s'=>
       refine(hb s _ hB (fun o' e=>by cases e)).mono fun e an q=>?_;cases e<;>simp only [Cq]at q ⊢ <;>try exact q
       obtain⟨s'',e,hl'⟩:=q;injection e with e;subst e;exact⟨(n,s'),hx,Nat.lt_succ_self _,hl'⟩
     | inr r=>
       simp only [Option.some.injEq]at hx;refine(hb s _ hB (fun o' e=>by injection e with e;rw [<-e];exact hx)).mono fun e an q=>?_;cases e<;>simp only [Cq]at q ⊢ <;>try exact q
       grind
theorem Sj {X:Type} (S:X->St) (Φ:X->Prop) {x y:Code} {Q:Exit->St->Prop} (hx:Ae P F x st (Cq (fun an=> ∃ v,Φ v/\Wk an (S v)) Q)) (hy: ∀ v,Φ v->Ae P F y (S v) Q):Ae P F (.seq x y) st Q:=
 Ae.seq (hx.mono fun e an q=>by
  cases e<;>simp only [Cq]at q ⊢ <;>try exact q
  grind [Ae.wk])
end
theorem fT {α:Type} (e:α->List C) (x:α) {z:List C} (hz:z=e x) (hp:0<z.length): ∀ k,Cj z k=(List.replicate k x).flatMap e:=by
 intro k;subst hz;apply List.ext_getElem?;intro i;have hlen:((List.replicate k x).flatMap e).length =k*(e x).length :=by simp_all
 by_cases hi:i<k*(e x).length
 ·have hm:i % (e x).length <(e x).length :=Nat.mod_lt _ hp;have key: ∀ k i,i<k*(e x).length ->((List.replicate k x).flatMap e)[i]? =(e x)[i % (e x).length]? :=by intro k;induction k<;>grind [Nat.mod_eq_of_lt,getElem?_append_right,Nat.mod_eq_sub_mod]
  grind [Cj]
 grind [Cj]
theorem xW {α:Type} {s c:List α} {a b:Int} (h:qR s a b=some c):0<=a/\a<=b/\b<=s.length:=by grind [qR]
theorem xX {α:Type} {s c:List α} {a b:Int} (h:qR s a b=some c):c=(s.drop a.toNat).take (b.toNat - a.toNat):=by grind [qR]
theorem Jy {α:Type} {e:α->List C} {N:Nat} (hN: ∀ x,(e x).length =N): ∀ (l:List α) (k:Nat),(l.flatMap e).drop (k*N)=(l.drop k).flatMap e
 | l,0=>by simp
 | [],k+1=>by simp
 | x::l,k+1=>by rw [flatMap_cons,List.drop_succ_cons, <-Jy hN l k,Nat.succ_mul,add_comm, <-drop_drop];congr 1;rw [<-hN x,drop_left]
theorem Hp {α:Type} {e:α->List C} {N:Nat} (hN: ∀ x,(e x).length =N): ∀ (l:List α) (k:Nat),(l.flatMap e).take (k*N)=(l.take k).flatMap e
 | l,0=>by simp
 | [],k+1=>by simp
 | x::l,k+1=>by rw [flatMap_cons,List.take_succ_cons,flatMap_cons, <-Hp hN l k,Nat.succ_mul,add_comm, <-hN x,List.take_length_add_append]
theorem Ajh {α:Type} {l r:List α} {a b:Int} {e:α->List C} {N:Nat} (h:qR l a b=some r) (hN: ∀ x,(e x).length =N):V.c (.sl (b.toNat - a.toNat) (((l.flatMap e).drop (a.toNat*N)).take ((b.toNat - a.toNat)*N)))=vL e r:=by
 have hb:=xW h;rw [Jy hN,Hp hN, <-xX h];have:r.length=b.toNat - a.toNat:=by rw [xX h,List.length_take,List.length_drop];omega
 grind
theorem amS {α:Type} {enc:α->List C} {n:Nat} (hn: ∀ x,(enc x).length =n) (l:List α):(l.flatMap enc).length =l.length*n:=BQ hn l
end Go.PL
namespace Go.PL
open Go Go.RowKit
def D6 (s:List UInt8):List Int:=s.map fun b=>(b.toNat:Int)
def tL (P:Program) (dst:TypeId):Option TypeId:=match P.underlying dst with
 | some (.slice e)=>match P.underlying e with
   | some (.int .u8)=>some e
   | _=>none
 | _=>none
theorem qT {P:Program} {dst e:TypeId} (h:tL P dst=some e):P.underlying dst=some (.slice e)/\P.underlying e=some (.int .u8):=by grind [tL]
theorem SF {w:World} {G:AG} {e:TypeId} (s:List UInt8): ∀ (l:List UInt8) (k:Nat),s.drop k=l->An (Lib.bytesWorld w e ⟨s.toArray⟩) G ((D6 l).flatMap (eI .u8)) w.heap.size k
 | [],_,_=>by simp [D6,An]
 | b::l,k,h=>by
   have hk:k<s.length:=by grind [List.drop_eq_nil_of_le]
   have hb:s.getD k 0=b:=by have:=congrArg (fun l=>l.head?) h;grind [List.head?_drop]
   have hd:s.drop (k+1)=l:=by have:=congrArg List.tail h;simpa using this
   simp only [D6,map_cons,flatMap_cons,eI,cons_append,List.nil_append,An,Ad];refine⟨⟨_,Lib.bytesWorld_cell w e ⟨s.toArray⟩ k (by simpa [ByteArray.size] using hk),?_⟩,SF s l (k+1) hd⟩;simp only [getD_eq_getElem?_getD]at hb;simp [getD_eq_getElem?_getD,hb]
theorem DJ.bytes {P:Program} {I:World->Prop} {o:Oper} {st:St} {K:St->Prop} {x:Operand} {src dst:TypeId} (e:TypeId) (s:List UInt8)
 (ho:o.op= .convert src dst x) (hlen:s.length<=140737488355328) (hK:K (st.put o.dst (vL (eI .u8) (D6 s)))) (ha:st.ev x= .c (.str s):=by kernel_rfl)
 (hs:Eh P src=true:=by kernel_rfl) (hd:tL P dst=some e:=by kernel_rfl):DJ P I o st K:=by
 intro F a w G Q hI hR;obtain⟨h1,h2⟩:=qT hd;have hx:=hR.ev x;rw [ha]at hx;simp only [Ab,Ad]at hx;obtain⟨u,hu⟩: ∃ u,P.underlying src=some u:=by unfold Eh at hs;grind
 have q_:(execOp a.eval o).run P w= .ok (.value (.slice (some ⟨w.heap.size,0,none⟩) s.length (grownCap w s.length 0 e))) (Lib.bytesWorld w e ⟨s.toArray⟩):=by simp_all [Lib.run_convert_string_bytes,execOp,ByteArray.size]
 refine AJ q_ ⟨_,G,hK,?_⟩;have hb:=Lib.bytesWorld_below w e ⟨s.toArray⟩;refine(hR.same (Ek hb) (FO hb)).put ?_;have hl:(D6 s).length =s.length:=by simp [D6]
 simp only [Ab,Ad,hl];refine⟨(by grind [AV,eI,Ao,C.pure]),_,_,rfl,grownCap_ge _ _ _ _,(by grind [grownCap_le_maxLen,maxLen]),fun h0=>?_, .inr ⟨w.heap.size,0,rfl,fun hw=>absurd (hR.ajk hw) (by omega),?_,SF s s 0 rfl⟩⟩
 all_goals grind [Lib.bytesWorld_size]
end Go.PL
namespace Go.PL
open Go Go.RowKit
theorem DJ.aiv {P:Program} {I:World->Prop} {o:Oper} {st:St} {K:St->Prop} {t ty:TypeId} {x:Operand} {len:Nat} {cs:List C}
 (ho:o.op= .binOp .eql t x (.const (.slice none 0 0)) ty) (hK: ∀ b,(b=true->len=0)->K (st.put o.dst (vB b)))
 (hx:st.ev x= .c (.sl len cs):=by kernel_rfl) (ht:EV P t=true:=by kernel_rfl):DJ P I o st K:=by
 intro F a w G Q hI hR;obtain⟨e,hu⟩:=EW ht;have hv:=hR.ev x;rw [hx]at hv;simp only [Ab,Ad]at hv;obtain⟨_,p,cap,he,_,_,_,hz⟩:=hv;have q_:(execOp a.eval o).run P w= .ok (.value (.bool p.isNone)) w:=by have hq:=run_equal_slice_nil (P:=P) w t e p len cap hu;have hc:a.eval (.const (.slice none 0 0))= .slice none 0 0:=rfl;simp_all [execOp,eqGuard,binOp]
 refine AJ q_ ⟨_,G,hK p.isNone (fun hp=>?_),hR.put (by simp only [Ab,Ad])⟩;grind
end Go.PL
namespace Go.PL
open Go Go.RowKit
structure B1 (P:Program) (I:World->Prop) (f:FuncId) (args:List V) (E n:Nat) (Q:Nat->List C->Prop):Prop where
 ent:ent P f=true
 run: ∀ (w:World) (vs:Array Value) (av:Nat->Prop),I w->(∀ b,av b->b<w.heap.size)->Aq w (im av) args vs.toList->
  Calls P f vs w (fun e w'=> ∃ v len cs us,e= .returned v/\Q len cs/\Ao cs=true/\cs.length=len*n/\
   ((∃ p,v= .slice p 0 0/\len=0)\/Aj w' (im fun b=>av b\/v.ownBlock=some b) cs us/\w'.ownsRow w.heap.size E n v len us)/\Below w.heap.size w w')
def Aji (st:St) (t:Nat) (E n:Nat) (Q:Nat->List C->Prop):Prop:=
 (∃ id e len,st.get t= .c (.e_ id)/\st.look id=some e/\e.row=some (E,n,len)/\Ao e.cs=true/\Q len e.cs)\/(st.get t= .c .s_ /\Q 0 [])
theorem B1.of {P:Program} {I:World->Prop} (hst:J8 I) {f:FuncId} {fn:Func} {c:Code} {args:List V} {E n t m:Nat} {Q:Nat->List C->Prop} (abr:PL.ent P f=true) (hf:P.funcs[f]? =some fn) (hb:fn.body=some c)
 (hr:fn.results= #[.tmp t]) (hn:fn.ntmps=m)
 (h: ∀ w0 av old gv,Ae P ⟨w0,av,old,I,gv⟩ c (St.start args m) (fun e an=>(e= .normal \/e= .ret)/\Aji an t E n Q)):B1 P I f args E n Q:=by
 refine⟨abr,fun w vs av hI hav ab9=>calls_of_wp hf hb ?_⟩;subst hn;have hR:=R.start hst hI hav ab9 fn.ntmps;refine Code.wp_mono (fun e a' w' ⟨an,G',⟨he,q⟩,hR'⟩=>?_) (h _ _ _ _ _ _ _ hR);have fin:a'.defers=[]/\ ∃ v,(results fn a'.tmps).run P w'= .ok v w'/\(fun(e:Ending) w''=> ∃ v len cs us,e= .returned v/\Q len cs/\Ao cs=true/\cs.length=len*n/\
  ((∃ p,v= .slice p 0 0/\len=0)\/Aj w'' (im fun b=>av b\/v.ownBlock=some b) cs us/\w''.ownsRow w.heap.size E n v len us)/\Below w.heap.size w w'') (.returned v) w':=by
  have ay0:(results fn a'.tmps).run P w'= .ok (a'.tmps.getD t Go.undef) w':=by simp_all [F9,J9]
  refine⟨hR'.dfr,_,ay0,?_⟩;have avt:=hR'.below (fun _ hx=>hx);have hsl:=hR'.v_ t;rcases q with ⟨id,e,len,q1,q2,q3,q4,q5⟩ | ⟨q1,q2⟩
  ·have amN:Ab w' G' (an.get t) (a'.tmps.getD t Go.undef):=hsl;rw [q1]at amN;simp only [Ab,Ad]at amN;obtain⟨hm,hid⟩:=Bj q2;obtain⟨v,us,k1,k2,k3,k4⟩:=DB q3 (hR'.store e hm);have hE:=hR'.store e hm;have hl:e.cs.length=len*n:=by grind [Bc]
   rw [hid]at k1;rw [k1]at amN;have hv:v=a'.tmps.getD t Go.undef:=by grind
   refine⟨_,len,e.cs,us,rfl,q5,q4,hl,?_,avt⟩;rw [<-hv];rcases k4 with ⟨k4,k5⟩ | ⟨p,rfl,k5,_⟩
   ·refine .inr ⟨Aj.mono (G:=G') ⟨le_refl _,fun _ _ _=>rfl,fun b _ hw=>?_,fun _ _ _ _=>Cg.same rfl⟩ _ _ (fun i hi=>absurd (show BP i e.cs=true from hi) (by rw [AP i e.cs q4];simp)) k3,?_⟩
    ·rw [hR'.wr];have hw':av b\/v.ownBlock=some b:=hw;grind
    ·refine⟨k4.1,?_⟩;rcases k4.2 with ⟨q,h0⟩ | ⟨g,cap,cur,q,z1,z2,z3,z4,z5,z6⟩
     ·grind
     ·refine .inr ⟨g,cap,cur,q,?_,z2,z3,z4,z5,z6⟩;have hg:G'.m_ e.id=some g:=by rw [<-k5,q];rfl
      rcases hR'.new _ _ hg with q' | q'
      all_goals grind
   grind
  ·have amN:Ab w' G' (an.get t) (a'.tmps.getD t Go.undef):=hsl;rw [q1]at amN;simp only [Ab,Ad]at amN;exact⟨_,0,[],[],rfl,q2,rfl,by simp,(by grind),avt⟩
 rcases he with rfl | rfl<;>exact fin
end Go.PL
namespace Go.PL
open Go Go.RowKit
theorem B1.flat {P:Program} {I:World->Prop} {f:FuncId} {args:List V} {E n k:Nat} {ds:List C} (h:B1 P I f args E n (fun len cs=>len=k/\cs=ds)):Cd P I f args (· = .c (.sl k ds)):=by
 refine⟨h.ent,fun w vs av hI hav hr=>(h.run w vs av hI hav hr).mono ?_⟩;rintro e w' ⟨v,len,cs,us,he,⟨rfl,rfl⟩,hp,hl,hv,hb⟩;refine⟨v,_,he,rfl,by simp only [V.pure,C.pure],?_,hb⟩;simp only [Ab,Ad];refine⟨hp,?_⟩;rcases hv with ⟨p,rfl,rfl⟩ | ⟨hr,aam⟩
 ·grind
 ·have h0:len=0->cs=[]:=fun h0=>(by simp_all);rcases aam.2 with ⟨q,q0⟩ | ⟨g,cap,cur,q,z1,z2,z3,z4,z5,z6⟩
  ·grind
  ·refine⟨_,cap,q,z3,z4,h0, .inr ⟨g,0,rfl,fun ha=>?_,(by grind),?_⟩⟩
   ·have:=hav g ha;omega
   ·refine An.aaA (vs:=us) ?_ (by grind [BE,take_append_drop]);exact Aj.mono (G:=im fun b=>av b\/v.ownBlock=some b) ⟨le_refl _,fun _ _ _=>rfl,fun b _ hw=> .inl hw,fun _ _ _ _=>Cg.same rfl⟩ _ _ (fun i hi=>absurd (show BP i cs=true from hi) (by rw [AP i cs hp];simp)) hr
end Go.PL
namespace Go.PL
open Go Go.RowKit
section
variable {P:Program} {F:Fr} {st:St}
def xY (Q:Exit->St->Prop):Exit->St->Prop
 | .goto _,_=>False
 | e,st=>Q e st
theorem Ae.label {l:Nat} {Q:Exit->St->Prop} (h:Q .normal st):Ae P F (.label l) st Q:=fun _ _ G hR=>wp_label ⟨st,G,h,hR⟩
theorem Ae.scope {c:Code} {Q:Exit->St->Prop} (h:Ae P F c st (xY Q)):Ae P F (.scope c) st Q:=
 fun a w G hR=>wp_scope_straight (Code.wp_mono (fun e a' w' ⟨an,G',q,hR'⟩=>by
  cases e<;>simp only [Exit.noGoto,xY]at q ⊢ <;>first
   | exact q.elim
   | grind) (h a w G hR))
end
end Go.PL
namespace Go.PL
open Go Go.RowKit
end Go.PL
namespace Go.PL
open Go Go.RowKit Go.Lib
end Go.PL
namespace Go.PL
open Go Go.RowKit
section
variable {P:Program} {F:Fr} {st:St} {ops:Array Oper}
end
end Go.PL
namespace Go.PL
open Go Go.RowKit
end Go.PL
namespace Go.PL
open Go Go.RowKit Go.MapKept
section
variable {F:Fr} {st:St} {a:Act} {w:World} {G:AG}
end
section
variable {P:Program} {I:World->Prop} {o:Oper} {st:St} {K:St->Prop}
end
end Go.PL
namespace Go.PL
open Go Go.RowKit
theorem DJ.apI {P:Program} {I:World->Prop} {o:Oper} {st:St} {K:St->Prop} {x:Operand} {xs:List Operand} {c:Call} {s:Prop} {vs:List V} {f:FuncId} {cs:List C} {fn:Func} {body:Code} {n:Nat} {rs:List ResultVar} (k:Nat)
 (ho:o.op= .call c) (aev:c.callee= .value x) (hxs:c.args.toList=xs) (ha:st.args true xs=(s,vs)) (hs:s) (hf:st.ev x= .c (.bmv f cs)) (abr:ent P f=true) (hfn:P.funcs[f]? =some fn) (hb:fn.body=some body) (hn:fn.ntmps=n) (hr:fn.results=rs.toArray)
 (h: ∀ w0 av old gv,Ae P ⟨w0,av,old,I,gv⟩ body (st.enter k (cs.map V.c++vs) n) (inQ P rs st.tm.length st.pre o.dst K)):DJ P I o st K:=by
 intro F a w G Q hI hR;have ab9:Aq w G vs (xs.map a.eval):=by have:=hR.args (g:=true) rfl (xs:=xs) (by grind);grind
 obtain⟨arr,hev,hcs⟩: ∃ arr:Array Value,a.eval x= .func (.func f) arr #[]/\Aj w G cs arr.toList:=by have hx:=hR.ev x;grind [Ab,Ad]
 have q_:(execOp a.eval o).run P w= .ok (.enter f (arr++(xs.map a.eval).toArray)) w:=by
  have e:c.args.map a.eval=(xs.map a.eval).toArray :=by grind
  grind [execOp,resolve,Deferred.ofValue,invoke,acn]
 unfold Oper.wp Oper.upon;rw [q_];simp only;obtain⟨w0,av,old,I',gv⟩:=F;simp only at hI;subst hI;have af5:Aq w G (cs.map V.c++vs) (arr++(xs.map a.eval).toArray).toList :=by grind [Jf,UX]
 refine calls_of_wp hfn hb ?_;have hR0:=hR.enter k af5 fn.ntmps;rw [hn]at hR0;rw [hn];refine Code.wp_mono (fun e a' w' ⟨an,G',q,hR'⟩=>?_) (h _ _ _ _ _ _ _ hR0);have hrs:fn.results.toList=rs:=by rw [hr]
 have fin:(CA P an rs).1/\K (an.back st.tm.length st.pre o.dst (CA P an rs).2)->
  a'.defers=[]/\ ∃ v,(results fn a'.tmps).run P w'= .ok v w'/\mv ⟨w0,av,old,I',gv⟩ K (a.put o.dst v) w':=by
  intro ⟨q1,q2⟩;rw [<-hrs]at q1 q2;obtain⟨v,k1,k2⟩:=MZ hR' (fn:=fn) q1;refine⟨hR'.dfr,v,k1,_,G',q2,?_⟩;exact(R.back hR.dfr rfl hR' hR.size.symm st.pre).put k2
 cases e<;>simp only [inQ]at q<;>first | exact fin q | exact q.elim
end Go.PL
